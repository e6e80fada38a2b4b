/- Part 2 of the texts that the last one leans on: SxDrawnT, Tab, ReadM, Glob, CmpM, ReadS, SxAuto3, Cmp7, Lists7, Utf1, Utf04, StrLib. Conditions: as each part says. -/
import Derived.Test.YtpffclpheldabaaGreatDoorProg
import Derived.Test.YtpffclpheldabaaGreatDoorRows
import Derived.Lib.LaidTab
import Derived.LaidSub
import Derived.Lib.Bytealg
import Derived.Lib.Strings
import Derived.Test.YtpffclpheldabaaGreatDoorVa1
/- Regions whose order is drawn: the walk in one order is sound for every order. Conditions: none. -/
set_option linter.unusedVariables false
set_option linter.unusedSimpArgs false
namespace Go.Sx
open Go
/-- Until one of these has come up, what stood in that world stands. -/
def SS (ks : List Nat) (wc : World) (l : Array Bool) (w : World) : Prop := (∀ k ∈ ks, l.getD k false = false) → agree wc w
section
variable {M : Mx} {ops : Array Oper} {Q : Exit → Act → World → Prop}
theorem killsOf_quiet {i m : Nat} {rest : Plan} (h : m ≠ 0) : killsOf (.take i m rest) = killsOf rest := by
  cases m with
  | zero => exact (h rfl).elim
  | succ m => rfl
theorem killsOf_kill {i : Nat} {rest : Plan} : killsOf (.take i 0 rest) = i :: killsOf rest := rfl
theorem getD_false_of_true {l : Array Bool} {i : Nat} (h : l.getD i true = false) : l.getD i false = false := by
  rcases Nat.lt_or_ge i l.size with h' | h'
  · simp [h'] at h ⊢; exact h
  · simp [Array.getElem?_eq_none h'] at h
theorem models_put {η : Env} {fr : Fr} {O : Hps} {nx : Nat} {a : Act} {w : World} (hm : Models M η fr O nx a w) {o : Oper} (hd : dstOk M.C.N o.dst = true) {u : Value} {v : SV} (hv : Den η v u) {Kp : Fr → Prop} (hk : putK o.dst v fr Kp) :
    ∃ fr', Kp fr' ∧ Models M η fr' O nx (a.put o.dst u) w := hm.put hd List.prefix_rfl hm.heap hv hk
/-- A quiet operation, taken first. -/
theorem quiet_first (hQ : ∀ c a w, ¬ Q (.panic c) a w) (hs : Region.noSelect ops = true) {i n : Nat} {o : Oper} {l : Array Bool} {ks : List Nat} (ho : ops[i]? = some o) (hready : i ∈ Region.ready .any ops l) (hfree : Region.free .any ops l i = true) (hne : ∀ k ∈ ks, k ≠ i) (hc : Closed .any ops l)
    {N : World → Prop} {wc : World} (hN : ∀ l w, Closed .any ops l → l.getD i true = false → SS ks wc l w → N w) {a : Act} {w : World} {u : Value} (hy : YieldsN M.P ops N o u a) (hag : agree wc w)
    (h : wpH M.P .any ops Q (SS ks wc) n (l.setIfInBounds i true) (a.put o.dst u) w) : wpH M.P .any ops Q (SS ks wc) (n + 1) l a w := by
  refine wpH_first ho (Region.noSelect_spec hs) (fun c a w hq => (hQ _ _ _ hq).elim) hN (fun l' w' hc' hun hr hS hk => hS fun k hk' => ?_) n l a w hc (Region.free_spec ho hfree) hready hy (fun _ => hag) (fun _ => hag) h
  rw [getD_set_ne false (Ne.symm (hne k hk'))]; exact hk k hk'
theorem HeapOK.drawn {η : Env} {w : World} {O : Hps} {nx : Nat} (H : HeapOK M η w O nx) {n : Nat} (hn : w.drawn ≤ n) : HeapOK M η { w with drawn := n } O nx :=
  ⟨H.pre, H.len, ⟨fun i h hi => ⟨(H.own.1 i h hi).1.keep fun _ _ => rfl, (H.own.1 i h hi).2⟩, H.own.2⟩, ⟨H.fr.os, H.fr.tape, H.fr.output, Nat.le_trans H.fr.drawn hn, H.fr.size, H.fr.block⟩, H.sok⟩
/-- One operation, in a mode that may write: whatever comes of it. -/
theorem oneD_op (hT : TabOK M.P M.C.T) {i : Nat} {fr : Fr} {O : Hps} {nx : Nat} {Kn : Fr → Hps → Nat → Prop} (h : oneD M ops.toList i 0 fr O nx Kn) {η : Env} {a : Act} {w : World} (hm : Models M η fr O nx a w) {R : Act → World → Prop}
    (hR : ∀ {fr : Fr} {O : Hps} {nx : Nat} {η : Env} {a : Act} {w : World}, Kn fr O nx → Models M η fr O nx a w → R a w) : wpOp M.P ops Q i R a w := by
  unfold oneD at h
  split at h
  · exact h.out.elim
  rename_i o ho
  have ho : ops[i]? = some o := by rw [nth_get] at ho; simpa using ho
  have skip : ∀ {fr' : Fr}, Models M η fr' O nx a w → Region.wanted o (yielded ops a.tmps) ≠ true → (match dstOk M.C.N o.dst with | true => putK o.dst undefS fr' fun fr => Kn fr O nx | false => STOP "slot") → wpOp M.P ops Q i R a w := by
    intro fr' hm' hw h
    split at h
    case h_2 => exact h.out.elim
    rename_i hd
    obtain ⟨fr2, h1, h2⟩ := models_put hm' hd (denNone η) h
    unfold wpOp
    simp only [ho]
    rw [if_neg hw]; exact hR h1 h2
  have go : ∀ {fr' : Fr}, Models M η fr' O nx a w → Region.wanted o (yielded ops a.tmps) = true → (stepO M o (lookF fr') O nx fun v O nx => putK o.dst v fr' fun fr => Kn fr O nx) → wpOp M.P ops Q i R a w := by
    intro fr' hm' hw h
    unfold wpOp
    simp only [ho]
    rw [if_pos hw]
    refine .inl (stepO_wp hT hm' (fun x sv hx => lookF_den hm'.frame hx) h fun u v O' nx' η' w' hd hp hH hv hk => ?_)
    obtain ⟨fr2, h1, h2⟩ := hm'.put hd hp hH hv hk
    exact hR h1 h2
  split at h
  · rename_i hg
    exact go hm (wanted_none hg) h
  · rename_i j want hg
    split at h
    · exact h.out.elim
    rename_i s hsl
    split at h
    · rename_i b hb
      have hbv := denBool (hm.frame s _ hb)
      have hy := yielded_of hsl hbv
      cases b with
      | true =>
        have h := h.t rfl
        have hm' : Models M η ((s, .bool true) :: fr) O nx a w := ⟨hm.heap, hm.size, hm.defers, hm.frame.know hbv⟩
        cases want with
        | true => exact go hm' ((wanted_some hg).2 hy) h
        | false => exact skip hm' (fun hw => by rw [wanted_some hg, hy] at hw; cases hw) h
      | false =>
        have h := h.f rfl
        have hm' : Models M η ((s, .bool false) :: fr) O nx a w := ⟨hm.heap, hm.size, hm.defers, hm.frame.know hbv⟩
        cases want with
        | false => exact go hm' ((wanted_some hg).2 hy) h
        | true => exact skip hm' (fun hw => by rw [wanted_some hg, hy] at hw; cases hw) h
    · rename_i hb
      have hbv := hm.frame s _ hb
      simp only [Den, DenL] at hbv
      obtain ⟨vs, hbv, rfl⟩ := hbv
      exact skip hm (fun hw => by rw [wanted_some hg] at hw; exact yielded_not hsl (by rw [hbv]; simp) hw) h
    · exact h.out.elim
theorem runD_sound (hT : TabOK M.P M.C.T) (hQ : ∀ c a w, ¬ Q (.panic c) a w) (hs : Region.noSelect ops = true) : ∀ (steps : Plan) {fr : Fr} {O : Hps} {nx : Nat} {K : Fr → Hps → Nat → Prop}, runD M ops.toList steps fr O nx K →
    ∀ {l : Array Bool}, stepsOK ops (masks ops.toList []) steps l = true → Closed .any ops l → ∀ {η : Env} {a : Act} {w : World}, Models M η fr O nx a w → (∀ η fr O nx a w, Models M η fr O nx a w → K fr O nx → Q .normal a w) →
    ∀ {wc : World}, agree wc w → wpH M.P .any ops Q (SS (killsOf steps) wc) steps.depth l a w
  | .nil, fr, O, nx, K, h, l, hl, hc, η, a, w, hm, hq, wc, hag => by
    simp only [stepsOK, List.isEmpty_iff] at hl
    exact ⟨hl, hq η fr O nx a w hm h⟩
  | .take i m rest, fr, O, nx, K, h, l, hl, hc, η, a, w, hm, hq, wc, hag => by
    have IH := @runD_sound hT hQ hs rest
    unfold runD oneD at h
    split at h
    · exact h.out.elim
    rename_i o ho
    have ho : ops[i]? = some o := by rw [nth_get] at ho; simpa using ho
    simp only [stepsOK, Bool.and_eq_true] at hl
    obtain ⟨hl1, hl2⟩ := hl
    have hready : i ∈ Region.ready .any ops l := by
      revert hl1
      split <;> intro hl1
      · rw [beq_iff_eq.1 hl1]; exact List.mem_singleton.2 rfl
      · simp only [Bool.and_eq_true] at hl1; simpa using hl1.1.1
      · simp only [Bool.and_eq_true] at hl1; simpa using hl1.1.1
      · rw [beq_iff_eq.1 hl1]; exact List.mem_singleton.2 rfl
    have hc' := hc.set hready
    have hin : i < l.size := by rw [hc.1]; exact (Array.getElem?_eq_some_iff.1 ho).1
    have hset : (l.setIfInBounds i true).getD i false = true := by simp [hin]
    have modes : ∀ {p : Prop}, (m = 0 → p) → (m = 1 → p) → (m = 2 → p) → (3 ≤ m → p) → p := by
      intro p h0 h1 h2 h3
      match m, h0, h1, h2, h3 with
      | 0, h0, _, _, _ => exact h0 rfl
      | 1, _, h1, _, _ => exact h1 rfl
      | 2, _, _, h2, _ => exact h2 rfl
      | m + 3, _, _, _, h3 => exact h3 (by omega)
    -- an operation that waits for nobody's leave: but this one may come up
    have alone : Region.ready .any ops l = [i] → ∀ {a : Act} {w : World}, agree wc w → wpOp M.P ops Q i (fun a' w' => SS (killsOf (.take i m rest)) wc (l.setIfInBounds i true) w' ∧ wpH M.P .any ops Q (SS (killsOf (.take i m rest)) wc) rest.depth (l.setIfInBounds i true) a' w') a w →
        wpH M.P .any ops Q (SS (killsOf (.take i m rest)) wc) (Plan.take i m rest).depth l a w := fun hr a w hag h => wpH_one hr h
    -- what follows an operation that writes
    have afterKill : m = 0 → ∀ {fr : Fr} {O : Hps} {nx : Nat} {η : Env} {a : Act} {w : World}, runD M ops.toList rest fr O nx K → Models M η fr O nx a w →
        SS (killsOf (.take i m rest)) wc (l.setIfInBounds i true) w ∧ wpH M.P .any ops Q (SS (killsOf (.take i m rest)) wc) rest.depth (l.setIfInBounds i true) a w := by
      intro h0 fr O nx η a w hrun hm
      subst h0
      rw [killsOf_kill]
      have hno : ∀ l' w', Grows (l.setIfInBounds i true) l' → SS (i :: killsOf rest) wc l' w' := by
        intro l' w' hg hk
        have h1 := hk i (List.mem_cons_self ..)
        rw [hg i hset] at h1; cases h1
      exact ⟨hno _ _ (fun _ h => h), wpH_mono (l0 := l.setIfInBounds i true) (fun l' w' hg _ => hno l' w' hg) _ _ _ _ (fun _ h => h) (IH hrun hl2 hc' hm hq (agree.refl w))⟩
    -- what follows one that does not
    have afterElse : m ≠ 0 → ∀ {fr : Fr} {O : Hps} {nx : Nat} {η : Env} {a : Act} {w : World}, runD M ops.toList rest fr O nx K → Models M η fr O nx a w → agree wc w →
        SS (killsOf (.take i m rest)) wc (l.setIfInBounds i true) w ∧ wpH M.P .any ops Q (SS (killsOf (.take i m rest)) wc) rest.depth (l.setIfInBounds i true) a w := by
      intro h0 fr O nx η a w hrun hm hag
      rw [killsOf_quiet h0]
      exact ⟨fun _ => hag, IH hrun hl2 hc' hm hq hag⟩
    have quiet1 : m = 1 → Region.free .any ops l i = true ∧ ∀ k ∈ killsOf rest, k ≠ i := by
      intro h1; subst h1
      simp only [Bool.and_eq_true, List.all_eq_true, bne_iff_ne] at hl1
      exact ⟨hl1.1.2, hl1.2⟩
    have quiet2 : m = 2 → Region.free .any ops l i = true ∧ ∀ k ∈ killsOf rest, k ≠ i ∧ ((masks ops.toList []).getD k 0).testBit i = true := by
      intro h1; subst h1
      simp only [Bool.and_eq_true, List.all_eq_true, bne_iff_ne] at hl1
      exact ⟨hl1.1.2, hl1.2⟩
    have alone0 : m = 0 → Region.ready .any ops l = [i] := by intro h1; subst h1; exact beq_iff_eq.1 hl1
    have alone3 : 3 ≤ m → Region.ready .any ops l = [i] := by
      intro h1
      match m, h1, hl1 with
      | m + 3, _, hl1 => exact beq_iff_eq.1 hl1
    -- it is passed over
    have skip : ∀ {fr' : Fr}, Models M η fr' O nx a w → Region.wanted o (yielded ops a.tmps) ≠ true → (match dstOk M.C.N o.dst with | true => putK o.dst undefS fr' fun fr => runD M ops.toList rest fr O nx K | false => STOP "slot") →
        wpH M.P .any ops Q (SS (killsOf (.take i m rest)) wc) (Plan.take i m rest).depth l a w := by
      intro fr' hm' hw h
      split at h
      case h_2 => exact h.out.elim
      rename_i hd
      obtain ⟨fr2, h1, h2⟩ := models_put hm' hd (denNone η) h
      have hwf : Region.wanted o (yielded ops a.tmps) = false := by simpa using hw
      have op : ∀ {K' : Act → World → Prop}, K' (a.put o.dst undef) w → wpOp M.P ops Q i K' a w := by
        intro K' hk
        unfold wpOp
        simp only [ho]
        rw [if_neg hw]; exact hk
      refine modes (fun h0 => alone (alone0 h0) hag (op (afterKill h0 h1 h2))) (fun h0 => ?_) (fun h0 => ?_) (fun h0 => alone (alone3 h0) hag (op (afterElse (by omega) h1 h2 hag)))
      · have hn : m ≠ 0 := by omega
        have := (afterElse hn h1 h2 hag).2
        rw [killsOf_quiet hn] at this ⊢
        exact quiet_first hQ hs ho hready (quiet1 h0).1 (quiet1 h0).2 hc (N := fun _ => True) (fun _ _ _ _ _ => trivial) (.inr ⟨hwf, rfl⟩) hag this
      · have hn : m ≠ 0 := by omega
        have := (afterElse hn h1 h2 hag).2
        rw [killsOf_quiet hn] at this ⊢
        exact quiet_first hQ hs ho hready (quiet2 h0).1 (fun k hk => ((quiet2 h0).2 k hk).1) hc (N := fun _ => True) (fun _ _ _ _ _ => trivial) (.inr ⟨hwf, rfl⟩) hag this
    -- it is carried out
    have go : ∀ {fr' : Fr}, Models M η fr' O nx a w → Region.wanted o (yielded ops a.tmps) = true → (carry M m o fr' O nx fun v O nx => putK o.dst v fr' fun fr => runD M ops.toList rest fr O nx K) →
        wpH M.P .any ops Q (SS (killsOf (.take i m rest)) wc) (Plan.take i m rest).depth l a w := by
      intro fr' hm' hw h
      have op : ∀ {K' : Act → World → Prop}, o.wp M.P a w K' Q → wpOp M.P ops Q i K' a w := by
        intro K' hk
        unfold wpOp
        simp only [ho]
        rw [if_pos hw]; exact .inl hk
      refine modes (fun h0 => ?_) (fun h0 => ?_) (fun h0 => ?_) (fun h0 => ?_)
      · have h : stepO M o (lookF fr') O nx fun v O nx => putK o.dst v fr' fun fr => runD M ops.toList rest fr O nx K := by subst h0; exact h
        refine alone (alone0 h0) hag (op (stepO_wp hT hm' (fun x sv hx => lookF_den hm'.frame hx) h fun u v O' nx' η' w' hd hp hH hv hk => ?_))
        obtain ⟨fr2, h1, h2⟩ := hm'.put hd hp hH hv hk
        exact afterKill h0 h1 h2
      · have h : stepQ M.C.N (cxBlind M.C) o fr' nx fun v => putK o.dst v fr' fun fr => runD M ops.toList rest fr O nx K := by subst h0; exact h
        obtain ⟨hd, u, v, hy, hv, hk⟩ := stepQ_yields (P := M.P) (C' := cxBlind M.C) ⟨hT.und, hT.info, hT.zero, hT.zsh, hT.flat⟩ (N := fun _ => True) (w := w) hm'.frame (fun w' _ => HeapOK.blind (M := M) hm'.heap.len w') trivial h
        obtain ⟨fr2, h1, h2⟩ := models_put hm' hd hv hk
        have hn : m ≠ 0 := by omega
        have := (afterElse hn h1 h2 hag).2
        rw [killsOf_quiet hn] at this ⊢
        exact quiet_first hQ hs ho hready (quiet1 h0).1 (quiet1 h0).2 hc (N := fun _ => True) (fun _ _ _ _ _ => trivial) (.inl ⟨hw, fun w' h => hy w' h⟩) hag this
      · have h : stepQ M.C.N (cxRead M.C O) o fr' nx fun v => putK o.dst v fr' fun fr => runD M ops.toList rest fr O nx K := by subst h0; exact h
        obtain ⟨hd, u, v, hy, hv, hk⟩ := stepQ_yields (P := M.P) (C' := cxRead M.C O) hT (N := agree w) hm'.frame (fun w' h => hm'.heap.read h) (agree.refl w) h
        obtain ⟨fr2, h1, h2⟩ := models_put hm' hd hv hk
        have hn : m ≠ 0 := by omega
        have := IH h1 hl2 hc' h2 hq (agree.refl w)
        rw [killsOf_quiet hn]
        refine wpH_mono (S' := SS (killsOf rest) w) (l0 := l) (fun l' w' _ hS hk => hag.trans (hS hk)) _ _ _ _ (fun _ h => h) ?_
        refine quiet_first hQ hs ho hready (quiet2 h0).1 (fun k hk => ((quiet2 h0).2 k hk).1) hc (N := agree w) (fun l' w' hcl hun hS => hS fun k hk => ?_) (.inl ⟨hw, fun w' h => hy w' h⟩) (agree.refl w) this
        cases hlk : l'.getD k false with
        | false => rfl
        | true =>
          have := waits_closed hcl k ((quiet2 h0).2 k hk).2 hlk
          rw [getD_false_of_true hun] at this; cases this
      · have h : ADD M o fr' O nx fun v O nx => putK o.dst v fr' fun fr => runD M ops.toList rest fr O nx K := by
          match m, h0, h with
          | m + 3, _, h => exact h
        have hm2 : Models (shMx M O η w) η fr' [] nx a w := ⟨hm'.heap.read (agree.refl w), hm'.size, hm'.defers, hm'.frame⟩
        refine alone (alone3 h0) hag (op (stepO_wp (M := shMx M O η w) hT hm2 (fun x sv hx => lookF_den hm'.frame hx) (h.out η w) fun u v O2 nx2 η' w' hd hp hH hv hk => ?_))
        obtain ⟨hJ, hag2⟩ := hm'.heap.join hH
        obtain ⟨fr2, h1, h2⟩ := hm'.put hd hp hJ hv hk
        exact afterElse (by omega) h1 h2 (hag.trans hag2)
    split at h
    · rename_i hg
      exact go hm (wanted_none hg) h
    · rename_i j want hg
      split at h
      · exact h.out.elim
      rename_i s hsl
      split at h
      · rename_i b hb
        have hbv := denBool (hm.frame s _ hb)
        have hy := yielded_of hsl hbv
        cases b with
        | true =>
          have h := h.t rfl
          have hm' : Models M η ((s, .bool true) :: fr) O nx a w := ⟨hm.heap, hm.size, hm.defers, hm.frame.know hbv⟩
          cases want with
          | true => exact go hm' ((wanted_some hg).2 hy) h
          | false => exact skip hm' (fun hw => by rw [wanted_some hg, hy] at hw; cases hw) h
        | false =>
          have h := h.f rfl
          have hm' : Models M η ((s, .bool false) :: fr) O nx a w := ⟨hm.heap, hm.size, hm.defers, hm.frame.know hbv⟩
          cases want with
          | false => exact go hm' ((wanted_some hg).2 hy) h
          | true => exact skip hm' (fun hw => by rw [wanted_some hg, hy] at hw; cases hw) h
      · rename_i hb
        have hbv := hm.frame s _ hb
        simp only [Den, DenL] at hbv
        obtain ⟨vs, hbv, rfl⟩ := hbv
        exact skip hm (fun hw => by rw [wanted_some hg] at hw; exact yielded_not hsl (by rw [hbv]; simp) hw) h
      · exact h.out.elim
  | .fork i j p q, fr, O, nx, K, h, l, hl, hc, η, a, w, hm, hq, wc, hag => by
    simp only [stepsOK, Bool.and_eq_true, beq_iff_eq] at hl
    obtain ⟨⟨⟨hr, hdep⟩, hlp⟩, hlq⟩ := hl
    unfold runD at h
    have one : ∀ (x : Nat) (t : Plan), x ∈ Region.ready .any ops l → x ∈ killsOf (.fork i j p q) → t.depth = p.depth → stepsOK ops (masks ops.toList []) t (l.setIfInBounds x true) = true →
        (∀ {fr : Fr} {O : Hps} {nx : Nat} {η : Env} {a : Act} {w : World}, runD M ops.toList t fr O nx K → Models M η fr O nx a w → wpH M.P .any ops Q (SS (killsOf t) w) t.depth (l.setIfInBounds x true) a w) →
        (oneD M ops.toList x 0 fr O nx fun fr O nx => runD M ops.toList t fr O nx K) →
        wpOp M.P ops Q x (fun a' w' => SS (killsOf (.fork i j p q)) wc (l.setIfInBounds x true) w' ∧ wpH M.P .any ops Q (SS (killsOf (.fork i j p q)) wc) p.depth (l.setIfInBounds x true) a' w') a w := by
      intro x t hx hxk hd hok ih hrun
      have hin : x < l.size := by
        obtain ⟨h1, o, ho, _⟩ := mem_ready.1 hx
        rw [hc.1]; exact (Array.getElem?_eq_some_iff.1 ho).1
      have hset : (l.setIfInBounds x true).getD x false = true := by simp [hin]
      have hno : ∀ l' w', Grows (l.setIfInBounds x true) l' → SS (killsOf (.fork i j p q)) wc l' w' := by
        intro l' w' hg hk
        have h1 := hk x hxk
        rw [hg x hset] at h1; cases h1
      refine oneD_op hT hrun hm fun {fr O nx η a w} hk hm' => ⟨hno _ _ (fun _ h => h), ?_⟩
      have := ih hk hm'
      rw [hd] at this
      exact wpH_mono (l0 := l.setIfInBounds x true) (fun l' w' hg _ => hno l' w' hg) _ _ _ _ (fun _ h => h) this
    have hi : i ∈ Region.ready .any ops l := by rw [hr]; simp
    have hj : j ∈ Region.ready .any ops l := by rw [hr]; simp
    refine ⟨fun h0 => (by rw [hr] at h0; cases h0), fun x hx => ?_⟩
    rw [hr] at hx
    rcases List.mem_cons.1 hx with rfl | hx
    · exact one x p hi (by simp [killsOf]) rfl hlp (fun hk hm' => runD_sound hT hQ hs p hk hlp (hc.set hi) hm' hq (agree.refl _)) h.a
    · have hx := List.mem_singleton.1 hx
      subst hx
      exact one x q hj (by simp [killsOf]) hdep.symm hlq (fun hk hm' => runD_sound hT hQ hs q hk hlq (hc.set hj) hm' hq (agree.refl _)) h.b
/-- A region whose order is drawn: it is walked in one order. -/
theorem DRAWN.of {M : Mx} (hT : TabOK M.P M.C.T) (hP : M.P.follows .mixedOrders = true) {id : Nat} {ops : Array Oper} {fr : Fr} {O : Hps} {nx : Nat} {Q : Post} (steps : Plan) (hord : orderOK ops steps = true)
    (h : runD M ops.toList steps fr O nx fun fr O nx => Q .normal fr O nx) : DRAWN M id ops fr O nx Q := by
  simp only [orderOK, Bool.and_eq_true, beq_iff_eq] at hord
  obtain ⟨⟨hs, hlen⟩, hord⟩ := hord
  refine ⟨fun η a w hm => wp_region_any hP (wpAny_of_wpH (S := SS (killsOf steps) { w with drawn := w.drawn + 1 }) _ _ _ _ ?_)⟩
  have hm' : Models M η fr O nx a { w with drawn := w.drawn + 1 } := ⟨hm.heap.drawn (Nat.le_succ _), hm.size, hm.defers, hm.frame⟩
  have hc0 : Closed .any ops (Array.replicate ops.size false) := by
    refine ⟨by simp, fun j o hj hl => ?_⟩
    rcases Nat.lt_or_ge j ops.size with h' | h'
    · simp [h'] at hl
    · simp [h'] at hl
  have key := runD_sound (Q := liftQ M Q) hT (fun c a w hq => hq) hs steps h hord hc0 hm' (fun η fr O nx a w hm hq => ⟨η, fr, O, nx, hm, hq⟩) (agree.refl _)
  rw [hlen] at key
  exact key
end
end Go.Sx
/- What the engine knows of the types of this program. Made by gen_tab.py. Conditions: none. -/
set_option maxRecDepth 100000
namespace Go.Proofs.YtpffclpheldabaaGreatDoor
open Go.Sx
def tabSh (t : TypeId) : Sh := match Nat.ble t 221 with | true => (match Nat.ble t 110 with | true => (match Nat.ble t 54 with | true => (match Nat.ble t 26 with | true => (match Nat.ble t 12 with | true => (match Nat.ble t 5 with | true => (match Nat.ble t 2 with | true => (match Nat.ble t 0 with | true => .plain | false => (match Nat.ble t 1 with | true => .func | false => .int .i64)) | false => (match Nat.ble t 3 with | true => .int .i64 | false => (match Nat.ble t 4 with | true => .bool | false => .int .u8))) | false => (match Nat.ble t 8 with | true => (match Nat.ble t 6 with | true => .int .u8 | false => (match Nat.ble t 7 with | true => .struct [(0, 2), (1, 3), (2, 4), (3, 6)] | false => .struct [(0, 2), (1, 3), (2, 4), (3, 6)])) | false => (match Nat.ble t 10 with | true => (match Nat.ble t 9 with | true => .str | false => .str) | false => (match Nat.ble t 11 with | true => .str | false => .int .u64)))) | false => (match Nat.ble t 19 with | true => (match Nat.ble t 15 with | true => (match Nat.ble t 13 with | true => .struct [(0, 9), (1, 12)] | false => (match Nat.ble t 14 with | true => .struct [(0, 9), (1, 12)] | false => .ptr 210)) | false => (match Nat.ble t 17 with | true => (match Nat.ble t 16 with | true => .ptr 213 | false => .ptr 221) | false => (match Nat.ble t 18 with | true => .struct [(0, 17)] | false => .struct [(0, 17)]))) | false => (match Nat.ble t 22 with | true => (match Nat.ble t 20 with | true => .iface | false => (match Nat.ble t 21 with | true => .int .i32 | false => .slice 53)) | false => (match Nat.ble t 24 with | true => (match Nat.ble t 23 with | true => .func | false => .int .i64) | false => (match Nat.ble t 25 with | true => .plain | false => .func))))) | false => (match Nat.ble t 40 with | true => (match Nat.ble t 33 with | true => (match Nat.ble t 29 with | true => (match Nat.ble t 27 with | true => .plain | false => (match Nat.ble t 28 with | true => .func | false => .func)) | false => (match Nat.ble t 31 with | true => (match Nat.ble t 30 with | true => .func | false => .struct [(0, 3), (1, 9), (2, 9), (3, 9)]) | false => (match Nat.ble t 32 with | true => .struct [(0, 3), (1, 9), (2, 9), (3, 9)] | false => .plain))) | false => (match Nat.ble t 36 with | true => (match Nat.ble t 34 with | true => .func | false => (match Nat.ble t 35 with | true => .plain | false => .func)) | false => (match Nat.ble t 38 with | true => (match Nat.ble t 37 with | true => .func | false => .iface) | false => (match Nat.ble t 39 with | true => .iface | false => .plain)))) | false => (match Nat.ble t 47 with | true => (match Nat.ble t 43 with | true => (match Nat.ble t 41 with | true => .func | false => (match Nat.ble t 42 with | true => .struct [(0, 3), (1, 3)] | false => .struct [(0, 3), (1, 3)])) | false => (match Nat.ble t 45 with | true => (match Nat.ble t 44 with | true => .plain | false => .func) | false => (match Nat.ble t 46 with | true => .func | false => .plain))) | false => (match Nat.ble t 50 with | true => (match Nat.ble t 48 with | true => .func | false => (match Nat.ble t 49 with | true => .plain | false => .func)) | false => (match Nat.ble t 52 with | true => (match Nat.ble t 51 with | true => .func | false => .struct [(0, 32), (4, 32), (8, 32), (12, 32)]) | false => (match Nat.ble t 53 with | true => .struct [(0, 32), (4, 32), (8, 32), (12, 32)] | false => .func)))))) | false => (match Nat.ble t 82 with | true => (match Nat.ble t 68 with | true => (match Nat.ble t 61 with | true => (match Nat.ble t 57 with | true => (match Nat.ble t 55 with | true => .plain | false => (match Nat.ble t 56 with | true => .func | false => .func)) | false => (match Nat.ble t 59 with | true => (match Nat.ble t 58 with | true => .plain | false => .func) | false => (match Nat.ble t 60 with | true => .func | false => .func))) | false => (match Nat.ble t 64 with | true => (match Nat.ble t 62 with | true => .func | false => (match Nat.ble t 63 with | true => .func | false => .func)) | false => (match Nat.ble t 66 with | true => (match Nat.ble t 65 with | true => .func | false => .func) | false => (match Nat.ble t 67 with | true => .func | false => .plain)))) | false => (match Nat.ble t 75 with | true => (match Nat.ble t 71 with | true => (match Nat.ble t 69 with | true => .func | false => (match Nat.ble t 70 with | true => .func | false => .struct [(0, 3), (1, 3)])) | false => (match Nat.ble t 73 with | true => (match Nat.ble t 72 with | true => .struct [(0, 3), (1, 3)] | false => .plain) | false => (match Nat.ble t 74 with | true => .func | false => .plain))) | false => (match Nat.ble t 78 with | true => (match Nat.ble t 76 with | true => .func | false => (match Nat.ble t 77 with | true => .func | false => .ptr 80)) | false => (match Nat.ble t 80 with | true => (match Nat.ble t 79 with | true => .struct [(0, 3), (1, 39)] | false => .struct [(0, 3), (1, 39)]) | false => (match Nat.ble t 81 with | true => .func | false => .func))))) | false => (match Nat.ble t 96 with | true => (match Nat.ble t 89 with | true => (match Nat.ble t 85 with | true => (match Nat.ble t 83 with | true => .func | false => (match Nat.ble t 84 with | true => .func | false => .func)) | false => (match Nat.ble t 87 with | true => (match Nat.ble t 86 with | true => .array 4 32 | false => .func) | false => (match Nat.ble t 88 with | true => .func | false => .func))) | false => (match Nat.ble t 92 with | true => (match Nat.ble t 90 with | true => .func | false => (match Nat.ble t 91 with | true => .func | false => .ptr 95)) | false => (match Nat.ble t 94 with | true => (match Nat.ble t 93 with | true => .slice 5 | false => .struct [(0, 92), (1, 93)]) | false => (match Nat.ble t 95 with | true => .struct [(0, 92), (1, 93)] | false => .plain)))) | false => (match Nat.ble t 103 with | true => (match Nat.ble t 99 with | true => (match Nat.ble t 97 with | true => .func | false => (match Nat.ble t 98 with | true => .func | false => .func)) | false => (match Nat.ble t 101 with | true => (match Nat.ble t 100 with | true => .func | false => .func) | false => (match Nat.ble t 102 with | true => .func | false => .func))) | false => (match Nat.ble t 106 with | true => (match Nat.ble t 104 with | true => .func | false => (match Nat.ble t 105 with | true => .func | false => .func)) | false => (match Nat.ble t 108 with | true => (match Nat.ble t 107 with | true => .plain | false => .func) | false => (match Nat.ble t 109 with | true => .func | false => .func))))))) | false => (match Nat.ble t 165 with | true => (match Nat.ble t 137 with | true => (match Nat.ble t 123 with | true => (match Nat.ble t 116 with | true => (match Nat.ble t 113 with | true => (match Nat.ble t 111 with | true => .func | false => (match Nat.ble t 112 with | true => .int .u64 | false => .slice 3)) | false => (match Nat.ble t 114 with | true => .func | false => (match Nat.ble t 115 with | true => .func | false => .slice 9))) | false => (match Nat.ble t 119 with | true => (match Nat.ble t 117 with | true => .struct [(0, 9), (1, 9), (2, 9), (3, 9), (4, 116), (5, 116), (6, 9)] | false => (match Nat.ble t 118 with | true => .struct [(0, 9), (1, 9), (2, 9), (3, 9), (4, 116), (5, 116), (6, 9)] | false => .plain)) | false => (match Nat.ble t 121 with | true => (match Nat.ble t 120 with | true => .func | false => .func) | false => (match Nat.ble t 122 with | true => .plain | false => .func)))) | false => (match Nat.ble t 130 with | true => (match Nat.ble t 126 with | true => (match Nat.ble t 124 with | true => .func | false => (match Nat.ble t 125 with | true => .int .u64 | false => .func)) | false => (match Nat.ble t 128 with | true => (match Nat.ble t 127 with | true => .ptr 5 | false => .plain) | false => (match Nat.ble t 129 with | true => .func | false => .func))) | false => (match Nat.ble t 133 with | true => (match Nat.ble t 131 with | true => .plain | false => (match Nat.ble t 132 with | true => .func | false => .func)) | false => (match Nat.ble t 135 with | true => (match Nat.ble t 134 with | true => .func | false => .func) | false => (match Nat.ble t 136 with | true => .func | false => .func))))) | false => (match Nat.ble t 151 with | true => (match Nat.ble t 144 with | true => (match Nat.ble t 140 with | true => (match Nat.ble t 138 with | true => .func | false => (match Nat.ble t 139 with | true => .func | false => .func)) | false => (match Nat.ble t 142 with | true => (match Nat.ble t 141 with | true => .func | false => .func) | false => (match Nat.ble t 143 with | true => .ptr 146 | false => .func))) | false => (match Nat.ble t 147 with | true => (match Nat.ble t 145 with | true => .struct [(0, 116), (1, 118)] | false => (match Nat.ble t 146 with | true => .struct [(0, 116), (1, 118)] | false => .func)) | false => (match Nat.ble t 149 with | true => (match Nat.ble t 148 with | true => .func | false => .plain) | false => (match Nat.ble t 150 with | true => .func | false => .slice 24)))) | false => (match Nat.ble t 158 with | true => (match Nat.ble t 154 with | true => (match Nat.ble t 152 with | true => .plain | false => (match Nat.ble t 153 with | true => .func | false => .func)) | false => (match Nat.ble t 156 with | true => (match Nat.ble t 155 with | true => .plain | false => .func) | false => (match Nat.ble t 157 with | true => .ptr 160 | false => .func))) | false => (match Nat.ble t 161 with | true => (match Nat.ble t 159 with | true => .struct [(0, 116)] | false => (match Nat.ble t 160 with | true => .struct [(0, 116)] | false => .func)) | false => (match Nat.ble t 163 with | true => (match Nat.ble t 162 with | true => .ptr 118 | false => .func) | false => (match Nat.ble t 164 with | true => .func | false => .array 5 3)))))) | false => (match Nat.ble t 193 with | true => (match Nat.ble t 179 with | true => (match Nat.ble t 172 with | true => (match Nat.ble t 168 with | true => (match Nat.ble t 166 with | true => .plain | false => (match Nat.ble t 167 with | true => .func | false => .func)) | false => (match Nat.ble t 170 with | true => (match Nat.ble t 169 with | true => .array 28 3 | false => .func) | false => (match Nat.ble t 171 with | true => .func | false => .int .i64))) | false => (match Nat.ble t 175 with | true => (match Nat.ble t 173 with | true => .plain | false => (match Nat.ble t 174 with | true => .func | false => .func)) | false => (match Nat.ble t 177 with | true => (match Nat.ble t 176 with | true => .func | false => .func) | false => (match Nat.ble t 178 with | true => .func | false => .int .u32)))) | false => (match Nat.ble t 186 with | true => (match Nat.ble t 182 with | true => (match Nat.ble t 180 with | true => .func | false => (match Nat.ble t 181 with | true => .func | false => .func)) | false => (match Nat.ble t 184 with | true => (match Nat.ble t 183 with | true => .func | false => .func) | false => (match Nat.ble t 185 with | true => .func | false => .array 5 21))) | false => (match Nat.ble t 189 with | true => (match Nat.ble t 187 with | true => .func | false => (match Nat.ble t 188 with | true => .func | false => .int .u64)) | false => (match Nat.ble t 191 with | true => (match Nat.ble t 190 with | true => .func | false => .func) | false => (match Nat.ble t 192 with | true => .func | false => .ptr 3))))) | false => (match Nat.ble t 207 with | true => (match Nat.ble t 200 with | true => (match Nat.ble t 196 with | true => (match Nat.ble t 194 with | true => .func | false => (match Nat.ble t 195 with | true => .func | false => .func)) | false => (match Nat.ble t 198 with | true => (match Nat.ble t 197 with | true => .func | false => .array 24 21) | false => (match Nat.ble t 199 with | true => .ptr 189 | false => .func))) | false => (match Nat.ble t 203 with | true => (match Nat.ble t 201 with | true => .func | false => (match Nat.ble t 202 with | true => .func | false => .array 256 5)) | false => (match Nat.ble t 205 with | true => (match Nat.ble t 204 with | true => .struct [(0, 5), (1, 5)] | false => .struct [(0, 5), (1, 5)]) | false => (match Nat.ble t 206 with | true => .array 16 205 | false => .plain)))) | false => (match Nat.ble t 214 with | true => (match Nat.ble t 210 with | true => (match Nat.ble t 208 with | true => .func | false => (match Nat.ble t 209 with | true => .struct [(0, 17), (1, 17), (2, 17), (3, 9)] | false => .struct [(0, 17), (1, 17), (2, 17), (3, 9)])) | false => (match Nat.ble t 212 with | true => (match Nat.ble t 211 with | true => .array 0 16 | false => .struct [(0, 211)]) | false => (match Nat.ble t 213 with | true => .struct [(0, 211)] | false => .func))) | false => (match Nat.ble t 217 with | true => (match Nat.ble t 215 with | true => .int .u8 | false => (match Nat.ble t 216 with | true => .int .u8 | false => .func)) | false => (match Nat.ble t 219 with | true => (match Nat.ble t 218 with | true => .int .i32 | false => .int .i32) | false => (match Nat.ble t 220 with | true => .struct [(0, 12), (1, 12), (2, 179), (3, 215), (4, 5), (5, 5), (6, 216), (7, 217), (8, 127), (9, 218), (10, 219)] | false => .struct [(0, 12), (1, 12), (2, 179), (3, 215), (4, 5), (5, 5), (6, 216), (7, 217), (8, 127), (9, 218), (10, 219)])))))))) | false => .other
def tabSize (t : TypeId) : Nat := match Nat.ble t 221 with | true => (match Nat.ble t 110 with | true => (match Nat.ble t 54 with | true => (match Nat.ble t 26 with | true => (match Nat.ble t 12 with | true => (match Nat.ble t 5 with | true => (match Nat.ble t 2 with | true => (match Nat.ble t 0 with | true => 1 | false => (match Nat.ble t 1 with | true => 1 | false => 1)) | false => (match Nat.ble t 3 with | true => 1 | false => (match Nat.ble t 4 with | true => 1 | false => 1))) | false => (match Nat.ble t 8 with | true => (match Nat.ble t 6 with | true => 1 | false => (match Nat.ble t 7 with | true => 4 | false => 4)) | false => (match Nat.ble t 10 with | true => (match Nat.ble t 9 with | true => 1 | false => 1) | false => (match Nat.ble t 11 with | true => 1 | false => 1)))) | false => (match Nat.ble t 19 with | true => (match Nat.ble t 15 with | true => (match Nat.ble t 13 with | true => 2 | false => (match Nat.ble t 14 with | true => 2 | false => 1)) | false => (match Nat.ble t 17 with | true => (match Nat.ble t 16 with | true => 1 | false => 1) | false => (match Nat.ble t 18 with | true => 1 | false => 1))) | false => (match Nat.ble t 22 with | true => (match Nat.ble t 20 with | true => 1 | false => (match Nat.ble t 21 with | true => 1 | false => 1)) | false => (match Nat.ble t 24 with | true => (match Nat.ble t 23 with | true => 1 | false => 1) | false => (match Nat.ble t 25 with | true => 1 | false => 1))))) | false => (match Nat.ble t 40 with | true => (match Nat.ble t 33 with | true => (match Nat.ble t 29 with | true => (match Nat.ble t 27 with | true => 1 | false => (match Nat.ble t 28 with | true => 1 | false => 1)) | false => (match Nat.ble t 31 with | true => (match Nat.ble t 30 with | true => 1 | false => 4) | false => (match Nat.ble t 32 with | true => 4 | false => 1))) | false => (match Nat.ble t 36 with | true => (match Nat.ble t 34 with | true => 1 | false => (match Nat.ble t 35 with | true => 1 | false => 1)) | false => (match Nat.ble t 38 with | true => (match Nat.ble t 37 with | true => 1 | false => 1) | false => (match Nat.ble t 39 with | true => 1 | false => 1)))) | false => (match Nat.ble t 47 with | true => (match Nat.ble t 43 with | true => (match Nat.ble t 41 with | true => 1 | false => (match Nat.ble t 42 with | true => 2 | false => 2)) | false => (match Nat.ble t 45 with | true => (match Nat.ble t 44 with | true => 1 | false => 1) | false => (match Nat.ble t 46 with | true => 1 | false => 1))) | false => (match Nat.ble t 50 with | true => (match Nat.ble t 48 with | true => 1 | false => (match Nat.ble t 49 with | true => 1 | false => 1)) | false => (match Nat.ble t 52 with | true => (match Nat.ble t 51 with | true => 1 | false => 16) | false => (match Nat.ble t 53 with | true => 16 | false => 1)))))) | false => (match Nat.ble t 82 with | true => (match Nat.ble t 68 with | true => (match Nat.ble t 61 with | true => (match Nat.ble t 57 with | true => (match Nat.ble t 55 with | true => 1 | false => (match Nat.ble t 56 with | true => 1 | false => 1)) | false => (match Nat.ble t 59 with | true => (match Nat.ble t 58 with | true => 1 | false => 1) | false => (match Nat.ble t 60 with | true => 1 | false => 1))) | false => (match Nat.ble t 64 with | true => (match Nat.ble t 62 with | true => 1 | false => (match Nat.ble t 63 with | true => 1 | false => 1)) | false => (match Nat.ble t 66 with | true => (match Nat.ble t 65 with | true => 1 | false => 1) | false => (match Nat.ble t 67 with | true => 1 | false => 1)))) | false => (match Nat.ble t 75 with | true => (match Nat.ble t 71 with | true => (match Nat.ble t 69 with | true => 1 | false => (match Nat.ble t 70 with | true => 1 | false => 2)) | false => (match Nat.ble t 73 with | true => (match Nat.ble t 72 with | true => 2 | false => 1) | false => (match Nat.ble t 74 with | true => 1 | false => 1))) | false => (match Nat.ble t 78 with | true => (match Nat.ble t 76 with | true => 1 | false => (match Nat.ble t 77 with | true => 1 | false => 1)) | false => (match Nat.ble t 80 with | true => (match Nat.ble t 79 with | true => 2 | false => 2) | false => (match Nat.ble t 81 with | true => 1 | false => 1))))) | false => (match Nat.ble t 96 with | true => (match Nat.ble t 89 with | true => (match Nat.ble t 85 with | true => (match Nat.ble t 83 with | true => 1 | false => (match Nat.ble t 84 with | true => 1 | false => 1)) | false => (match Nat.ble t 87 with | true => (match Nat.ble t 86 with | true => 16 | false => 1) | false => (match Nat.ble t 88 with | true => 1 | false => 1))) | false => (match Nat.ble t 92 with | true => (match Nat.ble t 90 with | true => 1 | false => (match Nat.ble t 91 with | true => 1 | false => 1)) | false => (match Nat.ble t 94 with | true => (match Nat.ble t 93 with | true => 1 | false => 2) | false => (match Nat.ble t 95 with | true => 2 | false => 1)))) | false => (match Nat.ble t 103 with | true => (match Nat.ble t 99 with | true => (match Nat.ble t 97 with | true => 1 | false => (match Nat.ble t 98 with | true => 1 | false => 1)) | false => (match Nat.ble t 101 with | true => (match Nat.ble t 100 with | true => 1 | false => 1) | false => (match Nat.ble t 102 with | true => 1 | false => 1))) | false => (match Nat.ble t 106 with | true => (match Nat.ble t 104 with | true => 1 | false => (match Nat.ble t 105 with | true => 1 | false => 1)) | false => (match Nat.ble t 108 with | true => (match Nat.ble t 107 with | true => 1 | false => 1) | false => (match Nat.ble t 109 with | true => 1 | false => 1))))))) | false => (match Nat.ble t 165 with | true => (match Nat.ble t 137 with | true => (match Nat.ble t 123 with | true => (match Nat.ble t 116 with | true => (match Nat.ble t 113 with | true => (match Nat.ble t 111 with | true => 1 | false => (match Nat.ble t 112 with | true => 1 | false => 1)) | false => (match Nat.ble t 114 with | true => 1 | false => (match Nat.ble t 115 with | true => 1 | false => 1))) | false => (match Nat.ble t 119 with | true => (match Nat.ble t 117 with | true => 7 | false => (match Nat.ble t 118 with | true => 7 | false => 1)) | false => (match Nat.ble t 121 with | true => (match Nat.ble t 120 with | true => 1 | false => 1) | false => (match Nat.ble t 122 with | true => 1 | false => 1)))) | false => (match Nat.ble t 130 with | true => (match Nat.ble t 126 with | true => (match Nat.ble t 124 with | true => 1 | false => (match Nat.ble t 125 with | true => 1 | false => 1)) | false => (match Nat.ble t 128 with | true => (match Nat.ble t 127 with | true => 1 | false => 1) | false => (match Nat.ble t 129 with | true => 1 | false => 1))) | false => (match Nat.ble t 133 with | true => (match Nat.ble t 131 with | true => 1 | false => (match Nat.ble t 132 with | true => 1 | false => 1)) | false => (match Nat.ble t 135 with | true => (match Nat.ble t 134 with | true => 1 | false => 1) | false => (match Nat.ble t 136 with | true => 1 | false => 1))))) | false => (match Nat.ble t 151 with | true => (match Nat.ble t 144 with | true => (match Nat.ble t 140 with | true => (match Nat.ble t 138 with | true => 1 | false => (match Nat.ble t 139 with | true => 1 | false => 1)) | false => (match Nat.ble t 142 with | true => (match Nat.ble t 141 with | true => 1 | false => 1) | false => (match Nat.ble t 143 with | true => 1 | false => 1))) | false => (match Nat.ble t 147 with | true => (match Nat.ble t 145 with | true => 8 | false => (match Nat.ble t 146 with | true => 8 | false => 1)) | false => (match Nat.ble t 149 with | true => (match Nat.ble t 148 with | true => 1 | false => 1) | false => (match Nat.ble t 150 with | true => 1 | false => 1)))) | false => (match Nat.ble t 158 with | true => (match Nat.ble t 154 with | true => (match Nat.ble t 152 with | true => 1 | false => (match Nat.ble t 153 with | true => 1 | false => 1)) | false => (match Nat.ble t 156 with | true => (match Nat.ble t 155 with | true => 1 | false => 1) | false => (match Nat.ble t 157 with | true => 1 | false => 1))) | false => (match Nat.ble t 161 with | true => (match Nat.ble t 159 with | true => 1 | false => (match Nat.ble t 160 with | true => 1 | false => 1)) | false => (match Nat.ble t 163 with | true => (match Nat.ble t 162 with | true => 1 | false => 1) | false => (match Nat.ble t 164 with | true => 1 | false => 5)))))) | false => (match Nat.ble t 193 with | true => (match Nat.ble t 179 with | true => (match Nat.ble t 172 with | true => (match Nat.ble t 168 with | true => (match Nat.ble t 166 with | true => 1 | false => (match Nat.ble t 167 with | true => 1 | false => 1)) | false => (match Nat.ble t 170 with | true => (match Nat.ble t 169 with | true => 28 | false => 1) | false => (match Nat.ble t 171 with | true => 1 | false => 1))) | false => (match Nat.ble t 175 with | true => (match Nat.ble t 173 with | true => 1 | false => (match Nat.ble t 174 with | true => 1 | false => 1)) | false => (match Nat.ble t 177 with | true => (match Nat.ble t 176 with | true => 1 | false => 1) | false => (match Nat.ble t 178 with | true => 1 | false => 1)))) | false => (match Nat.ble t 186 with | true => (match Nat.ble t 182 with | true => (match Nat.ble t 180 with | true => 1 | false => (match Nat.ble t 181 with | true => 1 | false => 1)) | false => (match Nat.ble t 184 with | true => (match Nat.ble t 183 with | true => 1 | false => 1) | false => (match Nat.ble t 185 with | true => 1 | false => 5))) | false => (match Nat.ble t 189 with | true => (match Nat.ble t 187 with | true => 1 | false => (match Nat.ble t 188 with | true => 1 | false => 1)) | false => (match Nat.ble t 191 with | true => (match Nat.ble t 190 with | true => 1 | false => 1) | false => (match Nat.ble t 192 with | true => 1 | false => 1))))) | false => (match Nat.ble t 207 with | true => (match Nat.ble t 200 with | true => (match Nat.ble t 196 with | true => (match Nat.ble t 194 with | true => 1 | false => (match Nat.ble t 195 with | true => 1 | false => 1)) | false => (match Nat.ble t 198 with | true => (match Nat.ble t 197 with | true => 1 | false => 24) | false => (match Nat.ble t 199 with | true => 1 | false => 1))) | false => (match Nat.ble t 203 with | true => (match Nat.ble t 201 with | true => 1 | false => (match Nat.ble t 202 with | true => 1 | false => 256)) | false => (match Nat.ble t 205 with | true => (match Nat.ble t 204 with | true => 2 | false => 2) | false => (match Nat.ble t 206 with | true => 32 | false => 1)))) | false => (match Nat.ble t 214 with | true => (match Nat.ble t 210 with | true => (match Nat.ble t 208 with | true => 1 | false => (match Nat.ble t 209 with | true => 4 | false => 4)) | false => (match Nat.ble t 212 with | true => (match Nat.ble t 211 with | true => 0 | false => 0) | false => (match Nat.ble t 213 with | true => 0 | false => 1))) | false => (match Nat.ble t 217 with | true => (match Nat.ble t 215 with | true => 1 | false => (match Nat.ble t 216 with | true => 1 | false => 1)) | false => (match Nat.ble t 219 with | true => (match Nat.ble t 218 with | true => 1 | false => 1) | false => (match Nat.ble t 220 with | true => 11 | false => 11)))))))) | false => 0
def tabZero (t : TypeId) : List SV := match Nat.ble t 221 with | true => (match Nat.ble t 110 with | true => (match Nat.ble t 54 with | true => (match Nat.ble t 26 with | true => (match Nat.ble t 12 with | true => (match Nat.ble t 5 with | true => (match Nat.ble t 2 with | true => (match Nat.ble t 0 with | true => [] | false => (match Nat.ble t 1 with | true => [.val .nilFunc] | false => [.int .i64 (0)])) | false => (match Nat.ble t 3 with | true => [.int .i64 (0)] | false => (match Nat.ble t 4 with | true => [.bool false] | false => [.int .u8 (0)]))) | false => (match Nat.ble t 8 with | true => (match Nat.ble t 6 with | true => [.int .u8 (0)] | false => (match Nat.ble t 7 with | true => [.int .i64 (0), .int .i64 (0), .bool false, .int .u8 (0)] | false => [.int .i64 (0), .int .i64 (0), .bool false, .int .u8 (0)])) | false => (match Nat.ble t 10 with | true => (match Nat.ble t 9 with | true => [.str []] | false => [.str []]) | false => (match Nat.ble t 11 with | true => [.str []] | false => [.int .u64 (0)])))) | false => (match Nat.ble t 19 with | true => (match Nat.ble t 15 with | true => (match Nat.ble t 13 with | true => [.str [], .int .u64 (0)] | false => (match Nat.ble t 14 with | true => [.str [], .int .u64 (0)] | false => [.val (.pointer none)])) | false => (match Nat.ble t 17 with | true => (match Nat.ble t 16 with | true => [.val (.pointer none)] | false => [.val (.pointer none)]) | false => (match Nat.ble t 18 with | true => [.val (.pointer none)] | false => [.val (.pointer none)]))) | false => (match Nat.ble t 22 with | true => (match Nat.ble t 20 with | true => [.val .nilIface] | false => (match Nat.ble t 21 with | true => [.int .i32 (0)] | false => [.val (.slice none 0 0)])) | false => (match Nat.ble t 24 with | true => (match Nat.ble t 23 with | true => [.val .nilFunc] | false => [.int .i64 (0)]) | false => (match Nat.ble t 25 with | true => [] | false => [.val .nilFunc]))))) | false => (match Nat.ble t 40 with | true => (match Nat.ble t 33 with | true => (match Nat.ble t 29 with | true => (match Nat.ble t 27 with | true => [] | false => (match Nat.ble t 28 with | true => [.val .nilFunc] | false => [.val .nilFunc])) | false => (match Nat.ble t 31 with | true => (match Nat.ble t 30 with | true => [.val .nilFunc] | false => [.int .i64 (0), .str [], .str [], .str []]) | false => (match Nat.ble t 32 with | true => [.int .i64 (0), .str [], .str [], .str []] | false => []))) | false => (match Nat.ble t 36 with | true => (match Nat.ble t 34 with | true => [.val .nilFunc] | false => (match Nat.ble t 35 with | true => [] | false => [.val .nilFunc])) | false => (match Nat.ble t 38 with | true => (match Nat.ble t 37 with | true => [.val .nilFunc] | false => [.val .nilIface]) | false => (match Nat.ble t 39 with | true => [.val .nilIface] | false => [])))) | false => (match Nat.ble t 47 with | true => (match Nat.ble t 43 with | true => (match Nat.ble t 41 with | true => [.val .nilFunc] | false => (match Nat.ble t 42 with | true => [.int .i64 (0), .int .i64 (0)] | false => [.int .i64 (0), .int .i64 (0)])) | false => (match Nat.ble t 45 with | true => (match Nat.ble t 44 with | true => [] | false => [.val .nilFunc]) | false => (match Nat.ble t 46 with | true => [.val .nilFunc] | false => []))) | false => (match Nat.ble t 50 with | true => (match Nat.ble t 48 with | true => [.val .nilFunc] | false => (match Nat.ble t 49 with | true => [] | false => [.val .nilFunc])) | false => (match Nat.ble t 52 with | true => (match Nat.ble t 51 with | true => [.val .nilFunc] | false => [.int .i64 (0), .str [], .str [], .str [], .int .i64 (0), .str [], .str [], .str [], .int .i64 (0), .str [], .str [], .str [], .int .i64 (0), .str [], .str [], .str []]) | false => (match Nat.ble t 53 with | true => [.int .i64 (0), .str [], .str [], .str [], .int .i64 (0), .str [], .str [], .str [], .int .i64 (0), .str [], .str [], .str [], .int .i64 (0), .str [], .str [], .str []] | false => [.val .nilFunc])))))) | false => (match Nat.ble t 82 with | true => (match Nat.ble t 68 with | true => (match Nat.ble t 61 with | true => (match Nat.ble t 57 with | true => (match Nat.ble t 55 with | true => [] | false => (match Nat.ble t 56 with | true => [.val .nilFunc] | false => [.val .nilFunc])) | false => (match Nat.ble t 59 with | true => (match Nat.ble t 58 with | true => [] | false => [.val .nilFunc]) | false => (match Nat.ble t 60 with | true => [.val .nilFunc] | false => [.val .nilFunc]))) | false => (match Nat.ble t 64 with | true => (match Nat.ble t 62 with | true => [.val .nilFunc] | false => (match Nat.ble t 63 with | true => [.val .nilFunc] | false => [.val .nilFunc])) | false => (match Nat.ble t 66 with | true => (match Nat.ble t 65 with | true => [.val .nilFunc] | false => [.val .nilFunc]) | false => (match Nat.ble t 67 with | true => [.val .nilFunc] | false => [])))) | false => (match Nat.ble t 75 with | true => (match Nat.ble t 71 with | true => (match Nat.ble t 69 with | true => [.val .nilFunc] | false => (match Nat.ble t 70 with | true => [.val .nilFunc] | false => [.int .i64 (0), .int .i64 (0)])) | false => (match Nat.ble t 73 with | true => (match Nat.ble t 72 with | true => [.int .i64 (0), .int .i64 (0)] | false => []) | false => (match Nat.ble t 74 with | true => [.val .nilFunc] | false => []))) | false => (match Nat.ble t 78 with | true => (match Nat.ble t 76 with | true => [.val .nilFunc] | false => (match Nat.ble t 77 with | true => [.val .nilFunc] | false => [.val (.pointer none)])) | false => (match Nat.ble t 80 with | true => (match Nat.ble t 79 with | true => [.int .i64 (0), .val .nilIface] | false => [.int .i64 (0), .val .nilIface]) | false => (match Nat.ble t 81 with | true => [.val .nilFunc] | false => [.val .nilFunc]))))) | false => (match Nat.ble t 96 with | true => (match Nat.ble t 89 with | true => (match Nat.ble t 85 with | true => (match Nat.ble t 83 with | true => [.val .nilFunc] | false => (match Nat.ble t 84 with | true => [.val .nilFunc] | false => [.val .nilFunc])) | false => (match Nat.ble t 87 with | true => (match Nat.ble t 86 with | true => [.int .i64 (0), .str [], .str [], .str [], .int .i64 (0), .str [], .str [], .str [], .int .i64 (0), .str [], .str [], .str [], .int .i64 (0), .str [], .str [], .str []] | false => [.val .nilFunc]) | false => (match Nat.ble t 88 with | true => [.val .nilFunc] | false => [.val .nilFunc]))) | false => (match Nat.ble t 92 with | true => (match Nat.ble t 90 with | true => [.val .nilFunc] | false => (match Nat.ble t 91 with | true => [.val .nilFunc] | false => [.val (.pointer none)])) | false => (match Nat.ble t 94 with | true => (match Nat.ble t 93 with | true => [.val (.slice none 0 0)] | false => [.val (.pointer none), .val (.slice none 0 0)]) | false => (match Nat.ble t 95 with | true => [.val (.pointer none), .val (.slice none 0 0)] | false => [])))) | false => (match Nat.ble t 103 with | true => (match Nat.ble t 99 with | true => (match Nat.ble t 97 with | true => [.val .nilFunc] | false => (match Nat.ble t 98 with | true => [.val .nilFunc] | false => [.val .nilFunc])) | false => (match Nat.ble t 101 with | true => (match Nat.ble t 100 with | true => [.val .nilFunc] | false => [.val .nilFunc]) | false => (match Nat.ble t 102 with | true => [.val .nilFunc] | false => [.val .nilFunc]))) | false => (match Nat.ble t 106 with | true => (match Nat.ble t 104 with | true => [.val .nilFunc] | false => (match Nat.ble t 105 with | true => [.val .nilFunc] | false => [.val .nilFunc])) | false => (match Nat.ble t 108 with | true => (match Nat.ble t 107 with | true => [] | false => [.val .nilFunc]) | false => (match Nat.ble t 109 with | true => [.val .nilFunc] | false => [.val .nilFunc]))))))) | false => (match Nat.ble t 165 with | true => (match Nat.ble t 137 with | true => (match Nat.ble t 123 with | true => (match Nat.ble t 116 with | true => (match Nat.ble t 113 with | true => (match Nat.ble t 111 with | true => [.val .nilFunc] | false => (match Nat.ble t 112 with | true => [.int .u64 (0)] | false => [.val (.slice none 0 0)])) | false => (match Nat.ble t 114 with | true => [.val .nilFunc] | false => (match Nat.ble t 115 with | true => [.val .nilFunc] | false => [.val (.slice none 0 0)]))) | false => (match Nat.ble t 119 with | true => (match Nat.ble t 117 with | true => [.str [], .str [], .str [], .str [], .val (.slice none 0 0), .val (.slice none 0 0), .str []] | false => (match Nat.ble t 118 with | true => [.str [], .str [], .str [], .str [], .val (.slice none 0 0), .val (.slice none 0 0), .str []] | false => [])) | false => (match Nat.ble t 121 with | true => (match Nat.ble t 120 with | true => [.val .nilFunc] | false => [.val .nilFunc]) | false => (match Nat.ble t 122 with | true => [] | false => [.val .nilFunc])))) | false => (match Nat.ble t 130 with | true => (match Nat.ble t 126 with | true => (match Nat.ble t 124 with | true => [.val .nilFunc] | false => (match Nat.ble t 125 with | true => [.int .u64 (0)] | false => [.val .nilFunc])) | false => (match Nat.ble t 128 with | true => (match Nat.ble t 127 with | true => [.val (.pointer none)] | false => []) | false => (match Nat.ble t 129 with | true => [.val .nilFunc] | false => [.val .nilFunc]))) | false => (match Nat.ble t 133 with | true => (match Nat.ble t 131 with | true => [] | false => (match Nat.ble t 132 with | true => [.val .nilFunc] | false => [.val .nilFunc])) | false => (match Nat.ble t 135 with | true => (match Nat.ble t 134 with | true => [.val .nilFunc] | false => [.val .nilFunc]) | false => (match Nat.ble t 136 with | true => [.val .nilFunc] | false => [.val .nilFunc]))))) | false => (match Nat.ble t 151 with | true => (match Nat.ble t 144 with | true => (match Nat.ble t 140 with | true => (match Nat.ble t 138 with | true => [.val .nilFunc] | false => (match Nat.ble t 139 with | true => [.val .nilFunc] | false => [.val .nilFunc])) | false => (match Nat.ble t 142 with | true => (match Nat.ble t 141 with | true => [.val .nilFunc] | false => [.val .nilFunc]) | false => (match Nat.ble t 143 with | true => [.val (.pointer none)] | false => [.val .nilFunc]))) | false => (match Nat.ble t 147 with | true => (match Nat.ble t 145 with | true => [.val (.slice none 0 0), .str [], .str [], .str [], .str [], .val (.slice none 0 0), .val (.slice none 0 0), .str []] | false => (match Nat.ble t 146 with | true => [.val (.slice none 0 0), .str [], .str [], .str [], .str [], .val (.slice none 0 0), .val (.slice none 0 0), .str []] | false => [.val .nilFunc])) | false => (match Nat.ble t 149 with | true => (match Nat.ble t 148 with | true => [.val .nilFunc] | false => []) | false => (match Nat.ble t 150 with | true => [.val .nilFunc] | false => [.val (.slice none 0 0)])))) | false => (match Nat.ble t 158 with | true => (match Nat.ble t 154 with | true => (match Nat.ble t 152 with | true => [] | false => (match Nat.ble t 153 with | true => [.val .nilFunc] | false => [.val .nilFunc])) | false => (match Nat.ble t 156 with | true => (match Nat.ble t 155 with | true => [.val (.pointer none)] | false => [.val .nilFunc]) | false => (match Nat.ble t 157 with | true => [.val (.pointer none)] | false => [.val .nilFunc]))) | false => (match Nat.ble t 161 with | true => (match Nat.ble t 159 with | true => [.val (.slice none 0 0)] | false => (match Nat.ble t 160 with | true => [.val (.slice none 0 0)] | false => [.val .nilFunc])) | false => (match Nat.ble t 163 with | true => (match Nat.ble t 162 with | true => [.val (.pointer none)] | false => [.val .nilFunc]) | false => (match Nat.ble t 164 with | true => [.val .nilFunc] | false => [.int .i64 (0), .int .i64 (0), .int .i64 (0), .int .i64 (0), .int .i64 (0)])))))) | false => (match Nat.ble t 193 with | true => (match Nat.ble t 179 with | true => (match Nat.ble t 172 with | true => (match Nat.ble t 168 with | true => (match Nat.ble t 166 with | true => [] | false => (match Nat.ble t 167 with | true => [.val .nilFunc] | false => [.val .nilFunc])) | false => (match Nat.ble t 170 with | true => (match Nat.ble t 169 with | true => [.int .i64 (0), .int .i64 (0), .int .i64 (0), .int .i64 (0), .int .i64 (0), .int .i64 (0), .int .i64 (0), .int .i64 (0), .int .i64 (0), .int .i64 (0), .int .i64 (0), .int .i64 (0), .int .i64 (0), .int .i64 (0), .int .i64 (0), .int .i64 (0), .int .i64 (0), .int .i64 (0), .int .i64 (0), .int .i64 (0), .int .i64 (0), .int .i64 (0), .int .i64 (0), .int .i64 (0), .int .i64 (0), .int .i64 (0), .int .i64 (0), .int .i64 (0)] | false => [.val .nilFunc]) | false => (match Nat.ble t 171 with | true => [.val .nilFunc] | false => [.int .i64 (0)]))) | false => (match Nat.ble t 175 with | true => (match Nat.ble t 173 with | true => [] | false => (match Nat.ble t 174 with | true => [.val .nilFunc] | false => [.val .nilFunc])) | false => (match Nat.ble t 177 with | true => (match Nat.ble t 176 with | true => [.val .nilFunc] | false => [.val .nilFunc]) | false => (match Nat.ble t 178 with | true => [.val .nilFunc] | false => [.int .u32 (0)])))) | false => (match Nat.ble t 186 with | true => (match Nat.ble t 182 with | true => (match Nat.ble t 180 with | true => [.val .nilFunc] | false => (match Nat.ble t 181 with | true => [.val .nilFunc] | false => [.val .nilFunc])) | false => (match Nat.ble t 184 with | true => (match Nat.ble t 183 with | true => [.val .nilFunc] | false => [.val .nilFunc]) | false => (match Nat.ble t 185 with | true => [.val .nilFunc] | false => [.int .i32 (0), .int .i32 (0), .int .i32 (0), .int .i32 (0), .int .i32 (0)]))) | false => (match Nat.ble t 189 with | true => (match Nat.ble t 187 with | true => [.val .nilFunc] | false => (match Nat.ble t 188 with | true => [.val .nilFunc] | false => [.int .u64 (0)])) | false => (match Nat.ble t 191 with | true => (match Nat.ble t 190 with | true => [.val .nilFunc] | false => [.val .nilFunc]) | false => (match Nat.ble t 192 with | true => [.val .nilFunc] | false => [.val (.pointer none)]))))) | false => (match Nat.ble t 207 with | true => (match Nat.ble t 200 with | true => (match Nat.ble t 196 with | true => (match Nat.ble t 194 with | true => [.val .nilFunc] | false => (match Nat.ble t 195 with | true => [.val .nilFunc] | false => [.val .nilFunc])) | false => (match Nat.ble t 198 with | true => (match Nat.ble t 197 with | true => [.val .nilFunc] | false => [.int .i32 (0), .int .i32 (0), .int .i32 (0), .int .i32 (0), .int .i32 (0), .int .i32 (0), .int .i32 (0), .int .i32 (0), .int .i32 (0), .int .i32 (0), .int .i32 (0), .int .i32 (0), .int .i32 (0), .int .i32 (0), .int .i32 (0), .int .i32 (0), .int .i32 (0), .int .i32 (0), .int .i32 (0), .int .i32 (0), .int .i32 (0), .int .i32 (0), .int .i32 (0), .int .i32 (0)]) | false => (match Nat.ble t 199 with | true => [.val (.pointer none)] | false => [.val .nilFunc]))) | false => (match Nat.ble t 203 with | true => (match Nat.ble t 201 with | true => [.val .nilFunc] | false => (match Nat.ble t 202 with | true => [.val .nilFunc] | false => [])) | false => (match Nat.ble t 205 with | true => (match Nat.ble t 204 with | true => [.int .u8 (0), .int .u8 (0)] | false => [.int .u8 (0), .int .u8 (0)]) | false => (match Nat.ble t 206 with | true => [.int .u8 (0), .int .u8 (0), .int .u8 (0), .int .u8 (0), .int .u8 (0), .int .u8 (0), .int .u8 (0), .int .u8 (0), .int .u8 (0), .int .u8 (0), .int .u8 (0), .int .u8 (0), .int .u8 (0), .int .u8 (0), .int .u8 (0), .int .u8 (0), .int .u8 (0), .int .u8 (0), .int .u8 (0), .int .u8 (0), .int .u8 (0), .int .u8 (0), .int .u8 (0), .int .u8 (0), .int .u8 (0), .int .u8 (0), .int .u8 (0), .int .u8 (0), .int .u8 (0), .int .u8 (0), .int .u8 (0), .int .u8 (0)] | false => [])))) | false => (match Nat.ble t 214 with | true => (match Nat.ble t 210 with | true => (match Nat.ble t 208 with | true => [.val .nilFunc] | false => (match Nat.ble t 209 with | true => [.val (.pointer none), .val (.pointer none), .val (.pointer none), .str []] | false => [.val (.pointer none), .val (.pointer none), .val (.pointer none), .str []])) | false => (match Nat.ble t 212 with | true => (match Nat.ble t 211 with | true => [] | false => []) | false => (match Nat.ble t 213 with | true => [] | false => [.val .nilFunc]))) | false => (match Nat.ble t 217 with | true => (match Nat.ble t 215 with | true => [.int .u8 (0)] | false => (match Nat.ble t 216 with | true => [.int .u8 (0)] | false => [.val .nilFunc])) | false => (match Nat.ble t 219 with | true => (match Nat.ble t 218 with | true => [.int .i32 (0)] | false => [.int .i32 (0)]) | false => (match Nat.ble t 220 with | true => [.int .u64 (0), .int .u64 (0), .int .u32 (0), .int .u8 (0), .int .u8 (0), .int .u8 (0), .int .u8 (0), .val .nilFunc, .val (.pointer none), .int .i32 (0), .int .i32 (0)] | false => [.int .u64 (0), .int .u64 (0), .int .u32 (0), .int .u8 (0), .int .u8 (0), .int .u8 (0), .int .u8 (0), .val .nilFunc, .val (.pointer none), .int .i32 (0), .int .i32 (0)])))))))) | false => []
def tabBytes (t : TypeId) : Nat := match Nat.ble t 221 with | true => (match Nat.ble t 110 with | true => (match Nat.ble t 54 with | true => (match Nat.ble t 26 with | true => (match Nat.ble t 12 with | true => (match Nat.ble t 5 with | true => (match Nat.ble t 2 with | true => (match Nat.ble t 0 with | true => 0 | false => (match Nat.ble t 1 with | true => 8 | false => 8)) | false => (match Nat.ble t 3 with | true => 8 | false => (match Nat.ble t 4 with | true => 1 | false => 1))) | false => (match Nat.ble t 8 with | true => (match Nat.ble t 6 with | true => 1 | false => (match Nat.ble t 7 with | true => 24 | false => 24)) | false => (match Nat.ble t 10 with | true => (match Nat.ble t 9 with | true => 16 | false => 16) | false => (match Nat.ble t 11 with | true => 16 | false => 8)))) | false => (match Nat.ble t 19 with | true => (match Nat.ble t 15 with | true => (match Nat.ble t 13 with | true => 24 | false => (match Nat.ble t 14 with | true => 24 | false => 8)) | false => (match Nat.ble t 17 with | true => (match Nat.ble t 16 with | true => 8 | false => 8) | false => (match Nat.ble t 18 with | true => 8 | false => 8))) | false => (match Nat.ble t 22 with | true => (match Nat.ble t 20 with | true => 16 | false => (match Nat.ble t 21 with | true => 4 | false => 24)) | false => (match Nat.ble t 24 with | true => (match Nat.ble t 23 with | true => 8 | false => 8) | false => (match Nat.ble t 25 with | true => 0 | false => 8))))) | false => (match Nat.ble t 40 with | true => (match Nat.ble t 33 with | true => (match Nat.ble t 29 with | true => (match Nat.ble t 27 with | true => 0 | false => (match Nat.ble t 28 with | true => 8 | false => 8)) | false => (match Nat.ble t 31 with | true => (match Nat.ble t 30 with | true => 8 | false => 56) | false => (match Nat.ble t 32 with | true => 56 | false => 0))) | false => (match Nat.ble t 36 with | true => (match Nat.ble t 34 with | true => 8 | false => (match Nat.ble t 35 with | true => 0 | false => 8)) | false => (match Nat.ble t 38 with | true => (match Nat.ble t 37 with | true => 8 | false => 16) | false => (match Nat.ble t 39 with | true => 16 | false => 0)))) | false => (match Nat.ble t 47 with | true => (match Nat.ble t 43 with | true => (match Nat.ble t 41 with | true => 8 | false => (match Nat.ble t 42 with | true => 16 | false => 16)) | false => (match Nat.ble t 45 with | true => (match Nat.ble t 44 with | true => 0 | false => 8) | false => (match Nat.ble t 46 with | true => 8 | false => 0))) | false => (match Nat.ble t 50 with | true => (match Nat.ble t 48 with | true => 8 | false => (match Nat.ble t 49 with | true => 0 | false => 8)) | false => (match Nat.ble t 52 with | true => (match Nat.ble t 51 with | true => 8 | false => 224) | false => (match Nat.ble t 53 with | true => 224 | false => 8)))))) | false => (match Nat.ble t 82 with | true => (match Nat.ble t 68 with | true => (match Nat.ble t 61 with | true => (match Nat.ble t 57 with | true => (match Nat.ble t 55 with | true => 0 | false => (match Nat.ble t 56 with | true => 8 | false => 8)) | false => (match Nat.ble t 59 with | true => (match Nat.ble t 58 with | true => 0 | false => 8) | false => (match Nat.ble t 60 with | true => 8 | false => 8))) | false => (match Nat.ble t 64 with | true => (match Nat.ble t 62 with | true => 8 | false => (match Nat.ble t 63 with | true => 8 | false => 8)) | false => (match Nat.ble t 66 with | true => (match Nat.ble t 65 with | true => 8 | false => 8) | false => (match Nat.ble t 67 with | true => 8 | false => 0)))) | false => (match Nat.ble t 75 with | true => (match Nat.ble t 71 with | true => (match Nat.ble t 69 with | true => 8 | false => (match Nat.ble t 70 with | true => 8 | false => 16)) | false => (match Nat.ble t 73 with | true => (match Nat.ble t 72 with | true => 16 | false => 0) | false => (match Nat.ble t 74 with | true => 8 | false => 0))) | false => (match Nat.ble t 78 with | true => (match Nat.ble t 76 with | true => 8 | false => (match Nat.ble t 77 with | true => 8 | false => 8)) | false => (match Nat.ble t 80 with | true => (match Nat.ble t 79 with | true => 24 | false => 24) | false => (match Nat.ble t 81 with | true => 8 | false => 8))))) | false => (match Nat.ble t 96 with | true => (match Nat.ble t 89 with | true => (match Nat.ble t 85 with | true => (match Nat.ble t 83 with | true => 8 | false => (match Nat.ble t 84 with | true => 8 | false => 8)) | false => (match Nat.ble t 87 with | true => (match Nat.ble t 86 with | true => 224 | false => 8) | false => (match Nat.ble t 88 with | true => 8 | false => 8))) | false => (match Nat.ble t 92 with | true => (match Nat.ble t 90 with | true => 8 | false => (match Nat.ble t 91 with | true => 8 | false => 8)) | false => (match Nat.ble t 94 with | true => (match Nat.ble t 93 with | true => 24 | false => 32) | false => (match Nat.ble t 95 with | true => 32 | false => 0)))) | false => (match Nat.ble t 103 with | true => (match Nat.ble t 99 with | true => (match Nat.ble t 97 with | true => 8 | false => (match Nat.ble t 98 with | true => 8 | false => 8)) | false => (match Nat.ble t 101 with | true => (match Nat.ble t 100 with | true => 8 | false => 8) | false => (match Nat.ble t 102 with | true => 8 | false => 8))) | false => (match Nat.ble t 106 with | true => (match Nat.ble t 104 with | true => 8 | false => (match Nat.ble t 105 with | true => 8 | false => 8)) | false => (match Nat.ble t 108 with | true => (match Nat.ble t 107 with | true => 0 | false => 8) | false => (match Nat.ble t 109 with | true => 8 | false => 8))))))) | false => (match Nat.ble t 165 with | true => (match Nat.ble t 137 with | true => (match Nat.ble t 123 with | true => (match Nat.ble t 116 with | true => (match Nat.ble t 113 with | true => (match Nat.ble t 111 with | true => 8 | false => (match Nat.ble t 112 with | true => 8 | false => 24)) | false => (match Nat.ble t 114 with | true => 8 | false => (match Nat.ble t 115 with | true => 8 | false => 24))) | false => (match Nat.ble t 119 with | true => (match Nat.ble t 117 with | true => 128 | false => (match Nat.ble t 118 with | true => 128 | false => 0)) | false => (match Nat.ble t 121 with | true => (match Nat.ble t 120 with | true => 8 | false => 8) | false => (match Nat.ble t 122 with | true => 0 | false => 8)))) | false => (match Nat.ble t 130 with | true => (match Nat.ble t 126 with | true => (match Nat.ble t 124 with | true => 8 | false => (match Nat.ble t 125 with | true => 8 | false => 8)) | false => (match Nat.ble t 128 with | true => (match Nat.ble t 127 with | true => 8 | false => 0) | false => (match Nat.ble t 129 with | true => 8 | false => 8))) | false => (match Nat.ble t 133 with | true => (match Nat.ble t 131 with | true => 0 | false => (match Nat.ble t 132 with | true => 8 | false => 8)) | false => (match Nat.ble t 135 with | true => (match Nat.ble t 134 with | true => 8 | false => 8) | false => (match Nat.ble t 136 with | true => 8 | false => 8))))) | false => (match Nat.ble t 151 with | true => (match Nat.ble t 144 with | true => (match Nat.ble t 140 with | true => (match Nat.ble t 138 with | true => 8 | false => (match Nat.ble t 139 with | true => 8 | false => 8)) | false => (match Nat.ble t 142 with | true => (match Nat.ble t 141 with | true => 8 | false => 8) | false => (match Nat.ble t 143 with | true => 8 | false => 8))) | false => (match Nat.ble t 147 with | true => (match Nat.ble t 145 with | true => 152 | false => (match Nat.ble t 146 with | true => 152 | false => 8)) | false => (match Nat.ble t 149 with | true => (match Nat.ble t 148 with | true => 8 | false => 0) | false => (match Nat.ble t 150 with | true => 8 | false => 24)))) | false => (match Nat.ble t 158 with | true => (match Nat.ble t 154 with | true => (match Nat.ble t 152 with | true => 0 | false => (match Nat.ble t 153 with | true => 8 | false => 8)) | false => (match Nat.ble t 156 with | true => (match Nat.ble t 155 with | true => 8 | false => 8) | false => (match Nat.ble t 157 with | true => 8 | false => 8))) | false => (match Nat.ble t 161 with | true => (match Nat.ble t 159 with | true => 24 | false => (match Nat.ble t 160 with | true => 24 | false => 8)) | false => (match Nat.ble t 163 with | true => (match Nat.ble t 162 with | true => 8 | false => 8) | false => (match Nat.ble t 164 with | true => 8 | false => 40)))))) | false => (match Nat.ble t 193 with | true => (match Nat.ble t 179 with | true => (match Nat.ble t 172 with | true => (match Nat.ble t 168 with | true => (match Nat.ble t 166 with | true => 0 | false => (match Nat.ble t 167 with | true => 8 | false => 8)) | false => (match Nat.ble t 170 with | true => (match Nat.ble t 169 with | true => 224 | false => 8) | false => (match Nat.ble t 171 with | true => 8 | false => 8))) | false => (match Nat.ble t 175 with | true => (match Nat.ble t 173 with | true => 0 | false => (match Nat.ble t 174 with | true => 8 | false => 8)) | false => (match Nat.ble t 177 with | true => (match Nat.ble t 176 with | true => 8 | false => 8) | false => (match Nat.ble t 178 with | true => 8 | false => 4)))) | false => (match Nat.ble t 186 with | true => (match Nat.ble t 182 with | true => (match Nat.ble t 180 with | true => 8 | false => (match Nat.ble t 181 with | true => 8 | false => 8)) | false => (match Nat.ble t 184 with | true => (match Nat.ble t 183 with | true => 8 | false => 8) | false => (match Nat.ble t 185 with | true => 8 | false => 20))) | false => (match Nat.ble t 189 with | true => (match Nat.ble t 187 with | true => 8 | false => (match Nat.ble t 188 with | true => 8 | false => 8)) | false => (match Nat.ble t 191 with | true => (match Nat.ble t 190 with | true => 8 | false => 8) | false => (match Nat.ble t 192 with | true => 8 | false => 8))))) | false => (match Nat.ble t 207 with | true => (match Nat.ble t 200 with | true => (match Nat.ble t 196 with | true => (match Nat.ble t 194 with | true => 8 | false => (match Nat.ble t 195 with | true => 8 | false => 8)) | false => (match Nat.ble t 198 with | true => (match Nat.ble t 197 with | true => 8 | false => 96) | false => (match Nat.ble t 199 with | true => 8 | false => 8))) | false => (match Nat.ble t 203 with | true => (match Nat.ble t 201 with | true => 8 | false => (match Nat.ble t 202 with | true => 8 | false => 256)) | false => (match Nat.ble t 205 with | true => (match Nat.ble t 204 with | true => 2 | false => 2) | false => (match Nat.ble t 206 with | true => 32 | false => 0)))) | false => (match Nat.ble t 214 with | true => (match Nat.ble t 210 with | true => (match Nat.ble t 208 with | true => 8 | false => (match Nat.ble t 209 with | true => 40 | false => 40)) | false => (match Nat.ble t 212 with | true => (match Nat.ble t 211 with | true => 0 | false => 0) | false => (match Nat.ble t 213 with | true => 0 | false => 8))) | false => (match Nat.ble t 217 with | true => (match Nat.ble t 215 with | true => 1 | false => (match Nat.ble t 216 with | true => 1 | false => 8)) | false => (match Nat.ble t 219 with | true => (match Nat.ble t 218 with | true => 4 | false => 4) | false => (match Nat.ble t 220 with | true => 48 | false => 48)))))))) | false => 0
def tabFlat (t : TypeId) : Option (List CK) := match Nat.ble t 221 with | true => (match Nat.ble t 110 with | true => (match Nat.ble t 54 with | true => (match Nat.ble t 26 with | true => (match Nat.ble t 12 with | true => (match Nat.ble t 5 with | true => (match Nat.ble t 2 with | true => (match Nat.ble t 0 with | true => none | false => (match Nat.ble t 1 with | true => none | false => none)) | false => (match Nat.ble t 3 with | true => none | false => (match Nat.ble t 4 with | true => none | false => none))) | false => (match Nat.ble t 8 with | true => (match Nat.ble t 6 with | true => none | false => (match Nat.ble t 7 with | true => none | false => none)) | false => (match Nat.ble t 10 with | true => (match Nat.ble t 9 with | true => none | false => none) | false => (match Nat.ble t 11 with | true => none | false => none)))) | false => (match Nat.ble t 19 with | true => (match Nat.ble t 15 with | true => (match Nat.ble t 13 with | true => none | false => (match Nat.ble t 14 with | true => none | false => none)) | false => (match Nat.ble t 17 with | true => (match Nat.ble t 16 with | true => none | false => none) | false => (match Nat.ble t 18 with | true => none | false => none))) | false => (match Nat.ble t 22 with | true => (match Nat.ble t 20 with | true => none | false => (match Nat.ble t 21 with | true => none | false => none)) | false => (match Nat.ble t 24 with | true => (match Nat.ble t 23 with | true => none | false => none) | false => (match Nat.ble t 25 with | true => none | false => none))))) | false => (match Nat.ble t 40 with | true => (match Nat.ble t 33 with | true => (match Nat.ble t 29 with | true => (match Nat.ble t 27 with | true => none | false => (match Nat.ble t 28 with | true => none | false => none)) | false => (match Nat.ble t 31 with | true => (match Nat.ble t 30 with | true => none | false => none) | false => (match Nat.ble t 32 with | true => some [.int .i64, .str, .str, .str] | false => none))) | false => (match Nat.ble t 36 with | true => (match Nat.ble t 34 with | true => none | false => (match Nat.ble t 35 with | true => none | false => none)) | false => (match Nat.ble t 38 with | true => (match Nat.ble t 37 with | true => none | false => none) | false => (match Nat.ble t 39 with | true => none | false => none)))) | false => (match Nat.ble t 47 with | true => (match Nat.ble t 43 with | true => (match Nat.ble t 41 with | true => none | false => (match Nat.ble t 42 with | true => none | false => some [.int .i64, .int .i64])) | false => (match Nat.ble t 45 with | true => (match Nat.ble t 44 with | true => none | false => none) | false => (match Nat.ble t 46 with | true => none | false => none))) | false => (match Nat.ble t 50 with | true => (match Nat.ble t 48 with | true => none | false => (match Nat.ble t 49 with | true => none | false => none)) | false => (match Nat.ble t 52 with | true => (match Nat.ble t 51 with | true => none | false => none) | false => (match Nat.ble t 53 with | true => some [.int .i64, .str, .str, .str, .int .i64, .str, .str, .str, .int .i64, .str, .str, .str, .int .i64, .str, .str, .str] | false => none)))))) | false => (match Nat.ble t 82 with | true => (match Nat.ble t 68 with | true => (match Nat.ble t 61 with | true => (match Nat.ble t 57 with | true => (match Nat.ble t 55 with | true => none | false => (match Nat.ble t 56 with | true => none | false => none)) | false => (match Nat.ble t 59 with | true => (match Nat.ble t 58 with | true => none | false => none) | false => (match Nat.ble t 60 with | true => none | false => none))) | false => (match Nat.ble t 64 with | true => (match Nat.ble t 62 with | true => none | false => (match Nat.ble t 63 with | true => none | false => none)) | false => (match Nat.ble t 66 with | true => (match Nat.ble t 65 with | true => none | false => none) | false => (match Nat.ble t 67 with | true => none | false => none)))) | false => (match Nat.ble t 75 with | true => (match Nat.ble t 71 with | true => (match Nat.ble t 69 with | true => none | false => (match Nat.ble t 70 with | true => none | false => none)) | false => (match Nat.ble t 73 with | true => (match Nat.ble t 72 with | true => some [.int .i64, .int .i64] | false => none) | false => (match Nat.ble t 74 with | true => none | false => none))) | false => (match Nat.ble t 78 with | true => (match Nat.ble t 76 with | true => none | false => (match Nat.ble t 77 with | true => none | false => none)) | false => (match Nat.ble t 80 with | true => (match Nat.ble t 79 with | true => none | false => none) | false => (match Nat.ble t 81 with | true => none | false => none))))) | false => (match Nat.ble t 96 with | true => (match Nat.ble t 89 with | true => (match Nat.ble t 85 with | true => (match Nat.ble t 83 with | true => none | false => (match Nat.ble t 84 with | true => none | false => none)) | false => (match Nat.ble t 87 with | true => (match Nat.ble t 86 with | true => none | false => none) | false => (match Nat.ble t 88 with | true => none | false => none))) | false => (match Nat.ble t 92 with | true => (match Nat.ble t 90 with | true => none | false => (match Nat.ble t 91 with | true => none | false => none)) | false => (match Nat.ble t 94 with | true => (match Nat.ble t 93 with | true => none | false => none) | false => (match Nat.ble t 95 with | true => none | false => none)))) | false => (match Nat.ble t 103 with | true => (match Nat.ble t 99 with | true => (match Nat.ble t 97 with | true => none | false => (match Nat.ble t 98 with | true => none | false => none)) | false => (match Nat.ble t 101 with | true => (match Nat.ble t 100 with | true => none | false => none) | false => (match Nat.ble t 102 with | true => none | false => none))) | false => (match Nat.ble t 106 with | true => (match Nat.ble t 104 with | true => none | false => (match Nat.ble t 105 with | true => none | false => none)) | false => (match Nat.ble t 108 with | true => (match Nat.ble t 107 with | true => none | false => none) | false => (match Nat.ble t 109 with | true => none | false => none))))))) | false => (match Nat.ble t 165 with | true => (match Nat.ble t 137 with | true => (match Nat.ble t 123 with | true => (match Nat.ble t 116 with | true => (match Nat.ble t 113 with | true => (match Nat.ble t 111 with | true => none | false => (match Nat.ble t 112 with | true => none | false => none)) | false => (match Nat.ble t 114 with | true => none | false => (match Nat.ble t 115 with | true => none | false => none))) | false => (match Nat.ble t 119 with | true => (match Nat.ble t 117 with | true => none | false => (match Nat.ble t 118 with | true => none | false => none)) | false => (match Nat.ble t 121 with | true => (match Nat.ble t 120 with | true => none | false => none) | false => (match Nat.ble t 122 with | true => none | false => none)))) | false => (match Nat.ble t 130 with | true => (match Nat.ble t 126 with | true => (match Nat.ble t 124 with | true => none | false => (match Nat.ble t 125 with | true => none | false => none)) | false => (match Nat.ble t 128 with | true => (match Nat.ble t 127 with | true => none | false => none) | false => (match Nat.ble t 129 with | true => none | false => none))) | false => (match Nat.ble t 133 with | true => (match Nat.ble t 131 with | true => none | false => (match Nat.ble t 132 with | true => none | false => none)) | false => (match Nat.ble t 135 with | true => (match Nat.ble t 134 with | true => none | false => none) | false => (match Nat.ble t 136 with | true => none | false => none))))) | false => (match Nat.ble t 151 with | true => (match Nat.ble t 144 with | true => (match Nat.ble t 140 with | true => (match Nat.ble t 138 with | true => none | false => (match Nat.ble t 139 with | true => none | false => none)) | false => (match Nat.ble t 142 with | true => (match Nat.ble t 141 with | true => none | false => none) | false => (match Nat.ble t 143 with | true => none | false => none))) | false => (match Nat.ble t 147 with | true => (match Nat.ble t 145 with | true => none | false => (match Nat.ble t 146 with | true => none | false => none)) | false => (match Nat.ble t 149 with | true => (match Nat.ble t 148 with | true => none | false => none) | false => (match Nat.ble t 150 with | true => none | false => none)))) | false => (match Nat.ble t 158 with | true => (match Nat.ble t 154 with | true => (match Nat.ble t 152 with | true => none | false => (match Nat.ble t 153 with | true => none | false => none)) | false => (match Nat.ble t 156 with | true => (match Nat.ble t 155 with | true => none | false => none) | false => (match Nat.ble t 157 with | true => none | false => none))) | false => (match Nat.ble t 161 with | true => (match Nat.ble t 159 with | true => none | false => (match Nat.ble t 160 with | true => none | false => none)) | false => (match Nat.ble t 163 with | true => (match Nat.ble t 162 with | true => none | false => none) | false => (match Nat.ble t 164 with | true => none | false => none)))))) | false => (match Nat.ble t 193 with | true => (match Nat.ble t 179 with | true => (match Nat.ble t 172 with | true => (match Nat.ble t 168 with | true => (match Nat.ble t 166 with | true => none | false => (match Nat.ble t 167 with | true => none | false => none)) | false => (match Nat.ble t 170 with | true => (match Nat.ble t 169 with | true => none | false => none) | false => (match Nat.ble t 171 with | true => none | false => none))) | false => (match Nat.ble t 175 with | true => (match Nat.ble t 173 with | true => none | false => (match Nat.ble t 174 with | true => none | false => none)) | false => (match Nat.ble t 177 with | true => (match Nat.ble t 176 with | true => none | false => none) | false => (match Nat.ble t 178 with | true => none | false => none)))) | false => (match Nat.ble t 186 with | true => (match Nat.ble t 182 with | true => (match Nat.ble t 180 with | true => none | false => (match Nat.ble t 181 with | true => none | false => none)) | false => (match Nat.ble t 184 with | true => (match Nat.ble t 183 with | true => none | false => none) | false => (match Nat.ble t 185 with | true => none | false => none))) | false => (match Nat.ble t 189 with | true => (match Nat.ble t 187 with | true => none | false => (match Nat.ble t 188 with | true => none | false => none)) | false => (match Nat.ble t 191 with | true => (match Nat.ble t 190 with | true => none | false => none) | false => (match Nat.ble t 192 with | true => none | false => none))))) | false => (match Nat.ble t 207 with | true => (match Nat.ble t 200 with | true => (match Nat.ble t 196 with | true => (match Nat.ble t 194 with | true => none | false => (match Nat.ble t 195 with | true => none | false => none)) | false => (match Nat.ble t 198 with | true => (match Nat.ble t 197 with | true => none | false => none) | false => (match Nat.ble t 199 with | true => none | false => none))) | false => (match Nat.ble t 203 with | true => (match Nat.ble t 201 with | true => none | false => (match Nat.ble t 202 with | true => none | false => none)) | false => (match Nat.ble t 205 with | true => (match Nat.ble t 204 with | true => none | false => some [.int .u8, .int .u8]) | false => (match Nat.ble t 206 with | true => none | false => none)))) | false => (match Nat.ble t 214 with | true => (match Nat.ble t 210 with | true => (match Nat.ble t 208 with | true => none | false => (match Nat.ble t 209 with | true => none | false => none)) | false => (match Nat.ble t 212 with | true => (match Nat.ble t 211 with | true => none | false => none) | false => (match Nat.ble t 213 with | true => none | false => none))) | false => (match Nat.ble t 217 with | true => (match Nat.ble t 215 with | true => none | false => (match Nat.ble t 216 with | true => none | false => none)) | false => (match Nat.ble t 219 with | true => (match Nat.ble t 218 with | true => none | false => none) | false => (match Nat.ble t 220 with | true => none | false => none)))))))) | false => none
def basesTableInts : List Int := [192, 214, 216, 246, 248, 767, 880, 893, 895, 8191, 8204, 8205, 8304, 8591, 11264, 12271, 12289, 55295, 63744, 64975, 65008, 65533, 65536, 983039]
def basesTableRows : List (List SV) := basesTableInts.map fun x => [.int .i32 x]
def tab : Tab := { sh := tabSh, size := tabSize, zero := tabZero, bytes := tabBytes, flat := tabFlat, globs := [(1, .rows 1 basesTableRows)] }
theorem tabOK : TabOK Tryz.prog tab := by
  refine tabOK_of 222 (by kernel_rfl) (fun t ht => ?_)
  have h : Nat.ble t 221 = false := by
    cases e : Nat.ble t 221
    · rfl
    · have := Nat.le_of_ble_eq_true e; omega
  exact ⟨by simp only [tab, tabSh, h], by simp only [tab, tabZero, h], by simp only [tab, tabFlat, h]⟩
theorem mixed : Tryz.prog.follows .mixedOrders = true := by kernel_rfl
end Go.Proofs.YtpffclpheldabaaGreatDoor
/- How terms and quads that come in read; what package variables hold; from a contract to a row's walk. Conditions: none. -/
set_option linter.unusedVariables false
set_option linter.unusedSimpArgs false
namespace Go.Proofs.YtpffclpheldabaaGreatDoor
open Go.RowKit Go.Our Go.ChangeShapes Go.WideShapes Go.ChangeAt Go.Sx

section
variable {H : Type} {enc : TypeId × Value → H} {w : World} {base : Nat} {sp : Nat → Bool} {held : Bool}
abbrev strV (s : List UInt8) : Value := .string ⟨s.toArray⟩
abbrev tmL (x : Tm) : List Value := [.int .i64 x.k, strV x.t, strV x.y, strV x.l]
abbrev tmV (x : Tm) : Value := .agg ⟨tmL x⟩
abbrev qdL (q : Qd) : List Value := [.int .i64 q.s.k, strV q.s.t, strV q.s.y, strV q.s.l, .int .i64 q.p.k, strV q.p.t, strV q.p.y, strV q.p.l, .int .i64 q.o.k, strV q.o.t, strV q.o.y, strV q.o.l, .int .i64 q.g.k, strV q.g.t, strV q.g.y, strV q.g.l]
abbrev qdV (q : Qd) : Value := .agg ⟨qdL q⟩
def tmD (x : Tm) : DataW H := .agg [.lit (.int .i64 x.k), .lit (.string x.t), .lit (.string x.y), .lit (.string x.l)]
def qdD (q : Qd) : DataW H := .agg [tmD q.s, tmD q.p, tmD q.o, tmD q.g]
abbrev TmWf (x : Tm) : Prop := (Lit.int .i64 x.k).wf = true
abbrev QdWf (q : Qd) : Prop := TmWf q.s ∧ TmWf q.p ∧ TmWf q.o ∧ TmWf q.g
theorem cellsOfI : Tryz.prog.cellsOf 3 = 1 := by kernel_rfl
theorem cellsOfS : Tryz.prog.cellsOf 9 = 1 := by kernel_rfl
theorem cellsOfT : Tryz.prog.cellsOf 32 = 4 := by kernel_rfl
theorem cellsOfQ : Tryz.prog.cellsOf 53 = 16 := by kernel_rfl
theorem strV_of (s : ByteArray) : Value.string s = strV s.data.toList := by cases s; rfl
set_option maxRecDepth 100000 in
theorem trod_tm {fuel : Nat} {cs : List Value} {x : DataW H × List MemPlace} (h : DataW.trod enc Tryz.prog w base sp held fuel 32 cs = some x) :
    ∃ t : Tm, cs = tmL t ∧ x = (tmD t, []) ∧ TmWf t := by
  cases fuel with
  | zero => simp [DataW.trod] at h
  | succ fuel =>
    simp only [DataW.trod, Tryz.underlying32, cellsOfT] at h
    split at h
    · rename_i hl
      match cs, hl with
      | [c0, c1, c2, c3], _ =>
        simp only [List.mapM_cons, List.mapM_nil, cellsOfI, cellsOfS, List.drop_zero, List.drop_succ_cons, List.take_succ_cons, List.take_zero] at h
        simp only [Option.map_eq_some_iff, Option.bind_eq_bind, Option.bind_eq_some_iff, Option.pure_def, Option.some.injEq] at h
        obtain ⟨xs, ⟨y0, h0, r1, ⟨y1, h1, r2, ⟨y2, h2, r3, ⟨y3, h3, r4, rfl, rfl⟩, rfl⟩, rfl⟩, rfl⟩, hx⟩ := h
        obtain ⟨k, hk, rfl, wk⟩ := DataW.trod_int Tryz.underlying3 h0
        obtain ⟨s1, hs1, rfl, w1⟩ := DataW.trod_string Tryz.underlying9 h1
        obtain ⟨s2, hs2, rfl, w2⟩ := DataW.trod_string Tryz.underlying9 h2
        obtain ⟨s3, hs3, rfl, w3⟩ := DataW.trod_string Tryz.underlying9 h3
        injection hk with hk _; injection hs1 with hs1 _; injection hs2 with hs2 _; injection hs3 with hs3 _
        subst hk hs1 hs2 hs3
        exact ⟨⟨k, s1.data.toList, s2.data.toList, s3.data.toList⟩, by rw [strV_of, strV_of, strV_of], by rw [← hx]; rfl, wk⟩
    · cases h
set_option maxRecDepth 100000 in
theorem trod_qd {fuel : Nat} {cs : List Value} {x : DataW H × List MemPlace} (h : DataW.trod enc Tryz.prog w base sp held fuel 53 cs = some x) :
    ∃ q : Qd, cs = qdL q ∧ x = (qdD q, []) ∧ QdWf q := by
  cases fuel with
  | zero => simp [DataW.trod] at h
  | succ fuel =>
    simp only [DataW.trod, Tryz.underlying53, cellsOfQ] at h
    split at h
    · rename_i hl
      simp only [List.mapM_cons, List.mapM_nil, cellsOfT] at h
      simp only [Option.map_eq_some_iff, Option.bind_eq_bind, Option.bind_eq_some_iff, Option.pure_def, Option.some.injEq] at h
      obtain ⟨xs, ⟨y0, h0, r1, ⟨y1, h1, r2, ⟨y2, h2, r3, ⟨y3, h3, r4, rfl, rfl⟩, rfl⟩, rfl⟩, rfl⟩, hx⟩ := h
      obtain ⟨s, hs, rfl, ws⟩ := trod_tm h0
      obtain ⟨p, hp, rfl, wp⟩ := trod_tm h1
      obtain ⟨o, ho, rfl, wo⟩ := trod_tm h2
      obtain ⟨g, hg, rfl, wg⟩ := trod_tm h3
      refine ⟨⟨s, p, o, g⟩, ?_, by rw [← hx]; rfl, ws, wp, wo, wg⟩
      match cs, hl with
      | [c0, c1, c2, c3, c4, c5, c6, c7, c8, c9, c10, c11, c12, c13, c14, c15], _ =>
        simp only [List.drop_zero, List.drop_succ_cons, List.take_succ_cons, List.take_zero, tmL, List.cons.injEq, and_true] at hs hp ho hg
        obtain ⟨rfl, rfl, rfl, rfl⟩ := hs
        obtain ⟨rfl, rfl, rfl, rfl⟩ := hp
        obtain ⟨rfl, rfl, rfl, rfl⟩ := ho
        obtain ⟨rfl, rfl, rfl, rfl⟩ := hg
        rfl
    · cases h
set_option maxRecDepth 100000 in
theorem read_qd {v : Value} {d : DataW H} {p : List MemPlace} {r : Reach} {b0 : Nat} (ho : Value.okWide Tryz.prog w r b0 53 v) (h : DataW.Trod enc Tryz.prog w base sp held 53 v d p) :
    ∃ q : Qd, v = qdV q ∧ d = qdD q ∧ QdWf q := by
  obtain ⟨fuel, hf⟩ := h
  obtain ⟨q, hcs, hx, hok⟩ := trod_qd hf
  unfold Value.okWide at ho
  rw [Tryz.underlying53] at ho
  obtain ⟨cs, rfl, _, _⟩ := ho
  refine ⟨q, ?_, by injection hx, hok⟩
  congr 1
  exact Array.toList_inj.1 hcs
set_option maxRecDepth 100000 in
theorem read_tm {v : Value} {d : DataW H} {p : List MemPlace} {r : Reach} {b0 : Nat} (ho : Value.okWide Tryz.prog w r b0 32 v) (h : DataW.Trod enc Tryz.prog w base sp held 32 v d p) :
    ∃ t : Tm, v = tmV t ∧ d = tmD t ∧ TmWf t := by
  obtain ⟨fuel, hf⟩ := h
  obtain ⟨t, hcs, hx, hok⟩ := trod_tm hf
  unfold Value.okWide at ho
  rw [Tryz.underlying32] at ho
  obtain ⟨cs, rfl, _, _⟩ := ho
  refine ⟨t, ?_, by injection hx, hok⟩
  congr 1
  exact Array.toList_inj.1 hcs
/-- What the size of a reading says of its texts. -/
theorem tm_small {x : Tm} (h : ((tmD x : DataW H).weights Tryz.prog 32).all (fun n => decide (n ≤ reachBytes)) = true) : x.t.length ≤ reachBytes ∧ x.y.length ≤ reachBytes ∧ x.l.length ≤ reachBytes := by
  simp only [tmD, DataW.weights, Tryz.underlying32, List.map_cons, List.map_nil, DataW.weightsEach, List.nil_append, List.append_nil, List.cons_append, List.all_cons, List.all_nil, Bool.and_true, Bool.and_eq_true, decide_eq_true_eq] at h
  exact h
theorem qd_small {q : Qd} (h : ((qdD q : DataW H).weights Tryz.prog 53).all (fun n => decide (n ≤ reachBytes)) = true) : (q.s.t.length ≤ reachBytes ∧ q.s.y.length ≤ reachBytes ∧ q.s.l.length ≤ reachBytes) ∧ (q.p.t.length ≤ reachBytes ∧ q.p.y.length ≤ reachBytes ∧ q.p.l.length ≤ reachBytes) ∧
    (q.o.t.length ≤ reachBytes ∧ q.o.y.length ≤ reachBytes ∧ q.o.l.length ≤ reachBytes) ∧ (q.g.t.length ≤ reachBytes ∧ q.g.y.length ≤ reachBytes ∧ q.g.l.length ≤ reachBytes) := by
  have e : (qdD q : DataW H).weights Tryz.prog 53 = (tmD q.s : DataW H).weights Tryz.prog 32 ++ ((tmD q.p : DataW H).weights Tryz.prog 32 ++ ((tmD q.o : DataW H).weights Tryz.prog 32 ++ ((tmD q.g : DataW H).weights Tryz.prog 32 ++ []))) := by
    simp only [qdD, DataW.weights, Tryz.underlying53, List.map_cons, List.map_nil, DataW.weightsEach]
  rw [e] at h
  simp only [List.all_append, Bool.and_eq_true] at h
  exact ⟨tm_small h.1, tm_small h.2.1, tm_small h.2.2.1, tm_small h.2.2.2.1⟩
theorem TmSm.of {x : Tm} (h : x.t.length ≤ reachBytes ∧ x.y.length ≤ reachBytes ∧ x.l.length ≤ reachBytes) : TmSm x := by
  unfold reachBytes at h
  exact ⟨by omega, by omega, by omega⟩
theorem tm_sm {x : Tm} (h : ((tmD x : DataW H).weights Tryz.prog 32).all (fun n => decide (n ≤ reachBytes)) = true) : TmSm x := TmSm.of (tm_small h)
theorem qd_sm {q : Qd} (h : ((qdD q : DataW H).weights Tryz.prog 53).all (fun n => decide (n ≤ reachBytes)) = true) : QdSm q :=
  have h := qd_small h
  ⟨TmSm.of h.1, TmSm.of h.2.1, TmSm.of h.2.2.1, TmSm.of h.2.2.2⟩
end
theorem den_tm (x : Tm) : Den [] x.sv (tmV x) := by
  unfold Tm.sv
  simp only [Den, DenL]
  exact ⟨_, rfl, ⟨_, _, rfl, rfl, _, _, rfl, rfl, _, _, rfl, rfl, _, _, rfl, rfl, rfl⟩, by simp [Value.oneCell']⟩
theorem den_qd (q : Qd) : Den [] q.sv (qdV q) := by
  unfold Qd.sv
  simp only [Den, DenL]
  exact ⟨_, rfl, ⟨_, _, rfl, rfl, _, _, rfl, rfl, _, _, rfl, rfl, _, _, rfl, rfl, _, _, rfl, rfl, _, _, rfl, rfl, _, _, rfl, rfl, _, _, rfl, rfl, _, _, rfl, rfl, _, _, rfl, rfl, _, _, rfl, rfl, _, _, rfl, rfl, _, _, rfl, rfl, _, _, rfl, rfl, _, _, rfl, rfl, _, _, rfl, rfl, rfl⟩, by simp [Value.oneCell']⟩
/-- What the walk takes for granted of the package variables. -/
abbrev GlobOK (W : World) : Prop := ∀ g h, lkp g tab.globs = some h → HpSat [] W false (.glob g) h ∧ g < W.heap.size
/-- A law that answers true, whatever plain values come in. -/
theorem law_calls {g : FuncId} {args : List SV} {vs : List Value} {W : World} (sp : Does Tryz.prog tab g 0 args [] [] (Val (.bool true))) (eg : ∀ args w, (callFunc g args).run Tryz.prog w = .ok (.enter g args) w) (hd : DenL [] args vs) (hg : GlobOK W) :
    Calls Tryz.prog g ⟨vs⟩ W fun e W' => e = .returned (.bool true) ∧ Below W.heap.size W W' := by
  refine (sp.calls eg hd hg).mono fun e W' ⟨v, he, hv, hf⟩ => ?_
  simp only [Den] at hv
  subst hv
  exact ⟨he, hf.os, hf.tape, hf.output, hf.size, fun k hk => hf.block k hk fun h => h⟩
end Go.Proofs.YtpffclpheldabaaGreatDoor
/- What the package variable names.basesTable holds, by the row's own words. Conditions: none. -/
set_option linter.unusedVariables false
set_option linter.unusedSimpArgs false
namespace Go.Proofs.YtpffclpheldabaaGreatDoor
open Go.RowKit Go.Our Go.ChangeShapes Go.WideShapes Go.ChangeAt Go.Sx
theorem globOf {W : World} {l : List (String × DataW Unit)} (hl : (l.filter fun x => x.2.handleName?.isNone).filter (fun x => x.1 == "tessera/names.basesTable") = [("tessera/names.basesTable", Lib.tabData .i32 basesTableInts)]) (h : laidMetH Tryz.prog l W) : GlobOK W := by
  have h1 := laidMet.filter (fun x => x.1 == "tessera/names.basesTable") (laidMetH_iff.1 h).1
  rw [hl] at h1
  have hT : Lib.TabIs Tryz.prog W "tessera/names.basesTable" .i32 basesTableInts :=
    Lib.tabIs_of_head (rest := []) (g := 1) (by kernel_rfl) (by kernel_rfl) Tryz.underlying198 Tryz.underlying21 (by kernel_rfl) (by kernel_rfl) h1
  have hc : ∀ i, i < 24 → W.cell? ⟨1, i, none⟩ = some (.int .i32 (basesTableInts.getD i 0)) := fun i hi => hT.cell (by kernel_rfl) i hi
  intro g h hg
  simp only [tab] at hg
  rw [lkp_cons] at hg
  split at hg
  case isFalse => simp [lkp] at hg
  rename_i eg
  subst eg
  injection hg with hg
  subst hg
  have h0 := hc 0 (by omega)
  unfold World.cell? at h0
  split at h0
  case h_2 => cases h0
  rename_i c T fz hh
  have hall : ∀ i, i < 24 → c[i]? = some (.int .i32 (basesTableInts.getD i 0)) := by
    intro i hi
    have := hc i hi
    unfold World.cell? at this
    simp only at this hh
    rw [hh] at this
    simpa using this
  simp only at hh
  refine ⟨?_, (Array.getElem?_eq_some_iff.1 hh).1⟩
  simp only [HpSat]
  refine .inr ⟨⟨1, 0, 0⟩, c, T, fz, rfl, hh, fun h => (by cases h), fun i row hr => ?_⟩
  unfold basesTableRows at hr
  rw [List.getElem?_map] at hr
  obtain ⟨x, hx, rfl⟩ := Option.map_eq_some_iff.1 hr
  have hi : i < 24 := (List.getElem?_eq_some_iff.1 hx).1
  refine ⟨rfl, fun j sv hj => ?_⟩
  cases j with
  | succ j => simp at hj
  | zero =>
    simp only [List.getElem?_cons_zero, Option.some.injEq] at hj
    subst hj
    refine ⟨_, by simp only [Nat.zero_add, Nat.mul_one, Nat.add_zero]; exact hall i hi, rfl, ?_⟩
    simp only [Den, List.getD, hx, Option.getD_some]
end Go.Proofs.YtpffclpheldabaaGreatDoor
/- Terms and quads: their order is one total order. No program in sight. -/
set_option linter.unusedVariables false
set_option linter.unusedSimpArgs false
namespace Go.Our
open Go.Sx

/-! ### Three-way comparisons -/
structure Tri {α : Type} (c : α → α → Int) : Prop where
  rng : ∀ a b, c a b = -1 ∨ c a b = 0 ∨ c a b = 1
  anti : ∀ a b, c b a = - c a b
  zero : ∀ a b, c a b = 0 ↔ a = b
  trans : ∀ a b d, c a b ≤ 0 → c b d ≤ 0 → c a d ≤ 0

def cmpI (a b : Int) : Int := if a < b then -1 else if a > b then 1 else 0
theorem triI : Tri cmpI where
  rng a b := by unfold cmpI; (repeat' split) <;> omega
  anti a b := by unfold cmpI; (repeat' split) <;> omega
  zero a b := by unfold cmpI; (repeat' split) <;> omega
  trans a b d := by unfold cmpI; (repeat' split) <;> omega

open Lib (compareBytes)
theorem cb_rng : ∀ a b, compareBytes a b = -1 ∨ compareBytes a b = 0 ∨ compareBytes a b = 1
  | [], [] => by simp [compareBytes]
  | [], _ :: _ => by simp [compareBytes]
  | _ :: _, [] => by simp [compareBytes]
  | a :: as_, b :: bs => by
    unfold compareBytes
    split
    · simp
    · split
      · simp
      · exact cb_rng as_ bs
theorem cb_anti : ∀ a b, compareBytes b a = - compareBytes a b
  | [], [] => by simp [compareBytes]
  | [], _ :: _ => by simp [compareBytes]
  | _ :: _, [] => by simp [compareBytes]
  | a :: as_, b :: bs => by
    unfold compareBytes
    simp only [UInt8.lt_iff_toNat_lt]
    by_cases h : a.toNat < b.toNat
    · have : ¬ b.toNat < a.toNat := by omega
      simp [h, this]
    · by_cases h' : b.toNat < a.toNat
      · simp [h, h']
      · simp only [h, h', if_false]; exact cb_anti as_ bs
theorem cb_zero : ∀ a b, compareBytes a b = 0 ↔ a = b
  | [], [] => by simp [compareBytes]
  | [], _ :: _ => by simp [compareBytes]
  | _ :: _, [] => by simp [compareBytes]
  | a :: as_, b :: bs => by
    unfold compareBytes
    simp only [UInt8.lt_iff_toNat_lt, List.cons.injEq, ← UInt8.toNat_inj]
    by_cases h : a.toNat < b.toNat
    · simp [h]; omega
    · by_cases h' : b.toNat < a.toNat
      · simp [h, h']; omega
      · have : a.toNat = b.toNat := by omega
        simp only [this, Nat.lt_irrefl, if_false, true_and]; exact cb_zero as_ bs
theorem cb_trans : ∀ a b c, compareBytes a b ≤ 0 → compareBytes b c ≤ 0 → compareBytes a c ≤ 0
  | [], _, [] => by simp [compareBytes]
  | [], _, _ :: _ => by simp [compareBytes]
  | _ :: _, [], _ => by simp [compareBytes]
  | _ :: _, _ :: _, [] => by simp [compareBytes]
  | a :: as_, b :: bs, c :: cs => by
    unfold compareBytes
    simp only [UInt8.lt_iff_toNat_lt]
    have ih := cb_trans as_ bs cs
    (repeat' split) <;> first | omega | (intro x y; first | exact ih x y | omega)
def cmpL (a b : List UInt8) : Int := compareBytes a b
theorem triL : Tri cmpL where
  rng a b := cb_rng _ _
  anti a b := cb_anti _ _
  zero a b := cb_zero _ _
  trans a b d := cb_trans _ _ _

/-- First by the one, then by the other. -/
def pairCmp {β γ : Type} (c : β → β → Int) (d : γ → γ → Int) (a b : β × γ) : Int := if c a.1 b.1 ≠ 0 then c a.1 b.1 else d a.2 b.2
theorem tri_pair {β γ : Type} {c : β → β → Int} {d : γ → γ → Int} (hc : Tri c) (hd : Tri d) : Tri (pairCmp c d) where
  rng a b := by unfold pairCmp; split <;> first | exact hc.rng _ _ | exact hd.rng _ _
  anti a b := by
    unfold pairCmp
    rw [hc.anti a.1 b.1, hd.anti a.2 b.2]
    by_cases h : c a.1 b.1 = 0
    · simp [h]
    · have : ¬ - c a.1 b.1 = 0 := by omega
      simp [h, this]
  zero a b := by
    unfold pairCmp
    by_cases h : c a.1 b.1 = 0
    · simp only [h, ne_eq, not_true_eq_false, if_false]
      rw [hd.zero]
      have hf := (hc.zero _ _).1 h
      exact ⟨fun hg => Prod.ext hf hg, fun e => by rw [e]⟩
    · simp only [ne_eq, h, not_false_eq_true, if_true, false_iff]
      intro e; subst e
      exact h ((hc.zero _ _).2 rfl)
  trans a b e := by
    unfold pairCmp
    intro h1 h2
    have r1 := hc.rng a.1 b.1; have r2 := hc.rng b.1 e.1
    have t1 := hc.trans a.1 b.1 e.1
    by_cases x : c a.1 b.1 = 0
    · have ex := (hc.zero _ _).1 x
      simp only [x, ne_eq, not_true_eq_false, if_false] at h1
      rw [ex]
      by_cases y : c b.1 e.1 = 0
      · simp only [y, ne_eq, not_true_eq_false, if_false] at h2 ⊢
        exact hd.trans _ _ _ h1 h2
      · simp only [ne_eq, y, not_false_eq_true, if_true] at h2 ⊢
        exact h2
    · simp only [ne_eq, x, not_false_eq_true, if_true] at h1
      by_cases y : c b.1 e.1 = 0
      · have ey := (hc.zero _ _).1 y
        rw [← ey]
        simp only [ne_eq, x, not_false_eq_true, if_true]; exact h1
      · simp only [ne_eq, y, not_false_eq_true, if_true] at h2
        have hle := t1 h1 h2
        have hne : c a.1 e.1 ≠ 0 := by
          intro hz
          have e1 := (hc.zero _ _).1 hz
          rw [← e1] at h2 y
          have := hc.anti a.1 b.1
          omega
        simp only [ne_eq, hne, not_false_eq_true, if_true]; exact hle
theorem tri_map {α β : Type} {c : β → β → Int} (hc : Tri c) (f : α → β) (hf : ∀ a b, f a = f b → a = b) : Tri (fun a b => c (f a) (f b)) where
  rng a b := hc.rng _ _
  anti a b := hc.anti _ _
  zero a b := by rw [hc.zero]; exact ⟨hf a b, fun e => by rw [e]⟩
  trans a b d := hc.trans _ _ _

theorem bytesLess_cb : ∀ a b : List UInt8, Op.bytesLess a b = decide (Lib.compareBytes a b < 0)
  | [], [] => by simp [Op.bytesLess, Lib.compareBytes]
  | [], _ :: _ => by simp [Op.bytesLess, Lib.compareBytes]
  | _ :: _, [] => by simp [Op.bytesLess, Lib.compareBytes]
  | a :: as_, b :: bs => by
    unfold Op.bytesLess Lib.compareBytes
    rw [bytesLess_cb as_ bs]
    simp only [UInt8.lt_iff_toNat_lt]
    have hbeq : (a == b) = decide (a.toNat = b.toNat) := by
      rw [Bool.eq_iff_iff]; simp [UInt8.toNat_inj]
    rw [hbeq]
    by_cases h : a.toNat < b.toNat
    · simp [h]
    · by_cases h' : b.toNat < a.toNat
      · have : ¬ a.toNat = b.toNat := by omega
        simp [h, h', this]
      · have : a.toNat = b.toNat := by omega
        simp [this]
theorem sLess_cmp (a b : List UInt8) : sLess a b = decide (cmpL a b < 0) := bytesLess_cb a b
/-! ### The order of terms and of quads -/
def Tm.key (x : Tm) : Int × List UInt8 × List UInt8 × List UInt8 := (x.k, x.t, x.y, x.l)
def tmCmp (a b : Tm) : Int := pairCmp cmpI (pairCmp cmpL (pairCmp cmpL cmpL)) a.key b.key
theorem triT : Tri tmCmp := tri_map (tri_pair triI (tri_pair triL (tri_pair triL triL))) Tm.key (fun a b h => by
  cases a; cases b; simp [Tm.key] at h; simp [h])
def Qd.key (q : Qd) : Tm × Tm × Tm × Tm := (q.g, q.s, q.p, q.o)
def qdCmp (a b : Qd) : Int := pairCmp tmCmp (pairCmp tmCmp (pairCmp tmCmp tmCmp)) a.key b.key
theorem triQ : Tri qdCmp := tri_map (tri_pair triT (tri_pair triT (tri_pair triT triT))) Qd.key (fun a b h => by
  cases a; cases b; simp [Qd.key] at h; simp [h])
/-- The first that is not nought. -/
def orI : List Int → Int
  | [] => 0
  | x :: l => if x ≠ 0 then x else orI l
theorem orI_tm (a b : Tm) : orI [cmpI a.k b.k, cmpL a.t b.t, cmpL a.y b.y, cmpL a.l b.l] = tmCmp a b := by
  simp only [orI, tmCmp, pairCmp, Tm.key]
  (repeat' split) <;> simp_all
theorem orI_qd (a b : Qd) : orI [tmCmp a.g b.g, tmCmp a.s b.s, tmCmp a.p b.p, tmCmp a.o b.o] = qdCmp a b := by
  simp only [orI, qdCmp, pairCmp, Qd.key]
  (repeat' split) <;> simp_all
/-! ### Lists of quads -/
abbrev Qd.row (q : Qd) : List SV := [.int .i64 q.s.k, .str q.s.t, .str q.s.y, .str q.s.l, .int .i64 q.p.k, .str q.p.t, .str q.p.y, .str q.p.l, .int .i64 q.o.k, .str q.o.t, .str q.o.y, .str q.o.l, .int .i64 q.g.k, .str q.g.t, .str q.g.y, .str q.g.l]
def qdRow (q : Qd) : List SV := q.row
theorem plainQds (l : List Qd) : plainLL (l.map qdRow) = true := plainLL_map _ (fun _ => rfl) l
theorem qdRow_get {l : List Qd} {i : Nat} (h : i < l.length) : (l.map qdRow)[i]? = some (qdRow l[i]) := by rw [List.getElem?_map, List.getElem?_eq_getElem h]; rfl
theorem Qd.ext' {a b : Qd} (h : qdRow a = qdRow b) : a = b := by
  obtain ⟨⟨_, _, _, _⟩, ⟨_, _, _, _⟩, ⟨_, _, _, _⟩, ⟨_, _, _, _⟩⟩ := a
  obtain ⟨⟨_, _, _, _⟩, ⟨_, _, _, _⟩, ⟨_, _, _, _⟩, ⟨_, _, _, _⟩⟩ := b
  simp only [qdRow, Qd.row, List.cons.injEq, SV.int.injEq, SV.str.injEq, true_and, and_true] at h
  simp_all
/-- From a place on: does each stand ahead of the next one? -/
def risesM (l : List Qd) (i : Nat) : Bool := if h : i < l.length then decide (¬ 0 ≤ qdCmp (l[i - 1]'(by omega)) l[i]) && risesM l (i + 1) else true
termination_by l.length - i
theorem rises_end {l : List Qd} {i : Nat} (h : l.length ≤ i) : risesM l i = true := by unfold risesM; rw [dif_neg (by omega)]
theorem rises_at {l : List Qd} {i : Nat} (h : i < l.length) : risesM l i = (decide (¬ 0 ≤ qdCmp (l[i - 1]'(by omega)) l[i]) && risesM l (i + 1)) := by
  conv => lhs; unfold risesM
  rw [dif_pos h]
/-- The first quad, from a place on, with which something is wrong, and what. -/
def badM (l : List Qd) (i : Nat) : Option (Nat × Int) := if h : i < l.length then (if cquadM l[i] ≠ 0 then some (i, cquadM l[i]) else badM l (i + 1)) else none
termination_by l.length - i
theorem bad_end {l : List Qd} {i : Nat} (h : l.length ≤ i) : badM l i = none := by unfold badM; rw [dif_neg (by omega)]
theorem bad_at {l : List Qd} {i : Nat} (h : i < l.length) : badM l i = if cquadM l[i] ≠ 0 then some (i, cquadM l[i]) else badM l (i + 1) := by
  conv => lhs; unfold badM
  rw [dif_pos h]
/-- The first, from a place on, that does not stand behind the one ahead of it. -/
def fallM (l : List Qd) (i : Nat) : Option Nat := if h : i < l.length then (if 0 ≤ qdCmp (l[i - 1]'(by omega)) l[i] then some i else fallM l (i + 1)) else none
termination_by l.length - i
theorem fall_end {l : List Qd} {i : Nat} (h : l.length ≤ i) : fallM l i = none := by unfold fallM; rw [dif_neg (by omega)]
theorem fall_at {l : List Qd} {i : Nat} (h : i < l.length) : fallM l i = if 0 ≤ qdCmp (l[i - 1]'(by omega)) l[i] then some i else fallM l (i + 1) := by
  conv => lhs; unfold fallM
  rw [dif_pos h]
def validM (l : List Qd) : Nat × Int :=
  if 1048576 < l.length then (0, 2) else match badM l 0 with
  | some x => x
  | none => match fallM l 1 with
    | some i => (i, 6)
    | none => (0, 0)
end Go.Our
/- Slices that come in, told to the engine; from a contract over them to a row's walk. Conditions: none. -/
set_option linter.unusedVariables false
set_option linter.unusedSimpArgs false
namespace Go.Sx
open Go
/-- A contract about what came in to be looked at, as a call. -/
theorem Does.callsS {P : Program} {T : Tab} {g : FuncId} {args : List SV} {r : SV} {vs : List Value} {w : World} {η0 : Env} {S : Hps} {k : Nat} (hk : η0.length = k) (sp : Does P T g k args [] S (ValK k r)) (eg : ∀ args w, (callFunc g args).run P w = .ok (.enter g args) w) (hd : DenL η0 args vs)
    (hs : ∀ p ∈ S, HpSat η0 w false (.loc p.1) p.2) (he : ∀ (i : Nat) (e : Ent), η0[i]? = some (some e) → e.g < w.heap.size)
    (hg : ∀ g h, lkp g T.globs = some h → HpSat [] w false (.glob g) h ∧ g < w.heap.size) :
    Calls P g ⟨vs⟩ w fun e w' => ∃ v η', e = .returned v ∧ Den η' r v ∧ FrW w w' fun _ => False := by
  have hmem : ∀ {S : Hps} {i : Nat} {h : Hp}, lkpB (.loc i) (shB S) = some h → (i, h) ∈ S := by
    intro S
    induction S with
    | nil => intro i h hh; simp [shB, lkpB] at hh
    | cons p S ih =>
      intro i h hh
      obtain ⟨j, h'⟩ := p
      simp only [shB, List.map_cons, lkpB, blkEq] at hh
      cases hb : Nat.beq i j with
      | true =>
        rw [hb] at hh
        have := beq_eq hb
        subst this
        injection hh with hh
        subst hh
        exact List.mem_cons_self ..
      | false =>
        rw [hb] at hh
        exact List.mem_cons_of_mem _ (ih hh)
  have hpl : ∀ g h, lkp g T.globs = some h → plainH h = true := by
    intro g h hh
    have := lkp_mem hh
    exact List.all_eq_true.1 T.gplain _ this
  have H : HeapOK ⟨P, ⟨T, 0, shB S⟩, w, fun _ => False, η0⟩ η0 w [] k := ⟨List.prefix_rfl, hk, ⟨fun i h hi => by simp [lkp] at hi, fun i j h h' e e' hi => by simp [lkp] at hi⟩, FrW.refl _ _, fun b h hb => by
    cases b with
    | loc i =>
      refine ⟨hs _ (hmem hb), fun e hee => ⟨he i e hee, fun h => h⟩⟩
    | glob g =>
      obtain ⟨h1, h2⟩ := hg g h hb
      refine ⟨h1.plain (hpl g h hb), fun e hee => ?_⟩
      simp only [Env.get, Option.some.injEq] at hee
      subst hee
      exact ⟨h2, fun h => h⟩⟩
  have hF : (fun _ => False : Nat → Prop) = blocksOf η0 [] := by
    funext n; simp [blocksOf, lkp]
  rcases sp.out ⟨P, ⟨T, 0, shB S⟩, w, fun _ => False, η0⟩ vs rfl rfl hF rfl H hd with ⟨g', h1, h2⟩ | ⟨v, w', h1, _⟩
  · rw [eg] at h1
    injection h1 with h1 _
    injection h1 with h1 _
    subst h1
    refine h2.mono fun e w' hee => ?_
    obtain ⟨v, rfl, r', O', nx', η', ⟨rfl, rfl, rfl⟩, _, h4, h5⟩ := hee
    exact ⟨v, η', rfl, h5, h4.fr⟩
  · rw [eg] at h1; cases h1
end Go.Sx
namespace Go.Our
open Go.RowKit Go.ChangeShapes Go.WideShapes Go.ChangeAt Go.Sx
section
variable {H : Type} {enc : TypeId × Value → H} {P : Program} {w : World}
/-- A slice that came in: what the engine may say of it. -/
def SliceIn (w : World) (v : Value) (es : Nat) (rs : List (List SV)) (en : Option Ent) : Prop :=
  (∀ x, en = some x → x.g < w.heap.size) ∧ ∀ (η : Env) (i : Nat), η[i]? = some en → Den η (.sl (.loc i) 0 es rs.length none) v ∧ HpSat η w false (.loc i) (.rows es rs)
theorem cell_of_cells {base : Nat} {a : Addr} {n : Nat} {cs : List Value} (h : w.cells? base a n = some cs) : cs.length = n ∧ ∀ j, j < n → w.cell? (a.add j) = cs[j]? := ⟨(World.cells?_some h).2.1, (World.cells?_some h).2.2⟩
theorem slice_in {α : Type} {t e : TypeId} {es : Nat} {v : Value} {d : DataW H} {p : List MemPlace} {r : Reach} {b0 : Nat} (cellsL : α → List Value) (dat : α → DataW H) (row : α → List SV) (hes : 0 < es)
    (hlen : ∀ a, (cellsL a).length = es ∧ (row a).length = es) (hrow : ∀ (η : Env) (a : α) (j : Nat) (sv : SV), (row a)[j]? = some sv → ∃ u, (cellsL a)[j]? = some u ∧ u.oneCell' = true ∧ Den η sv u)
    (ht : P.underlying t = some (.slice e)) (hc : P.cellsOf e = es) (el : ∀ fuel cs (x : DataW H × List MemPlace), DataW.trod enc P w 0 (fun _ => true) true fuel e cs = some x → ∃ a : α, cs = cellsL a ∧ x = (dat a, []))
    (ho : Value.okWide P w r b0 t v) (h : DataW.Trod enc P w 0 (fun _ => true) true t v d p) :
    ∃ (l : List α) (en : Option Ent), SliceIn w v es (l.map row) en ∧ ((l = [] ∧ d = .nil) ∨ ∃ z : List α, d = .slice (l.map dat) (z.map dat)) := by
  obtain ⟨fuel, hf⟩ := h
  obtain ⟨a0, l0, c0, rfl⟩ := okWide_slice ht ho
  have hcells : (Value.slice a0 l0 c0).cells.toList = [Value.slice a0 l0 c0] := rfl
  rw [hcells] at hf
  rcases DataW.trod_slice ht hf with ⟨hcs, hx⟩ | ⟨a, len, cap, elems, rest, n, _, hcs, hx, hb, hl, hm, hlen2, hel, hsp, hns⟩
  · injection hcs with hcs _
    injection hx with hx _
    injection hcs with h1 h2 h3
    subst h1 h2 h3 hx
    refine ⟨[], none, ⟨fun x hx => (by cases hx), fun η i hi => ?_⟩, .inl ⟨rfl, rfl⟩⟩
    refine ⟨?_, ?_⟩
    · unfold Den; exact .inl ⟨hi, rfl, rfl⟩
    · unfold HpSat; exact .inl ⟨hi, rfl⟩
  · injection hcs with hcs _
    injection hx with hx _
    injection hcs with h1 h2 h3
    subst h1 h2 h3
    simp only [Value.okWide, ht, Cell.okWide, Cell.ok] at ho
    obtain ⟨_, _, _, hspot, rw', cl, hsh, _⟩ := ho
    obtain ⟨ab, ao, asp⟩ := a
    simp only at hspot hsh
    subst hspot
    obtain ⟨arr, T, fz, hheap⟩ : ∃ arr T fz, w.heap[ab]? = some (.cells arr T fz) := by
      unfold World.shape? at hsh
      split at hsh
      · rename_i c e' f' hh; exact ⟨_, _, _, hh⟩
      · cases hsh
    -- each element
    have each : ∀ (i : Nat) y, (elems ++ rest)[i]? = some y → ∃ x : α, y = (dat x, []) ∧ ∀ j, j < es → w.cell? ⟨ab, ao + i * es + j, none⟩ = (cellsL x)[j]? := by
      intro i y hy
      have hb' : (w.cells? 0 ((⟨ab, ao, none⟩ : Addr).add (i * P.cellsOf e)) (P.cellsOf e)).bind (DataW.trod enc P w 0 (fun _ => true) true n e) = some y := by
        by_cases hi : i < l0
        · rw [hel i hi, ← hy, List.getElem?_append_left (by omega)]
        · obtain ⟨hrl, hr⟩ := hsp rfl
          have hlt := (List.getElem?_eq_some_iff.1 hy).1
          simp only [List.length_append] at hlt
          have := hr (i - l0) (by omega)
          rw [show l0 + (i - l0) = i by omega] at this
          rw [this, ← hy, List.getElem?_append_right (by omega), hlen2]
      obtain ⟨cs', hcs', hy'⟩ := Option.bind_eq_some_iff.1 hb'
      obtain ⟨x, rfl, rfl⟩ := el _ _ _ hy'
      refine ⟨x, rfl, fun j hj => ?_⟩
      rw [hc] at hcs'
      rw [← (cell_of_cells hcs').2 j hj]
      congr 1
      unfold Addr.add
      split <;> split <;> simp_all <;> omega
    have list : ∀ (ys : List (DataW H × List MemPlace)) (k : Nat), (∀ i y, ys[i]? = some y → (elems ++ rest)[k + i]? = some y) → ∃ xs : List α, ys.map (·.1) = xs.map dat ∧ xs.length = ys.length ∧ ∀ (i : Nat) x, xs[i]? = some x → ∀ j, j < es → w.cell? ⟨ab, ao + (k + i) * es + j, none⟩ = (cellsL x)[j]? := by
      intro ys
      induction ys with
      | nil => intro k _; exact ⟨[], rfl, rfl, fun i x hx => by simp at hx⟩
      | cons y ys ih =>
        intro k hk
        obtain ⟨x, hx1, hx2⟩ := each (k + 0) y (hk 0 y rfl)
        obtain ⟨xs, h1, h2, h3⟩ := ih (k + 1) fun i y' hy' => by rw [show k + 1 + i = k + (i + 1) by omega]; exact hk (i + 1) y' (by simpa using hy')
        refine ⟨x :: xs, by simp [h1, hx1], by simp [h2], fun i z hz j hj => ?_⟩
        cases i with
        | zero => simp at hz; subst hz; exact hx2 j hj
        | succ i => simp at hz; rw [show k + (i + 1) = k + 1 + i by omega]; exact h3 i z hz j hj
    obtain ⟨xs, h1, h2, h3⟩ := list elems 0 fun i y hy => by rw [Nat.zero_add, List.getElem?_append_left (List.getElem?_eq_some_iff.1 hy).1]; exact hy
    obtain ⟨zs, h4, _, _⟩ := list rest elems.length fun i y hy => by rw [List.getElem?_append_right (by omega)]; simpa using hy
    refine ⟨xs, some ⟨ab, ao, c0⟩, ⟨fun x hx => ?_, fun η i hi => ⟨?_, ?_⟩⟩, .inr ⟨zs, by rw [hx, h1, h4]⟩⟩
    · injection hx with hx; subst hx; exact (Array.getElem?_eq_some_iff.1 hheap).1
    · simp only [Den, Env.get]
      refine .inr ⟨⟨ab, ao, c0⟩, ao, hi, ?_, ?_, Nat.le_refl _, fun _ => by simp⟩
      · simp only [Option.getD_none, Nat.sub_zero, List.length_map, h2, hlen2]
      · simp only [Option.getD_none, List.length_map, h2, hlen2]; omega
    · simp only [HpSat, Env.get]
      refine .inr ⟨⟨ab, ao, c0⟩, arr, T, fz, hi, hheap, fun h => (by cases h), fun k rw1 hk => ?_⟩
      rw [List.getElem?_map] at hk
      obtain ⟨x, hx, rfl⟩ := Option.map_eq_some_iff.1 hk
      refine ⟨(hlen x).2, fun j sv hj => ?_⟩
      obtain ⟨u, hu1, hu2, hu3⟩ := hrow η x j sv hj
      have hj2 : j < es := by rw [← (hlen x).2]; exact (List.getElem?_eq_some_iff.1 hj).1
      have := h3 k x hx j hj2
      rw [Nat.zero_add, hu1] at this
      unfold World.cell? at this
      simp only [hheap] at this
      exact ⟨u, by simpa using this, hu2, hu3⟩
end
theorem SliceIn.den {α : Type} {W : World} {v : Value} {es : Nat} {l : List α} {row : α → List SV} {en : Option Ent} (h : SliceIn W v es (l.map row) en) {η : Env} {i : Nat} (hi : η[i]? = some en) : Den η (.sl (.loc i) 0 es l.length none) v := by
  have := (h.2 η i hi).1; rwa [List.length_map] at this
theorem SliceIn.sat {W : World} {v : Value} {es : Nat} {rs : List (List SV)} {en : Option Ent} (h : SliceIn W v es rs en) {η : Env} {i : Nat} (hi : η[i]? = some en) : HpSat η W false (.loc i) (.rows es rs) := (h.2 η i hi).2
end Go.Our
namespace Go.Proofs.YtpffclpheldabaaGreatDoor
open Go.RowKit Go.Our Go.ChangeShapes Go.WideShapes Go.ChangeAt Go.Sx
section
variable {H : Type} {enc : TypeId × Value → H} {w : World}
theorem qdRow_den (η : Env) (q : Qd) (j : Nat) (sv : SV) (h : (qdRow q)[j]? = some sv) : ∃ u, (qdL q)[j]? = some u ∧ u.oneCell' = true ∧ Den η sv u := by
  have hlt := (List.getElem?_eq_some_iff.1 h).1
  have hl : (qdRow q).length = 16 := rfl
  rw [hl] at hlt
  match j, hlt with
  | 0, _ | 1, _ | 2, _ | 3, _ | 4, _ | 5, _ | 6, _ | 7, _ | 8, _ | 9, _ | 10, _ | 11, _ | 12, _ | 13, _ | 14, _ | 15, _ => injection h with h; subst h; exact ⟨_, rfl, rfl, by simp only [Den]⟩
set_option maxRecDepth 100000 in
theorem read_qds {v : Value} {d : DataW H} {p : List MemPlace} {r : Reach} {b0 : Nat} (ho : Value.okWide Tryz.prog w r b0 22 v) (h : DataW.Trod enc Tryz.prog w 0 (fun _ => true) true 22 v d p) :
    ∃ (l : List Qd) (en : Option Ent), SliceIn w v 16 (l.map qdRow) en ∧ ((l = [] ∧ d = .nil) ∨ ∃ z : List Qd, d = .slice (l.map qdD) (z.map qdD)) :=
  slice_in qdL qdD qdRow (by omega) (fun a => ⟨rfl, rfl⟩) qdRow_den Tryz.underlying22 cellsOfQ (fun fuel cs x hx => let ⟨q, h1, h2, _⟩ := trod_qd hx; ⟨q, h1, h2⟩) ho h
theorem bytesOfQ : Tryz.prog.bytesOf 53 = 224 := by kernel_rfl
theorem qds_small {l : List Qd} {d : DataW H} (hd : (l = [] ∧ d = .nil) ∨ ∃ z : List Qd, d = .slice (l.map qdD) (z.map qdD)) (h : (d.weights Tryz.prog 22).all (fun n => decide (n ≤ reachBytes)) = true) : l.length * 224 ≤ 140737488351232 ∧ ∀ q ∈ l, QdSm q := by
  rcases hd with ⟨rfl, rfl⟩ | ⟨z, rfl⟩
  · simp
  · simp only [DataW.weights, Tryz.underlying22, bytesOfQ, List.length_map, List.all_cons, List.all_append, Bool.and_eq_true, decide_eq_true_eq] at h
    obtain ⟨h1, h2, _⟩ := h
    refine ⟨by unfold reachBytes at h1; rw [Nat.add_mul] at h1; omega, ?_⟩
    have hall : ∀ (l : List Qd), (DataW.weightsAll Tryz.prog 53 (l.map (qdD (H := H)))).all (fun n => decide (n ≤ reachBytes)) = true → ∀ q ∈ l, QdSm q := by
      intro l
      induction l with
      | nil => intro _ q hq; cases hq
      | cons a l ih =>
        intro h q hq
        simp only [List.map_cons, DataW.weightsAll, List.all_append, Bool.and_eq_true] at h
        rcases List.mem_cons.1 hq with rfl | hq
        · exact qd_sm (H := H) h.1
        · exact ih h.2 q hq
    exact hall l h2
/-- A law that answers true, whatever came in. -/
theorem law_callsS {g : FuncId} {args : List SV} {vs : List Value} {W : World} {η0 : Env} {S : Hps} {k : Nat} (hk : η0.length = k) (sp : Does Tryz.prog tab g k args [] S (ValK k (.bool true))) (eg : ∀ args w, (callFunc g args).run Tryz.prog w = .ok (.enter g args) w) (hd : DenL η0 args vs)
    (hs : ∀ p ∈ S, HpSat η0 W false (.loc p.1) p.2) (he : ∀ (i : Nat) (e : Ent), η0[i]? = some (some e) → e.g < W.heap.size) (hg : GlobOK W) :
    Calls Tryz.prog g ⟨vs⟩ W fun e W' => e = .returned (.bool true) ∧ Below W.heap.size W W' := by
  refine (sp.callsS hk eg hd hs he hg).mono fun e W' ⟨v, η', he, hv, hf⟩ => ?_
  simp only [Den] at hv
  subst hv
  exact ⟨he, hf.os, hf.tape, hf.output, hf.size, fun k hk => hf.block k hk fun h => h⟩
theorem law_calls1 {g : FuncId} {args : List SV} {vs : List Value} {W : World} {v : Value} {es : Nat} {rs : List (List SV)} {en : Option Ent} (h : SliceIn W v es rs en) (sp : Does Tryz.prog tab g 1 args [] [(0, .rows es rs)] (ValK 1 (.bool true))) (eg : ∀ args w, (callFunc g args).run Tryz.prog w = .ok (.enter g args) w) (hd : DenL [en] args vs) (hg : GlobOK W) :
    Calls Tryz.prog g ⟨vs⟩ W fun e W' => e = .returned (.bool true) ∧ Below W.heap.size W W' := by
  refine law_callsS (η0 := [en]) rfl sp eg hd (fun p hp => ?_) (fun i e hi => ?_) hg
  · have hp := List.mem_singleton.1 hp
    subst hp; exact h.sat rfl
  · match i, hi with
    | 0, hi => injection hi with hi; exact h.1 e hi
theorem law_calls2 {g : FuncId} {args : List SV} {vs : List Value} {W : World} {v v' : Value} {es es' : Nat} {rs rs' : List (List SV)} {en en' : Option Ent} (h : SliceIn W v es rs en) (h' : SliceIn W v' es' rs' en') (sp : Does Tryz.prog tab g 2 args [] [(0, .rows es rs), (1, .rows es' rs')] (ValK 2 (.bool true))) (eg : ∀ args w, (callFunc g args).run Tryz.prog w = .ok (.enter g args) w) (hd : DenL [en, en'] args vs) (hg : GlobOK W) :
    Calls Tryz.prog g ⟨vs⟩ W fun e W' => e = .returned (.bool true) ∧ Below W.heap.size W W' := by
  refine law_callsS (η0 := [en, en']) rfl sp eg hd (fun p hp => ?_) (fun i e hi => ?_) hg
  · rcases List.mem_cons.1 hp with rfl | hp
    · exact h.sat rfl
    · have hp := List.mem_singleton.1 hp
      subst hp; exact h'.sat rfl
  · match i, hi with
    | 0, hi => injection hi with hi; exact h.1 e hi
    | 1, hi => injection hi with hi; exact h'.1 e hi
end
end Go.Proofs.YtpffclpheldabaaGreatDoor
/- Calls among functions that share their names for blocks; empty slices in boxes by names. Conditions: none. -/
set_option linter.unusedVariables false
set_option linter.unusedSimpArgs false
namespace Go.Sx
open Go

/-! ### Names that stay -/
section
variable {σ : Nat → Nat} {k : Nat}
theorem renB_below (h : ∀ j, j < k → σ j = j) : ∀ {b : Blk}, belowB k b = true → renB σ b = b
  | .glob g, _ => rfl
  | .loc i, hb => by simp only [belowB, Nat.blt_eq] at hb; simp only [renB, h i hb]
mutual
theorem ren_below (h : ∀ j, j < k → σ j = j) : ∀ {v : SV}, below k v = true → ren σ v = v
  | .bool _, _ => rfl
  | .int _ _, _ => rfl
  | .str _, _ => rfl
  | .val _, _ => rfl
  | .any, _ => rfl
  | .ptr b _ _ _, hb => by simp only [below] at hb; simp only [ren, renB_below h hb]
  | .sl b _ _ _ _, hb => by simp only [below] at hb; simp only [ren, renB_below h hb]
  | .agg cs, hb => by simp only [below] at hb; simp only [ren, renL_below h hb]
  | .arr _ rs, hb => by simp only [below] at hb; simp only [ren, renLL_below h hb]
  | .tup vs, hb => by simp only [below] at hb; simp only [ren, renL_below h hb]
  | .ifc _ v, hb => by simp only [below] at hb; simp only [ren, ren_below h hb]
  | .fn _ a b, hb => by simp only [below, Bool.and_eq_true] at hb; simp only [ren, renL_below h hb.1, renL_below h hb.2]
theorem renL_below (h : ∀ j, j < k → σ j = j) : ∀ {vs : List SV}, belowL k vs = true → renL σ vs = vs
  | [], _ => rfl
  | c :: cs, hb => by simp only [belowL, Bool.and_eq_true] at hb; simp only [renL, ren_below h hb.1, renL_below h hb.2]
theorem renLL_below (h : ∀ j, j < k → σ j = j) : ∀ {vs : List (List SV)}, belowLL k vs = true → renLL σ vs = vs
  | [], _ => rfl
  | c :: cs, hb => by simp only [belowLL, Bool.and_eq_true] at hb; simp only [renLL, renL_below h hb.1, renLL_below h hb.2]
end
theorem renH_below (h : ∀ j, j < k → σ j = j) : ∀ {hp : Hp}, belowH k hp = true → renH σ hp = hp
  | .box _, hb => by simp only [belowH] at hb; simp only [renH, renL_below h hb]
  | .rows _ _, hb => by simp only [belowH] at hb; simp only [renH, renLL_below h hb]
  | .siter _ _, _ => rfl
theorem renO_below (h : ∀ j, j < k → σ j = j) : ∀ {O : Hps}, belowO k O = true → renO σ O = O
  | [], _ => rfl
  | (i, hp) :: r, hb => by
    simp only [belowO, Bool.and_eq_true, Nat.blt_eq] at hb
    simp only [renO, h i hb.1, renH_below h hb.2.1, renO_below h hb.2.2]
end
variable {M : Mx} {fr fr' : Fr} {O O' : Hps} {nx : Nat}
theorem range_get {k i : Nat} (h : i < k) : (List.range k).getD i 0 = i := by simp [List.getD, h]
theorem cname_range {k nx j : Nat} (h : j < k) : cname (List.range k) nx j = j := by
  simp only [cname, List.length_range, if_pos h, range_get h]
/-- What a contract owns and looks at stands so in the caller's heap, by the same names. -/
def hereO (O : Hps) : Hps → Prop
  | [] => True
  | (i, h) :: r => match lkp i O with
    | some g => g = h ∧ hereO O r
    | none => False
def hereS (C : Cx) (O : Hps) : Hps → Prop
  | [] => True
  | (i, h) :: r => match hLook C O (.loc i) with
    | some g => g = h ∧ hereS C O r
    | none => False
theorem hereO.at {O : Hps} : ∀ {Oc : Hps}, hereO O Oc → ∀ p ∈ Oc, lkp p.1 O = some p.2
  | [], _, p, hp => by cases hp
  | (i, h) :: r, hs, p, hp => by
    simp only [hereO] at hs
    split at hs
    · rename_i g hg
      obtain ⟨rfl, hs⟩ := hs
      rcases List.mem_cons.1 hp with rfl | hp
      · exact hg
      · exact hereO.at hs p hp
    · exact hs.elim
theorem hereS.at {C : Cx} {O : Hps} : ∀ {Sc : Hps}, hereS C O Sc → ∀ p ∈ Sc, hLook C O (.loc p.1) = some p.2
  | [], _, p, hp => by cases hp
  | (i, h) :: r, hs, p, hp => by
    simp only [hereS] at hs
    split at hs
    · rename_i g hg
      obtain ⟨rfl, hs⟩ := hs
      rcases List.mem_cons.1 hp with rfl | hp
      · exact hg
      · exact hereS.at hs p hp
    · exact hs.elim
theorem belowO_mem {k : Nat} : ∀ {O : Hps}, belowO k O = true → ∀ p ∈ O, p.1 < k ∧ belowH k p.2 = true
  | [], _, p, hp => by cases hp
  | (i, h) :: r, hb, p, hp => by
    simp only [belowO, Bool.and_eq_true, Nat.blt_eq] at hb
    rcases List.mem_cons.1 hp with rfl | hp
    · exact ⟨hb.1, hb.2.1⟩
    · exact belowO_mem hb.2.2 p hp
theorem namesOf_below {k : Nat} : ∀ {O : Hps}, belowO k O = true → ∀ j ∈ namesOf O, j < k
  | [], _, j, hj => by cases hj
  | (i, h) :: r, hb, j, hj => by
    simp only [belowO, Bool.and_eq_true, Nat.blt_eq] at hb
    rcases List.mem_cons.1 hj with rfl | hj
    · exact hb.1
    · exact namesOf_below hb.2.2 j hj
theorem map_same {f : Nat → Nat} : ∀ {l : List Nat}, (∀ j ∈ l, f j = j) → l.map f = l
  | [], _ => rfl
  | x :: l, h => by simp only [List.map_cons, h x (List.mem_cons_self ..), map_same fun j hj => h j (List.mem_cons_of_mem _ hj)]
theorem mem_names : ∀ {S : Hps} {p : Nat × Hp}, p ∈ S → p.1 ∈ namesOf S
  | [], p, hp => by cases hp
  | (i, h) :: S, p, hp => by
    rcases List.mem_cons.1 hp with rfl | hp
    · exact List.mem_cons_self ..
    · exact List.mem_cons_of_mem _ (mem_names hp)
/-- A call by the caller's own names, the first k; the callee makes no new ones. -/
theorem CALL.here {f : FuncId} {args : List SV} {K : SV → Hps → Nat → Prop} {k : Nat} {Oc Sc : Hps} {Q : SV → Hps → Nat → Prop} (sp : Does M.P M.C.T f k args Oc Sc Q)
    (hk : Nat.ble k nx = true) (hb : belowL k args = true) (hbO : belowO k Oc = true) (hbS : belowO k Sc = true) (hO : hereO O Oc) (hS : hereS M.C O Sc)
    (hd : (namesOf Sc).all (fun j => !((namesOf Oc).any (Nat.beq j))) = true)
    (hQ : ∀ r O' nx', Q r O' nx' → nx' = k ∧ below k r = true ∧ belowO k O' = true)
    (hK : ∀ r O', Q r O' k → K r (O' ++ outside (namesOf Oc) O) nx) : CALL M f args O nx K := by
  have hk := Nat.le_of_ble_eq_true hk
  have hσ : ∀ j, j < k → cname (List.range k) nx j = j := fun j hj => cname_range hj
  have hnames : (namesOf Oc).map (cname (List.range k) nx) = namesOf Oc := map_same fun j hj => hσ j (namesOf_below hbO j hj)
  refine CALL.of (List.range k) sp (by simp) (fun i hi => by have := List.mem_range.1 hi; omega) (renL_below hσ hb).symm hb ?_ ?_ ?_ ?_
  · intro p hp
    obtain ⟨h1, h2⟩ := belowO_mem hbO p hp
    exact ⟨h1, by rw [hσ _ h1, renH_below hσ h2]; exact hO.at p hp, h2⟩
  · intro j hj j' hj' he
    rwa [hσ j (namesOf_below hbO j hj), hσ j' (namesOf_below hbO j' hj')] at he
  · intro p hp
    obtain ⟨h1, h2⟩ := belowO_mem hbS p hp
    refine ⟨h1, by rw [hσ _ h1, renH_below hσ h2]; exact hS.at p hp, h2, ?_⟩
    rw [hnames, hσ _ h1]
    intro hm
    have hj : p.1 ∈ namesOf Sc := mem_names hp
    have := List.all_eq_true.1 hd _ hj
    simp only [Bool.not_eq_eq_eq_not, Bool.not_true] at this
    have h3 : (namesOf Oc).any (Nat.beq p.1) = true := List.any_eq_true.2 ⟨p.1, hm, beq_self _⟩
    rw [h3] at this; cases this
  · intro r O' nx' hq
    obtain ⟨rfl, h1, h2⟩ := hQ r O' nx' hq
    have := hK r O' hq
    rw [ren_below hσ h1, renO_below hσ h2, hnames]
    simpa using this

/-- What a contract owns and looks at stands so in the caller's heap, by the caller's names for it. -/
def thereO (σ : Nat → Nat) (O : Hps) : Hps → Prop
  | [] => True
  | (i, h) :: r => match lkp (σ i) O with
    | some g => g = renH σ h ∧ thereO σ O r
    | none => False
def thereS (C : Cx) (σ : Nat → Nat) (O : Hps) : Hps → Prop
  | [] => True
  | (i, h) :: r => match hLook C O (.loc (σ i)) with
    | some g => g = renH σ h ∧ thereS C σ O r
    | none => False
theorem thereO.at {σ : Nat → Nat} {O : Hps} : ∀ {Oc : Hps}, thereO σ O Oc → ∀ p ∈ Oc, lkp (σ p.1) O = some (renH σ p.2)
  | [], _, p, hp => by cases hp
  | (i, h) :: r, hs, p, hp => by
    simp only [thereO] at hs
    split at hs
    · rename_i g hg
      obtain ⟨rfl, hs⟩ := hs
      rcases List.mem_cons.1 hp with rfl | hp
      · exact hg
      · exact thereO.at hs p hp
    · exact hs.elim
theorem thereS.at {C : Cx} {σ : Nat → Nat} {O : Hps} : ∀ {Sc : Hps}, thereS C σ O Sc → ∀ p ∈ Sc, hLook C O (.loc (σ p.1)) = some (renH σ p.2)
  | [], _, p, hp => by cases hp
  | (i, h) :: r, hs, p, hp => by
    simp only [thereS] at hs
    split at hs
    · rename_i g hg
      obtain ⟨rfl, hs⟩ := hs
      rcases List.mem_cons.1 hp with rfl | hp
      · exact hg
      · exact thereS.at hs p hp
    · exact hs.elim
/-- A call, the callee's names being the caller's L, in this order. -/
theorem CALL.at {f : FuncId} {args argsc : List SV} {K : SV → Hps → Nat → Prop} {k : Nat} {Oc Sc : Hps} {Q : SV → Hps → Nat → Prop} (L : List Nat) (sp : Does M.P M.C.T f k argsc Oc Sc Q)
    (hL : L.length = k) (hLn : L.all (fun i => Nat.blt i nx) = true) (ha : args = renL (cname L nx) argsc) (hb : belowL k argsc = true) (hbO : belowO k Oc = true) (hbS : belowO k Sc = true) (hO : thereO (cname L nx) O Oc) (hS : thereS M.C (cname L nx) O Sc)
    (hinj : (namesOf Oc).all (fun j => (namesOf Oc).all fun j' => !(Nat.beq (cname L nx j) (cname L nx j')) || Nat.beq j j') = true)
    (hd : (namesOf Sc).all (fun j => !((namesOf Oc).any fun j' => Nat.beq (cname L nx j) (cname L nx j'))) = true)
    (hK : ∀ r O' nx', Q r O' nx' → K (ren (cname L nx) r) (renO (cname L nx) O' ++ outside ((namesOf Oc).map (cname L nx)) O) (nx + (nx' - k))) : CALL M f args O nx K := by
  refine CALL.of L sp hL (fun i hi => by have := List.all_eq_true.1 hLn i hi; simpa [Nat.blt_eq] using this) ha hb (fun p hp => ?_) (fun j hj j' hj' he => ?_) (fun p hp => ?_) hK
  · obtain ⟨h1, h2⟩ := belowO_mem hbO p hp
    exact ⟨h1, hO.at p hp, h2⟩
  · have := List.all_eq_true.1 (List.all_eq_true.1 hinj j hj) j' hj'
    simp only [he, beq_self, Bool.not_true, Bool.false_or] at this
    exact beq_eq this
  · obtain ⟨h1, h2⟩ := belowO_mem hbS p hp
    refine ⟨h1, hS.at p hp, h2, fun hm => ?_⟩
    obtain ⟨j', hj', he⟩ := List.mem_map.1 hm
    have := List.all_eq_true.1 hd _ (mem_names hp)
    simp only [Bool.not_eq_eq_eq_not, Bool.not_true] at this
    have h3 : (namesOf Oc).any (fun j' => Nat.beq (cname L nx p.1) (cname L nx j')) = true := List.any_eq_true.2 ⟨j', hj', by rw [he]; exact beq_self _⟩
    rw [h3] at this; cases this

/-- An end that tells of blocks: those that came in by their names, and those of τ. -/
theorem FIN.at {k : Nat} {r : SV} {Q : SV → Hps → Nat → Prop} (hk : M.η0.length = k) (τ : List Nat) (rc : SV) (Oc : Hps) (hτ : τ.all (fun i => Nat.blt i nx) = true) (hr : r = ren (fname k τ) rc) (hb : below (k + τ.length) rc = true) (hbO : belowO (k + τ.length) Oc = true)
    (hO : thereO (fname k τ) O Oc) (hinj : (namesOf Oc).all (fun j => (namesOf Oc).all fun j' => !(Nat.beq (fname k τ j) (fname k τ j')) || Nat.beq j j') = true) (hQ : Q rc Oc (k + τ.length)) : FIN M O nx r Q := by
  refine FIN.keep hk τ (rc := rc) (Oc := Oc) (fun i hi => by have := List.all_eq_true.1 hτ i hi; simpa [Nat.blt_eq] using this) hr hb (fun p hp => ?_) (fun j hj j' hj' he => ?_) hQ
  · obtain ⟨h1, h2⟩ := belowO_mem hbO p hp
    exact ⟨h1, hO.at p hp, h2⟩
  · have := List.all_eq_true.1 (List.all_eq_true.1 hinj j hj) j' hj'
    simp only [he, beq_self, Bool.not_true, Bool.false_or] at this
    exact beq_eq this

/-- A loop that is come to on many ways, walked once. -/
theorem loopOnce {G : Prop} {body : Code} {Q : Post} {n : Nat} {X : Type} (P : X → Prop) (frx : X → Fr) (Ox : X → Hps) (h1 : (∀ x, P x → LOOP M body (frx x) (Ox x) n Q) → G) (h2 : ∀ x, P x → LOOP M body (frx x) (Ox x) n Q) : G := h1 h2

/-! ### The heap told otherwise ahead of a call -/
theorem CALL.weak {f : FuncId} {args : List SV} {K : SV → Hps → Nat → Prop} {O1 : Hps} {n1 : Nat} (h : ∀ η w, HeapOK M η w O nx → ∃ η', η <+: η' ∧ HeapOK M η' w O1 n1) (hc : CALL M f args O1 n1 K) : CALL M f args O nx K := by
  refine ⟨fun η w vs H hd => ?_⟩
  obtain ⟨η1, hp, H1⟩ := h η w H
  refine (hc.out η1 w vs H1 (DenL.mono hp hd)).mono ?_
  rintro v w' ⟨r, O', nx', η', h1, h2⟩
  exact ⟨r, O', nx', η', hp.trans h1, h2⟩
/-- A nil slice in a box's cell, by a name of its own. -/
def nilAt (nx es : Nat) : Nat → List SV → Option (List SV)
  | 0, .val (.slice none 0 0) :: r => some (.sl (.loc nx) 0 es 0 none :: r)
  | j + 1, c :: r => match nilAt nx es j r with | some r => some (c :: r) | none => none
  | _, _ => none
theorem nilAt_get {nx es : Nat} : ∀ {j : Nat} {row row' : List SV}, nilAt nx es j row = some row' → ∀ (i : Nat) (sv : SV), row'[i]? = some sv → row[i]? = some sv ∨ (row[i]? = some (SV.val (.slice none 0 0)) ∧ sv = SV.sl (.loc nx) 0 es 0 none)
  | 0, [], _, h => by simp [nilAt] at h
  | 0, c :: r, row', h => by
    unfold nilAt at h
    split at h
    · rename_i e1 e2
      injection e2 with e2 e3
      subst e2 e3
      injection h with h; subst h
      intro i sv hi
      cases i with
      | zero => simp at hi; subst hi; exact .inr ⟨rfl, rfl⟩
      | succ i => exact .inl (by simpa using hi)
    · simp_all
    · cases h
  | j + 1, [], _, h => by simp [nilAt] at h
  | j + 1, c :: r, row', h => by
    unfold nilAt at h
    split at h
    · rename_i r1 hr
      injection h with h; subst h
      intro i sv hi
      cases i with
      | zero => left; simpa using hi
      | succ i =>
        have := nilAt_get hr i sv (by simpa using hi)
        simpa using this
    · cases h
theorem HeapOK.nilCell {η : Env} {w : World} (H : HeapOK M η w O nx) {i j es : Nat} {row row' : List SV} (hi : lkp i O = some (.box row)) (hr : nilAt nx es j row = some row') :
    ∃ η', η <+: η' ∧ HeapOK M η' w ((nx, .rows es []) :: setK i (.box row') O) (nx + 1) := by
  have hpre : η <+: η ++ [none] := List.prefix_append _ _
  have hnew : (η ++ [none])[nx]? = some none := by rw [List.getElem?_append_right (by rw [H.len]; omega), H.len]; simp
  have hold : ∀ {i h}, lkp i O = some h → (η ++ [none])[i]? = η[i]? := fun {i h} hi => by
    rw [List.getElem?_append_left (by rw [H.len]; exact H.lt hi)]
  have hin : ∀ {a h}, lkp a (setK i (.box row') O) = some h → ∃ h0, lkp a O = some h0 ∧ HpSat (η ++ [none]) w true (.loc a) h := by
    intro a h ha
    rw [lkp_setK _ _ _ _ (by rw [hi]; rfl)] at ha
    split at ha
    · rename_i e
      subst e
      injection ha with ha
      subst ha
      refine ⟨_, hi, ?_⟩
      have := (H.own.1 _ _ hi).1.mono hpre
      simp only [HpSat] at this ⊢
      obtain ⟨e, arr, T, fz, h1, h2, h3, h4⟩ := this
      refine ⟨e, arr, T, fz, h1, h2, h3, fun c sv hc => ?_⟩
      rcases nilAt_get hr c sv hc with hc' | ⟨hc', rfl⟩
      · exact h4 c sv hc'
      · obtain ⟨v, h5, h6, h7⟩ := h4 c _ hc'
        refine ⟨v, h5, h6, ?_⟩
        simp only [Den] at h7 ⊢
        exact .inl ⟨hnew, h7.1, trivial⟩
    · exact ⟨h, ha, (H.own.1 _ _ ha).1.mono hpre⟩
  refine ⟨η ++ [none], hpre, H.pre.trans hpre, by simp [H.len], ⟨fun a h ha => ?_, fun a b h h' e e' ha hb hab he he' => ?_⟩, H.fr, H.sok⟩
  · rw [lkp_cons] at ha
    split at ha
    · rename_i e; subst e; injection ha with ha; subst ha
      refine ⟨.inl ⟨hnew, rfl⟩, fun e he => ?_⟩
      rw [hnew] at he; cases he
    · obtain ⟨h0, h1, h2⟩ := hin ha
      exact ⟨h2, fun e he => (H.own.1 a h0 h1).2 e (by rw [← hold h1]; exact he)⟩
  · rw [lkp_cons] at ha hb
    split at ha
    · rename_i e1; subst e1; rw [hnew] at he; cases he
    · split at hb
      · rename_i e2; subst e2; rw [hnew] at he'; cases he'
      · obtain ⟨h0, h1, _⟩ := hin ha
        obtain ⟨h0', h1', _⟩ := hin hb
        exact H.own.2 a b h0 h0' e e' h1 h1' hab (by rw [← hold h1]; exact he) (by rw [← hold h1']; exact he')
theorem CALL.nilCell {f : FuncId} {args : List SV} {K : SV → Hps → Nat → Prop} (i j es : Nat) {row row' : List SV} (hi : lkp i O = some (.box row)) (hr : nilAt nx es j row = some row') (hc : CALL M f args ((nx, .rows es []) :: setK i (.box row') O) (nx + 1) K) : CALL M f args O nx K :=
  CALL.weak (fun η w H => H.nilCell hi hr) hc
/-- An end that tells of blocks by the names that came in. -/
theorem FIN.here {k : Nat} {r rc : SV} {Oc : Hps} {Q : SV → Hps → Nat → Prop} (hk : M.η0.length = k) (hr : r = rc) (hb : below k rc = true) (hbO : belowO k Oc = true) (hO : hereO O Oc) (hQ : Q rc Oc k) : FIN M O nx r Q := by
  have hσ : ∀ j, j < k → fname k [] j = j := fun j hj => by simp [fname, hj]
  refine FIN.keep hk [] (rc := rc) (Oc := Oc) (fun i hi => by cases hi) (by rw [ren_below hσ hb]; exact hr) hb ?_ ?_ hQ
  · intro p hp
    obtain ⟨h1, h2⟩ := belowO_mem hbO p hp
    exact ⟨h1, by rw [hσ _ h1, renH_below hσ h2]; exact hO.at p hp, h2⟩
  · intro j hj j' hj' he
    rwa [hσ j (namesOf_below hbO j hj), hσ j' (namesOf_below hbO j' hj')] at he
/-- A row of which less is told. -/
def Loose (k : Nat) : List SV → List SV → Prop
  | _, [] => True
  | [], _ :: _ => False
  | c :: cs, c' :: cs' => (c' = .any ∨ (c' = c ∧ below k c = true)) ∧ Loose k cs cs'
theorem Loose.get {k : Nat} : ∀ {row row' : List SV}, Loose k row row' → ∀ (j : Nat) (sv : SV), row'[j]? = some sv → ∃ c, row[j]? = some c ∧ (sv = .any ∨ (sv = c ∧ below k c = true))
  | _, [], _, j, sv, h => by simp at h
  | [], _ :: _, h, _, _, _ => h.elim
  | c :: cs, c' :: cs', h, 0, sv, hj => by simp at hj; subst hj; exact ⟨c, rfl, h.1⟩
  | c :: cs, c' :: cs', h, j + 1, sv, hj => by simp at hj; obtain ⟨d, h1, h2⟩ := Loose.get h.2 j sv hj; exact ⟨d, by simpa using h1, h2⟩
/-- An end with a plain value and one box, of which less is told. -/
theorem FIN.loose {k : Nat} {r : SV} {Q : SV → Hps → Nat → Prop} (hk : M.η0.length = k) (i : Nat) (row' : List SV) {row : List SV} (hr : plain r = true) (hO : lkp i O = some (.box row)) (hi : Nat.blt i k = true) (hl : Loose k row row') (hQ : Q r [(i, .box row')] k) : FIN M O nx r Q := by
  refine ⟨fun η w v H hd => ⟨r, [(i, .box row')], k, M.η0, hQ, List.prefix_rfl, ?_, ?_⟩⟩
  · have hi : i < k := by simpa [Nat.blt_eq] using hi
    have hget : ∀ j, j < k → η[j]? = M.η0[j]? := fun j hj => by
      obtain ⟨t, ht⟩ := H.pre
      rw [← ht, List.getElem?_append_left (by omega)]
    have hb : Bwd η M.η0 id k := fun j x hj hx => by rw [← hget j hj]; exact hx
    have hsat : HpSat M.η0 w true (.loc i) (.box row') := by
      have := (H.own.1 i _ hO).1
      simp only [HpSat] at this ⊢
      obtain ⟨e, arr, T, fz, h1, h2, h3, h4⟩ := this
      refine ⟨e, arr, T, fz, by simp only [Env.get] at h1 ⊢; rw [← hget i hi]; exact h1, h2, h3, fun j sv hj => ?_⟩
      obtain ⟨c, h5, h6⟩ := hl.get j sv hj
      obtain ⟨u, h7, h8, h9⟩ := h4 j c h5
      refine ⟨u, h7, h8, ?_⟩
      rcases h6 with rfl | ⟨rfl, h6⟩
      · simp only [Den]
      · exact Den.unren hb h6 (by rw [ren_id (σ := id) (fun _ => rfl)]; exact h9)
    refine ⟨List.prefix_rfl, hk, ⟨fun j h hj => ?_, fun a b h h' e e' ha hb' hab => ?_⟩, H.fr, H.sok⟩
    · rw [lkp_cons] at hj
      split at hj
      · rename_i e; subst e; injection hj with hj; subst hj
        exact ⟨hsat, fun e he => (H.own.1 _ _ hO).2 e (by rw [hget _ hi]; exact he)⟩
      · simp [lkp] at hj
    · rw [lkp_cons] at ha hb'
      split at ha
      · split at hb'
        · rename_i e1 e2; exact (hab (e1.trans e2.symm)).elim
        · simp [lkp] at hb'
      · simp [lkp] at ha
  · have hb : Bwd η M.η0 (fun i => i) 0 := fun i x hi => by omega
    exact Den.unren hb (plain_below 0 hr) (by rw [ren_plain _ hr]; exact hd)
/-- An end whose tuple's head is not told of. -/
theorem FIN.anyT {k : Nat} {r x : SV} {vs : List SV} {Q : SV → Hps → Nat → Prop} (hk : M.η0.length = k) (hr : r = .tup (x :: vs)) (hv : plainL vs = true) (hQ : Q (.tup (.any :: vs)) [] k) : FIN M O nx r Q := by
  refine ⟨fun η w v H hd => ⟨.tup (.any :: vs), [], k, M.η0, hQ, List.prefix_rfl, ⟨List.prefix_rfl, hk, ⟨fun i h hi => by simp [lkp] at hi, fun i j h h' e e' hi => by simp [lkp] at hi⟩, H.fr, H.sok⟩, ?_⟩⟩
  rw [hr] at hd
  simp only [Den, DenL] at hd ⊢
  obtain ⟨us, h1, u, us', h2, h3, h4⟩ := hd
  refine ⟨us, h1, u, us', h2, trivial, ?_⟩
  have hb : Bwd η M.η0 (fun i => i) 0 := fun i x hi => by omega
  exact DenL.unren hb (plainL_below 0 hv) (by rw [renL_plain _ hv]; exact h4)
def anyN : Nat → List SV
  | 0 => []
  | n + 1 => .any :: anyN n
theorem denL_any {η η' : Env} : ∀ {cs : List SV} {vs : List Value}, DenL η cs vs → DenL η' (anyN cs.length) vs
  | [], vs, h => by simpa [DenL, anyN] using h
  | c :: cs, vs, h => by
    simp only [DenL, anyN, List.length_cons] at h ⊢
    obtain ⟨u, us, rfl, _, h⟩ := h
    exact ⟨u, us, rfl, by simp only [Den], denL_any h⟩
/-- An end whose tuple's head is a struct of which nothing is told. -/
theorem FIN.anyA (n : Nat) {k : Nat} {r : SV} {cs vs : List SV} {Q : SV → Hps → Nat → Prop} (hk : M.η0.length = k) (hr : r = .tup (.agg cs :: vs)) (hn : lenIs cs n = true) (hv : plainL vs = true) (hQ : Q (.tup (.agg (anyN n) :: vs)) [] k) : FIN M O nx r Q := by
  have hn : cs.length = n := by
    clear hr hQ
    induction n generalizing cs with
    | zero => cases cs with
      | nil => rfl
      | cons a l => simp [lenIs] at hn
    | succ n ih => cases cs with
      | nil => simp [lenIs] at hn
      | cons a l => simp only [lenIs] at hn; simp [ih hn]
  refine ⟨fun η w v H hd => ⟨.tup (.agg (anyN n) :: vs), [], k, M.η0, hQ, List.prefix_rfl, ⟨List.prefix_rfl, hk, ⟨fun i h hi => by simp [lkp] at hi, fun i j h h' e e' hi => by simp [lkp] at hi⟩, H.fr, H.sok⟩, ?_⟩⟩
  rw [hr] at hd
  simp only [Den, DenL] at hd ⊢
  obtain ⟨us, h1, u, us', h2, ⟨xs, h5, h6, h7⟩, h4⟩ := hd
  refine ⟨us, h1, u, us', h2, ⟨xs, h5, by rw [← hn]; exact denL_any h6, h7⟩, ?_⟩
  have hb : Bwd η M.η0 (fun i => i) 0 := fun i x hi => by omega
  exact DenL.unren hb (plainL_below 0 hv) (by rw [renL_plain _ hv]; exact h4)
end Go.Sx
/- The comparisons of numbers, texts, terms and quads, the program's and the reference's, walked. Conditions: none. -/
set_option linter.unusedVariables false
set_option linter.unusedSimpArgs false
set_option maxRecDepth 20000
namespace Go.Proofs.YtpffclpheldabaaGreatDoor
open Go.Sx Go.Our
theorem isNaN_does (a : Int) : Does Tryz.prog tab 119 0 [.int .i64 a] [] [] (Val (.bool false)) := by
  refine Does.enter tabOK (g := 119) (fn := Tryz.f119) Tryz.call119 Tryz.func119 rfl 6 rfl rfl [.tmp 2] rfl ?_
  intro w0 F η0 h0
  conv => whnf
  exact FIN.value h0 rfl (by simp)
theorem compare_does (a b : Int) : Does Tryz.prog tab 88 0 [.int .i64 a, .int .i64 b] [] [] (Val (.int .i64 (cmpI a b))) := by
  refine Does.enter tabOK (g := 88) (fn := Tryz.f88) Tryz.call88 Tryz.func88 rfl 20 rfl rfl [.tmp 4] rfl ?_
  intro w0 F η0 h0
  conv => whnf
  repeat' (first | ((with_reducible refine IF.tt ?_); conv => whnf) | ((with_reducible refine IF.ff ?_); conv => whnf) | (refine CALL.value (isNaN_does _) rfl rfl ?_; conv => whnf) | ((with_reducible refine NEED.mk ?_ ?_); (first | with_reducible rfl | omega | (simp (disch := omega) only [lnB, wrap64, wrap32] <;> omega) | (intro h; (try simp (disch := omega) only [hsB, hsC, lnB, wrap64, wrap32, Int.reduceBEq, Int.reduceBNe, Int.reduceEq, Int.reduceNe, Int.reduceLT, Int.reduceLE, Int.reduceGT, Int.reduceGE, Int.reduceAdd, Int.reduceSub, Int.reduceMul, Int.reduceNeg, reduceCtorEq] at h); (first | omega | (simp (disch := omega) only [lnB, wrap64, wrap32] <;> omega))) | (exact needApp 256 rfl rfl (by simp) (by simp) (by omega)) | (simp <;> omega)); conv => whnf) | ((with_reducible apply GET.at); (rfl); conv => whnf) | ((with_reducible apply GETG.at); (rfl); conv => whnf) | ((with_reducible refine IF.mk (fun h => ?_) (fun h => ?_)) <;> (try simp (disch := omega) only [hsB, hsC, lnB, wrap64, wrap32, Int.reduceBEq, Int.reduceBNe, Int.reduceEq, Int.reduceNe, Int.reduceLT, Int.reduceLE, Int.reduceGT, Int.reduceGE, Int.reduceAdd, Int.reduceSub, Int.reduceMul, Int.reduceNeg, reduceCtorEq] at h) <;> (try (exfalso; omega)) <;> conv => whnf))
  all_goals
    refine FIN.value h0 rfl (congrArg (SV.int _) ?_)
    unfold cmpI
    (repeat' split) <;> simp_all <;> omega
theorem cmpstr_does (a b : List UInt8) : Does Tryz.prog tab 164 0 [.str a, .str b] [] [] (Val (.int .i64 (cmpL a b))) := by
  refine Does.says fun η w vs hd => ?_
  simp only [DenL, Den] at hd
  obtain ⟨u, us, rfl, rfl, u', us', rfl, rfl, rfl⟩ := hd
  refine ⟨_, ?_, rfl⟩
  rw [run_callFunc_extern Tryz.func164 (by kernel_rfl) (by kernel_rfl) (by kernel_rfl) (e := Extern.BytealgCompare.compare) (by kernel_rfl), Lib.run_compareString]
  rfl
theorem cmpString_does (a b : List UInt8) : Does Tryz.prog tab 120 0 [.str a, .str b] [] [] (Val (.int .i64 (cmpL a b))) := by
  refine Does.enter tabOK (g := 120) (fn := Tryz.f120) Tryz.call120 Tryz.func120 rfl 8 rfl rfl [.tmp 4] rfl ?_
  intro w0 F η0 h0
  conv => whnf
  repeat' (first | ((with_reducible refine IF.tt ?_); conv => whnf) | ((with_reducible refine IF.ff ?_); conv => whnf) | (refine CALL.value (cmpstr_does _ _) rfl rfl ?_; conv => whnf) | ((with_reducible refine NEED.mk ?_ ?_); (first | with_reducible rfl | omega | (simp (disch := omega) only [lnB, wrap64, wrap32] <;> omega) | (intro h; (try simp (disch := omega) only [hsB, hsC, lnB, wrap64, wrap32, Int.reduceBEq, Int.reduceBNe, Int.reduceEq, Int.reduceNe, Int.reduceLT, Int.reduceLE, Int.reduceGT, Int.reduceGE, Int.reduceAdd, Int.reduceSub, Int.reduceMul, Int.reduceNeg, reduceCtorEq] at h); (first | omega | (simp (disch := omega) only [lnB, wrap64, wrap32] <;> omega))) | (exact needApp 256 rfl rfl (by simp) (by simp) (by omega)) | (simp <;> omega)); conv => whnf) | ((with_reducible apply GET.at); (rfl); conv => whnf) | ((with_reducible apply GETG.at); (rfl); conv => whnf) | ((with_reducible refine IF.mk (fun h => ?_) (fun h => ?_)) <;> (try simp (disch := omega) only [hsB, hsC, lnB, wrap64, wrap32, Int.reduceBEq, Int.reduceBNe, Int.reduceEq, Int.reduceNe, Int.reduceLT, Int.reduceLE, Int.reduceGT, Int.reduceGE, Int.reduceAdd, Int.reduceSub, Int.reduceMul, Int.reduceNeg, reduceCtorEq] at h) <;> (try (exfalso; omega)) <;> conv => whnf))
  exact FIN.value h0 rfl rfl
theorem strCmp_does (a b : List UInt8) : Does Tryz.prog tab 89 0 [.str a, .str b] [] [] (Val (.int .i64 (cmpL a b))) := by
  refine Does.enter tabOK (g := 89) (fn := Tryz.f89) Tryz.call89 Tryz.func89 rfl 8 rfl rfl [.tmp 4] rfl ?_
  intro w0 F η0 h0
  conv => whnf
  repeat' (first | ((with_reducible refine IF.tt ?_); conv => whnf) | ((with_reducible refine IF.ff ?_); conv => whnf) | (refine CALL.value (cmpString_does _ _) rfl rfl ?_; conv => whnf) | ((with_reducible refine NEED.mk ?_ ?_); (first | with_reducible rfl | omega | (simp (disch := omega) only [lnB, wrap64, wrap32] <;> omega) | (intro h; (try simp (disch := omega) only [hsB, hsC, lnB, wrap64, wrap32, Int.reduceBEq, Int.reduceBNe, Int.reduceEq, Int.reduceNe, Int.reduceLT, Int.reduceLE, Int.reduceGT, Int.reduceGE, Int.reduceAdd, Int.reduceSub, Int.reduceMul, Int.reduceNeg, reduceCtorEq] at h); (first | omega | (simp (disch := omega) only [lnB, wrap64, wrap32] <;> omega))) | (exact needApp 256 rfl rfl (by simp) (by simp) (by omega)) | (simp <;> omega)); conv => whnf) | ((with_reducible apply GET.at); (rfl); conv => whnf) | ((with_reducible apply GETG.at); (rfl); conv => whnf) | ((with_reducible refine IF.mk (fun h => ?_) (fun h => ?_)) <;> (try simp (disch := omega) only [hsB, hsC, lnB, wrap64, wrap32, Int.reduceBEq, Int.reduceBNe, Int.reduceEq, Int.reduceNe, Int.reduceLT, Int.reduceLE, Int.reduceGT, Int.reduceGE, Int.reduceAdd, Int.reduceSub, Int.reduceMul, Int.reduceNeg, reduceCtorEq] at h) <;> (try (exfalso; omega)) <;> conv => whnf))
  exact FIN.value h0 rfl rfl
def intRowC (x : Int) : List SV := [.int .i64 x]
theorem or_does (xs : List Int) (hn : xs.length ≤ 1152921504606846976) : Does Tryz.prog tab 53 1 [.sl (.loc 0) 0 1 xs.length none] [] [(0, .rows 1 (xs.map intRowC))] (ValK 1 (.int .i64 (orI xs))) := by
  refine Does.enter tabOK (g := 53) (fn := Tryz.f53) Tryz.call53 Tryz.func53 rfl 18 rfl rfl [.tmp 2] rfl ?_
  intro w0 F η0 h0
  conv => whnf
  refine LOOP.go tabOK [3, 6, 7] (X := Nat) (fun i => i ≤ xs.length ∧ orI xs = orI (xs.drop i)) (fun i => [(8, .int .i64 (i : Int))]) (fun i => []) 1 (fun i => xs.length - i) 0 ⟨by omega, rfl⟩ ?_
  conv => whnf
  refine ⟨by (refine GOES.cutting h0 rfl rfl rfl (by first | rfl | simp [belowO, belowH, plainLL_below, plainLL_map, plainL, plain]) ?_ ?_ <;> (repeat' (first | (with_reducible rfl) | (exact congrArg (fun n => SV.sl _ _ _ n _) (by simp)) | (exact congrArg (Hp.rows _) (by simp)) | (exact congrArg (SV.int _) (by first | omega | (simp (disch := omega) only [lnB, wrap64, wrap32] <;> omega) | (simp; done) | (simp <;> omega))) | ((conv => whnf); refine ⟨?_, ?_⟩) | exact trivial | (simp; done) | rfl))), ?_⟩
  rintro i ⟨hi, ho⟩
  conv => whnf
  repeat' (first | ((with_reducible refine IF.tt ?_); conv => whnf) | ((with_reducible refine IF.ff ?_); conv => whnf) | (refine GET.at (row := intRowC (xs[i]'(by omega))) (by rw [List.getElem?_map, show 0 + (i : Int).toNat = i by omega, List.getElem?_eq_getElem (by omega)]; rfl) ?_; conv => whnf) | ((with_reducible refine NEED.mk ?_ ?_); (first | with_reducible rfl | omega | (simp (disch := omega) only [lnB, wrap64, wrap32] <;> omega) | (intro h; (try simp (disch := omega) only [hsB, hsC, lnB, wrap64, wrap32, Int.reduceBEq, Int.reduceBNe, Int.reduceEq, Int.reduceNe, Int.reduceLT, Int.reduceLE, Int.reduceGT, Int.reduceGE, Int.reduceAdd, Int.reduceSub, Int.reduceMul, Int.reduceNeg, reduceCtorEq] at h); (first | omega | (simp (disch := omega) only [lnB, wrap64, wrap32] <;> omega))) | (exact needApp 256 rfl rfl (by simp) (by simp) (by omega)) | (simp <;> omega)); conv => whnf) | ((with_reducible apply GET.at); (rfl); conv => whnf) | ((with_reducible apply GETG.at); (rfl); conv => whnf) | ((with_reducible refine IF.mk (fun h => ?_) (fun h => ?_)) <;> (try simp (disch := omega) only [hsB, hsC, lnB, wrap64, wrap32, Int.reduceBEq, Int.reduceBNe, Int.reduceEq, Int.reduceNe, Int.reduceLT, Int.reduceLE, Int.reduceGT, Int.reduceGE, Int.reduceAdd, Int.reduceSub, Int.reduceMul, Int.reduceNeg, reduceCtorEq] at h) <;> (try (exfalso; omega)) <;> conv => whnf))
  · have hl : i < xs.length := by omega
    refine FIN.valueK h0 rfl (congrArg (SV.int _) ?_)
    rw [ho, List.drop_eq_getElem_cons hl]; simp only [orI]; rw [if_pos h]
  · have hl : i < xs.length := by omega
    refine ⟨i + 1, ⟨by omega, ?_⟩, by omega, ?_⟩
    · rw [ho, List.drop_eq_getElem_cons hl]; simp only [orI]; rw [if_neg (by simpa using h)]
    · conv => whnf
      (refine GOES.cutting h0 rfl rfl rfl (by first | rfl | simp [belowO, belowH, plainLL_below, plainLL_map, plainL, plain]) ?_ ?_ <;> (repeat' (first | (with_reducible rfl) | (exact congrArg (fun n => SV.sl _ _ _ n _) (by simp)) | (exact congrArg (Hp.rows _) (by simp)) | (exact congrArg (SV.int _) (by first | omega | (simp (disch := omega) only [lnB, wrap64, wrap32] <;> omega) | (simp; done) | (simp <;> omega))) | ((conv => whnf); refine ⟨?_, ?_⟩) | exact trivial | (simp; done) | rfl)))
  · refine FIN.valueK h0 rfl (congrArg (SV.int _) ?_)
    rw [ho, List.drop_eq_nil_of_le (by omega)]; rfl
abbrev tmR (x : Tm) : List SV := [.int .i64 x.k, .str x.t, .str x.y, .str x.l]
theorem tmCmp_does (a b : Tm) : Does Tryz.prog tab 54 0 [.agg (tmR a), .agg (tmR b)] [] [] (Val (.int .i64 (tmCmp a b))) := by
  refine Does.enter tabOK (g := 54) (fn := Tryz.f54) Tryz.call54 Tryz.func54 rfl 27 rfl rfl [.tmp 4] rfl ?_
  intro w0 F η0 h0
  conv => whnf
  repeat' (first | ((with_reducible refine IF.tt ?_); conv => whnf) | ((with_reducible refine IF.ff ?_); conv => whnf) | (refine DRAWN.of (id := 1) tabOK mixed (planOf [(0, 1), (2, 1), (5, 1), (7, 1), (10, 1), (12, 1), (15, 1), (17, 1), (1, 2), (3, 2), (6, 2), (8, 2), (11, 2), (13, 2), (16, 2), (18, 2), (4, 3), (9, 3), (14, 3), (19, 3), (20, 3), (21, 3), (22, 1)]) (by kernel_rfl) ?_; conv => whnf) | ((with_reducible refine ADD.mk (fun _ _ => ?_)); conv => whnf) | ((with_reducible refine NEED.mk (Det.of rfl) ?_); conv => whnf) | ((with_reducible refine FORK.mk ?_ ?_) <;> conv => whnf) | (refine CALL.value (compare_does a.k b.k) rfl rfl ?_; conv => whnf) | (refine CALL.value (strCmp_does a.t b.t) rfl rfl ?_; conv => whnf) | (refine CALL.value (strCmp_does a.y b.y) rfl rfl ?_; conv => whnf) | (refine CALL.value (strCmp_does a.l b.l) rfl rfl ?_; conv => whnf) | (refine CALL.looks [2] (or_does [cmpI a.k b.k, cmpL a.t b.t, cmpL a.y b.y, cmpL a.l b.l] (by simp)) rfl rfl rfl rfl ⟨⟨rfl, rfl, rfl⟩, trivial⟩ ?_; conv => whnf) | ((with_reducible refine NEED.mk ?_ ?_); (first | with_reducible rfl | omega | (simp (disch := omega) only [lnB, wrap64, wrap32] <;> omega) | (intro h; (try simp (disch := omega) only [hsB, hsC, lnB, wrap64, wrap32, Int.reduceBEq, Int.reduceBNe, Int.reduceEq, Int.reduceNe, Int.reduceLT, Int.reduceLE, Int.reduceGT, Int.reduceGE, Int.reduceAdd, Int.reduceSub, Int.reduceMul, Int.reduceNeg, reduceCtorEq] at h); (first | omega | (simp (disch := omega) only [lnB, wrap64, wrap32] <;> omega))) | (exact needApp 256 rfl rfl (by simp) (by simp) (by omega)) | (simp <;> omega)); conv => whnf) | ((with_reducible apply GET.at); (rfl); conv => whnf) | ((with_reducible apply GETG.at); (rfl); conv => whnf) | ((with_reducible refine IF.mk (fun h => ?_) (fun h => ?_)) <;> (try simp (disch := omega) only [hsB, hsC, lnB, wrap64, wrap32, Int.reduceBEq, Int.reduceBNe, Int.reduceEq, Int.reduceNe, Int.reduceLT, Int.reduceLE, Int.reduceGT, Int.reduceGE, Int.reduceAdd, Int.reduceSub, Int.reduceMul, Int.reduceNeg, reduceCtorEq] at h) <;> (try (exfalso; omega)) <;> conv => whnf))
  exact FIN.value h0 rfl (by rw [← orI_tm])
theorem qdCmp_does (a b : Qd) : Does Tryz.prog tab 29 0 [.agg a.row, .agg b.row] [] [] (Val (.int .i64 (qdCmp a b))) := by
  refine Does.enter tabOK (g := 29) (fn := Tryz.f29) Tryz.call29 Tryz.func29 rfl 27 rfl rfl [.tmp 4] rfl ?_
  intro w0 F η0 h0
  conv => whnf
  repeat' (first | ((with_reducible refine IF.tt ?_); conv => whnf) | ((with_reducible refine IF.ff ?_); conv => whnf) | (refine DRAWN.of (id := 1) tabOK mixed (planOf [(0, 1), (2, 1), (5, 1), (7, 1), (10, 1), (12, 1), (15, 1), (17, 1), (1, 2), (3, 2), (6, 2), (8, 2), (11, 2), (13, 2), (16, 2), (18, 2), (4, 3), (9, 3), (14, 3), (19, 3), (20, 3), (21, 3), (22, 1)]) (by kernel_rfl) ?_; conv => whnf) | ((with_reducible refine ADD.mk (fun _ _ => ?_)); conv => whnf) | ((with_reducible refine NEED.mk (Det.of rfl) ?_); conv => whnf) | ((with_reducible refine FORK.mk ?_ ?_) <;> conv => whnf) | (refine CALL.value (tmCmp_does a.g b.g) rfl rfl ?_; conv => whnf) | (refine CALL.value (tmCmp_does a.s b.s) rfl rfl ?_; conv => whnf) | (refine CALL.value (tmCmp_does a.p b.p) rfl rfl ?_; conv => whnf) | (refine CALL.value (tmCmp_does a.o b.o) rfl rfl ?_; conv => whnf) | (refine CALL.looks [2] (or_does [tmCmp a.g b.g, tmCmp a.s b.s, tmCmp a.p b.p, tmCmp a.o b.o] (by simp)) rfl rfl rfl rfl ⟨⟨rfl, rfl, rfl⟩, trivial⟩ ?_; conv => whnf) | ((with_reducible refine NEED.mk ?_ ?_); (first | with_reducible rfl | omega | (simp (disch := omega) only [lnB, wrap64, wrap32] <;> omega) | (intro h; (try simp (disch := omega) only [hsB, hsC, lnB, wrap64, wrap32, Int.reduceBEq, Int.reduceBNe, Int.reduceEq, Int.reduceNe, Int.reduceLT, Int.reduceLE, Int.reduceGT, Int.reduceGE, Int.reduceAdd, Int.reduceSub, Int.reduceMul, Int.reduceNeg, reduceCtorEq] at h); (first | omega | (simp (disch := omega) only [lnB, wrap64, wrap32] <;> omega))) | (exact needApp 256 rfl rfl (by simp) (by simp) (by omega)) | (simp <;> omega)); conv => whnf) | ((with_reducible apply GET.at); (rfl); conv => whnf) | ((with_reducible apply GETG.at); (rfl); conv => whnf) | ((with_reducible refine IF.mk (fun h => ?_) (fun h => ?_)) <;> (try simp (disch := omega) only [hsB, hsC, lnB, wrap64, wrap32, Int.reduceBEq, Int.reduceBNe, Int.reduceEq, Int.reduceNe, Int.reduceLT, Int.reduceLE, Int.reduceGT, Int.reduceGE, Int.reduceAdd, Int.reduceSub, Int.reduceMul, Int.reduceNeg, reduceCtorEq] at h) <;> (try (exfalso; omega)) <;> conv => whnf))
  exact FIN.value h0 rfl (by rw [← orI_qd])
theorem texts_does (a b : List UInt8) : Does Tryz.prog tab 90 0 [.str a, .str b] [] [] (Val (.int .i64 (cmpL a b))) := by
  have hr := triL.rng a b
  have ha := triL.anti a b
  have h1 := sLess_cmp a b
  have h2 := sLess_cmp b a
  have h3 : (a == b) = decide (cmpL a b = 0) := by rw [Bool.eq_iff_iff]; simp [triL.zero]
  refine Does.enter tabOK (g := 90) (fn := Tryz.f90) Tryz.call90 Tryz.func90 rfl 13 rfl rfl [.tmp 4] rfl ?_
  intro w0 F η0 h0
  conv => whnf
  repeat' (first | ((with_reducible refine IF.tt ?_); conv => whnf) | ((with_reducible refine IF.ff ?_); conv => whnf) | ((with_reducible refine NEED.mk ?_ ?_); (first | with_reducible rfl | omega | (simp (disch := omega) only [lnB, wrap64, wrap32] <;> omega) | (intro h; (try simp (disch := omega) only [hsB, hsC, lnB, wrap64, wrap32, Int.reduceBEq, Int.reduceBNe, Int.reduceEq, Int.reduceNe, Int.reduceLT, Int.reduceLE, Int.reduceGT, Int.reduceGE, Int.reduceAdd, Int.reduceSub, Int.reduceMul, Int.reduceNeg, reduceCtorEq] at h); (first | omega | (simp (disch := omega) only [lnB, wrap64, wrap32] <;> omega))) | (exact needApp 256 rfl rfl (by simp) (by simp) (by omega)) | (simp <;> omega)); conv => whnf) | ((with_reducible apply GET.at); (rfl); conv => whnf) | ((with_reducible apply GETG.at); (rfl); conv => whnf) | ((with_reducible refine IF.mk (fun h => ?_) (fun h => ?_)) <;> (try simp (disch := omega) only [hsB, hsC, lnB, wrap64, wrap32, Int.reduceBEq, Int.reduceBNe, Int.reduceEq, Int.reduceNe, Int.reduceLT, Int.reduceLE, Int.reduceGT, Int.reduceGE, Int.reduceAdd, Int.reduceSub, Int.reduceMul, Int.reduceNeg, reduceCtorEq] at h) <;> (try (exfalso; omega)) <;> conv => whnf))
  all_goals
    refine FIN.value h0 rfl (congrArg (SV.int _) ?_)
    simp only [h1, h2, h3, decide_eq_true_eq, decide_eq_false_iff_not] at *
    have hz := triL.zero a b
    simp only [← hz] at *
    omega
theorem rtmCmp_does (a b : Tm) : Does Tryz.prog tab 55 0 [.agg (tmR a), .agg (tmR b)] [] [] (Val (.int .i64 (tmCmp a b))) := by
  refine Does.enter tabOK (g := 55) (fn := Tryz.f55) Tryz.call55 Tryz.func55 rfl 36 rfl rfl [.tmp 4] rfl ?_
  intro w0 F η0 h0
  conv => whnf
  repeat' (first | ((with_reducible refine IF.tt ?_); conv => whnf) | ((with_reducible refine IF.ff ?_); conv => whnf) | (refine CALL.value (texts_does _ _) rfl rfl ?_; conv => whnf) | ((with_reducible refine NEED.mk ?_ ?_); (first | with_reducible rfl | omega | (simp (disch := omega) only [lnB, wrap64, wrap32] <;> omega) | (intro h; (try simp (disch := omega) only [hsB, hsC, lnB, wrap64, wrap32, Int.reduceBEq, Int.reduceBNe, Int.reduceEq, Int.reduceNe, Int.reduceLT, Int.reduceLE, Int.reduceGT, Int.reduceGE, Int.reduceAdd, Int.reduceSub, Int.reduceMul, Int.reduceNeg, reduceCtorEq] at h); (first | omega | (simp (disch := omega) only [lnB, wrap64, wrap32] <;> omega))) | (exact needApp 256 rfl rfl (by simp) (by simp) (by omega)) | (simp <;> omega)); conv => whnf) | ((with_reducible apply GET.at); (rfl); conv => whnf) | ((with_reducible apply GETG.at); (rfl); conv => whnf) | ((with_reducible refine IF.mk (fun h => ?_) (fun h => ?_)) <;> (try simp (disch := omega) only [hsB, hsC, lnB, wrap64, wrap32, Int.reduceBEq, Int.reduceBNe, Int.reduceEq, Int.reduceNe, Int.reduceLT, Int.reduceLE, Int.reduceGT, Int.reduceGE, Int.reduceAdd, Int.reduceSub, Int.reduceMul, Int.reduceNeg, reduceCtorEq] at h) <;> (try (exfalso; omega)) <;> conv => whnf))
  all_goals
    refine FIN.value h0 rfl (congrArg (SV.int _) ?_)
    rw [← orI_tm]
    simp only [orI, cmpI]
    (repeat' split) <;> simp_all <;> omega
theorem rqdCmp_does (a b : Qd) : Does Tryz.prog tab 31 0 [.agg a.row, .agg b.row] [] [] (Val (.int .i64 (qdCmp a b))) := by
  refine Does.enter tabOK (g := 31) (fn := Tryz.f31) Tryz.call31 Tryz.func31 rfl 33 rfl rfl [.tmp 4] rfl ?_
  intro w0 F η0 h0
  conv => whnf
  repeat' (first | ((with_reducible refine IF.tt ?_); conv => whnf) | ((with_reducible refine IF.ff ?_); conv => whnf) | (refine CALL.value (rtmCmp_does a.g b.g) rfl rfl ?_; conv => whnf) | (refine CALL.value (rtmCmp_does a.s b.s) rfl rfl ?_; conv => whnf) | (refine CALL.value (rtmCmp_does a.p b.p) rfl rfl ?_; conv => whnf) | (refine CALL.value (rtmCmp_does a.o b.o) rfl rfl ?_; conv => whnf) | ((with_reducible refine NEED.mk ?_ ?_); (first | with_reducible rfl | omega | (simp (disch := omega) only [lnB, wrap64, wrap32] <;> omega) | (intro h; (try simp (disch := omega) only [hsB, hsC, lnB, wrap64, wrap32, Int.reduceBEq, Int.reduceBNe, Int.reduceEq, Int.reduceNe, Int.reduceLT, Int.reduceLE, Int.reduceGT, Int.reduceGE, Int.reduceAdd, Int.reduceSub, Int.reduceMul, Int.reduceNeg, reduceCtorEq] at h); (first | omega | (simp (disch := omega) only [lnB, wrap64, wrap32] <;> omega))) | (exact needApp 256 rfl rfl (by simp) (by simp) (by omega)) | (simp <;> omega)); conv => whnf) | ((with_reducible apply GET.at); (rfl); conv => whnf) | ((with_reducible apply GETG.at); (rfl); conv => whnf) | ((with_reducible refine IF.mk (fun h => ?_) (fun h => ?_)) <;> (try simp (disch := omega) only [hsB, hsC, lnB, wrap64, wrap32, Int.reduceBEq, Int.reduceBNe, Int.reduceEq, Int.reduceNe, Int.reduceLT, Int.reduceLE, Int.reduceGT, Int.reduceGE, Int.reduceAdd, Int.reduceSub, Int.reduceMul, Int.reduceNeg, reduceCtorEq] at h) <;> (try (exfalso; omega)) <;> conv => whnf))
  all_goals
    refine FIN.value h0 rfl (congrArg (SV.int _) ?_)
    rw [← orI_qd]
    simp only [orI]
    (repeat' split) <;> simp_all
end Go.Proofs.YtpffclpheldabaaGreatDoor
/- Chapter 7's law: roomy lists of quads, kept lists; walked. Conditions: none. -/
set_option linter.unusedVariables false
set_option linter.unusedSimpArgs false
set_option maxRecDepth 20000
namespace Go.Proofs.YtpffclpheldabaaGreatDoor
open Go.Sx Go.Our
def markQd : Qd := ⟨⟨-7, [109, 97, 114, 107], [], []⟩, zeroTm, zeroTm, zeroTm⟩
theorem mark_does : Does Tryz.prog tab 27 0 [] [] [] (Val (.agg (qdRow markQd))) := by
  refine Does.enter tabOK (g := 27) (fn := Tryz.f27) Tryz.call27 Tryz.func27 rfl 3 rfl rfl [.cell 0 53] rfl ?_
  intro w0 F η0 h0
  conv => whnf
  repeat' (first | ((with_reducible refine IF.tt ?_); conv => whnf) | ((with_reducible refine IF.ff ?_); conv => whnf) | ((with_reducible refine NEED.mk ?_ ?_); (first | with_reducible rfl | omega | (simp (disch := omega) only [lnB, wrap64, wrap32] <;> omega) | (intro h; (try simp (disch := omega) only [hsB, hsC, lnB, wrap64, wrap32, Int.reduceBEq, Int.reduceBNe, Int.reduceEq, Int.reduceNe, Int.reduceLT, Int.reduceLE, Int.reduceGT, Int.reduceGE, Int.reduceAdd, Int.reduceSub, Int.reduceMul, Int.reduceNeg, reduceCtorEq] at h); (first | omega | (simp (disch := omega) only [lnB, wrap64, wrap32] <;> omega))) | (exact needApp 256 rfl rfl (by simp) (by simp) (by omega)) | (simp <;> omega)); conv => whnf) | ((with_reducible apply GET.at); (rfl); conv => whnf) | ((with_reducible apply GETG.at); (rfl); conv => whnf) | ((with_reducible refine IF.mk (fun h => ?_) (fun h => ?_)) <;> (try simp (disch := omega) only [hsB, hsC, lnB, wrap64, wrap32, Int.reduceBEq, Int.reduceBNe, Int.reduceEq, Int.reduceNe, Int.reduceLT, Int.reduceLE, Int.reduceGT, Int.reduceGE, Int.reduceAdd, Int.reduceSub, Int.reduceMul, Int.reduceNeg, reduceCtorEq] at h) <;> (try (exfalso; omega)) <;> conv => whnf))
  exact FIN.value h0 rfl rfl
theorem needMk {l c : Int} {b : Nat} (B : Nat) (hb : Nat.ble b B = true) (h0 : 0 ≤ l) (h1 : l ≤ c) (h2 : (B : Int) * c ≤ 281474976710656 ∧ c ≤ 9223372036854775807) : 0 ≤ l ∧ l ≤ c ∧ c ≤ 9223372036854775807 ∧ (b : Int) * c ≤ 281474976710656 :=
  ⟨h0, h1, h2.2, Int.le_trans (Int.mul_le_mul_of_nonneg_right (by have := Nat.le_of_ble_eq_true hb; omega) (by omega)) h2.1⟩
/-- So many quads have room. -/
abbrev QdsOK (l : List Qd) : Prop := l.length * 224 ≤ 140737488351232
theorem roomy_does (l : List Qd) (hl : QdsOK l) : Does Tryz.prog tab 7 1 [.sl (.loc 0) 0 16 l.length none] [] [(0, .rows 16 (l.map qdRow))]
    (fun r O nx => r = .sl (.loc 1) 0 16 l.length none ∧ O = [(1, .rows 16 ((l ++ [markQd, markQd]).map qdRow))] ∧ nx = 2) := by
  refine Does.enter tabOK (g := 7) (fn := Tryz.f7) Tryz.call7 Tryz.func7 rfl 21 rfl rfl [.tmp 2] rfl ?_
  intro w0 F η0 h0
  conv => whnf
  repeat' (first | ((with_reducible refine IF.tt ?_); conv => whnf) | ((with_reducible refine IF.ff ?_); conv => whnf) | (refine CALL.value (mark_does) rfl rfl ?_; conv => whnf) | (refine NEED.mk (needMk 224 rfl (by omega) (by rw [wrap64 (by omega) (by omega)]; omega) (by rw [wrap64 (by omega) (by omega)]; omega)) ?_; conv => whnf) | ((with_reducible refine NEED.mk ?_ ?_); (first | with_reducible rfl | omega | (simp (disch := omega) only [lnB, wrap64, wrap32] <;> omega) | (intro h; (try simp (disch := omega) only [hsB, hsC, lnB, wrap64, wrap32, Int.reduceBEq, Int.reduceBNe, Int.reduceEq, Int.reduceNe, Int.reduceLT, Int.reduceLE, Int.reduceGT, Int.reduceGE, Int.reduceAdd, Int.reduceSub, Int.reduceMul, Int.reduceNeg, reduceCtorEq] at h); (first | omega | (simp (disch := omega) only [lnB, wrap64, wrap32] <;> omega))) | (exact needApp 256 rfl rfl (by simp) (by simp) (by omega)) | (simp <;> omega)); conv => whnf) | ((with_reducible apply GET.at); (rfl); conv => whnf) | ((with_reducible apply GETG.at); (rfl); conv => whnf) | ((with_reducible refine IF.mk (fun h => ?_) (fun h => ?_)) <;> (try simp (disch := omega) only [hsB, hsC, lnB, wrap64, wrap32, Int.reduceBEq, Int.reduceBNe, Int.reduceEq, Int.reduceNe, Int.reduceLT, Int.reduceLE, Int.reduceGT, Int.reduceGE, Int.reduceAdd, Int.reduceSub, Int.reduceMul, Int.reduceNeg, reduceCtorEq] at h) <;> (try (exfalso; omega)) <;> conv => whnf))
  refine NEED.mk (by rw [wrap64 (by omega) (by omega)]; exact ⟨by simp, by omega, by simp; omega⟩) ?_
  conv => whnf
  repeat' (first | ((with_reducible refine IF.tt ?_); conv => whnf) | ((with_reducible refine IF.ff ?_); conv => whnf) | (refine CALL.value (mark_does) rfl rfl ?_; conv => whnf) | (refine NEED.mk (needApp 224 rfl rfl (by simp) (by simp) (by omega)) ?_; conv => whnf) | ((with_reducible refine NEED.mk ?_ ?_); (first | with_reducible rfl | omega | (simp (disch := omega) only [lnB, wrap64, wrap32] <;> omega) | (intro h; (try simp (disch := omega) only [hsB, hsC, lnB, wrap64, wrap32, Int.reduceBEq, Int.reduceBNe, Int.reduceEq, Int.reduceNe, Int.reduceLT, Int.reduceLE, Int.reduceGT, Int.reduceGE, Int.reduceAdd, Int.reduceSub, Int.reduceMul, Int.reduceNeg, reduceCtorEq] at h); (first | omega | (simp (disch := omega) only [lnB, wrap64, wrap32] <;> omega))) | (exact needApp 256 rfl rfl (by simp) (by simp) (by omega)) | (simp <;> omega)); conv => whnf) | ((with_reducible apply GET.at); (rfl); conv => whnf) | ((with_reducible apply GETG.at); (rfl); conv => whnf) | ((with_reducible refine IF.mk (fun h => ?_) (fun h => ?_)) <;> (try simp (disch := omega) only [hsB, hsC, lnB, wrap64, wrap32, Int.reduceBEq, Int.reduceBNe, Int.reduceEq, Int.reduceNe, Int.reduceLT, Int.reduceLE, Int.reduceGT, Int.reduceGE, Int.reduceAdd, Int.reduceSub, Int.reduceMul, Int.reduceNeg, reduceCtorEq] at h) <;> (try (exfalso; omega)) <;> conv => whnf))
  refine NEED.mk ⟨by omega, by show _ ≤ ((max ((l.length : Int).toNat + 2) (_ - 0) : Nat) : Int); omega⟩ ?_
  conv => whnf
  refine FIN.at h0 [3] (.sl (.loc 1) 0 16 l.length none) [(1, .rows 16 ((l ++ [markQd, markQd]).map qdRow))] rfl rfl rfl (by first | rfl | (simp only [belowO, belowH, plainLL_below _ (plainQds _), Bool.and_self, Bool.and_true] <;> rfl)) (by repeat' (first | exact trivial | exact (renH_plain _ (h := .rows _ _) (plainQds _)).symm | (with_reducible rfl) | (exact rows_eq (plainQds _) (by simp [qdRow, ofVal, List.take_of_length_le])) | exact rfl | ((conv => whnf); refine ⟨?_, ?_⟩))) rfl ?_
  exact ⟨rfl, rfl, rfl⟩
/-- Are pieces of two lists the same? -/
theorem sameQuads_does (A B : List Qd) (i n j m : Nat) (hA : i + n ≤ A.length) (hB : j + m ≤ B.length) (hn : A.length ≤ 1152921504606846976) (hm : B.length ≤ 1152921504606846976) : Does Tryz.prog tab 33 2 [.sl (.loc 0) i 16 n none, .sl (.loc 1) j 16 m none] [] [(0, .rows 16 (A.map qdRow)), (1, .rows 16 (B.map qdRow))]
    (ValK 2 (.bool (decide ((A.drop i).take n = (B.drop j).take m)))) := by
  refine Does.enter tabOK (g := 33) (fn := Tryz.f33) Tryz.call33 Tryz.func33 rfl 26 rfl rfl [.tmp 4] rfl ?_
  intro w0 F η0 h0
  conv => whnf
  refine IF.mk (fun h => ?_) (fun h => ?_)
  · have h : n ≠ m := by simp at h; omega
    conv => whnf
    refine FIN.valueK h0 rfl (congrArg SV.bool (decide_eq_false fun he => ?_).symm)
    have := congrArg List.length he
    simp at this
    omega
  have h : n = m := by simp at h; omega
  subst h
  conv => whnf
  refine LOOP.go tabOK [0, 1] (X := Nat) (fun c => c ≤ n ∧ ((A.drop i).take n = (B.drop j).take n ↔ (A.drop (i + c)).take (n - c) = (B.drop (j + c)).take (n - c))) (fun c => [(5, .int .i64 (c : Int))]) (fun c => []) 2 (fun c => n - c) 0 ⟨by omega, by simp⟩ ?_
  conv => whnf
  refine ⟨by (refine GOES.cutting h0 rfl rfl rfl (by first | rfl | simp [belowO, belowH, plainLL_below, plainLL_map, plainL, plain]) ?_ ?_ <;> (repeat' (first | (with_reducible rfl) | (exact congrArg (fun n => SV.sl _ _ _ n _) (by simp)) | (exact congrArg (Hp.rows _) (by simp)) | (exact congrArg (SV.int _) (by first | omega | (simp (disch := omega) only [lnB, wrap64, wrap32] <;> omega) | (simp; done) | (simp <;> omega))) | ((conv => whnf); refine ⟨?_, ?_⟩) | exact trivial | (simp; done) | rfl))), ?_⟩
  rintro c ⟨hc, hs⟩
  conv => whnf
  rcases Nat.lt_or_ge c n with hcn | hcn
  · have ha : i + c < A.length := by omega
    have hb : j + c < B.length := by omega
    have hstep : (A.drop (i + c)).take (n - c) = (B.drop (j + c)).take (n - c) ↔ A[i + c] = B[j + c] ∧ (A.drop (i + (c + 1))).take (n - (c + 1)) = (B.drop (j + (c + 1))).take (n - (c + 1)) := by
      rw [List.drop_eq_getElem_cons ha, List.drop_eq_getElem_cons hb, show n - c = (n - (c + 1)) + 1 by omega]
      simp only [List.take_succ_cons, List.cons.injEq]
      rw [show i + c + 1 = i + (c + 1) by omega, show j + c + 1 = j + (c + 1) by omega]
    repeat' (first | ((with_reducible refine IF.tt ?_); conv => whnf) | ((with_reducible refine IF.ff ?_); conv => whnf) | (refine DRAWN.of (id := 6) tabOK mixed (planOf [(0, 1), (1, 1), (2, 1), (4, 1), (5, 1), (6, 1), (3, 2), (7, 2), (8, 1)]) (by kernel_rfl) ?_; conv => whnf) | ((with_reducible refine ADD.mk (fun _ _ => ?_)); conv => whnf) | ((with_reducible refine NEED.mk (Det.of rfl) ?_); conv => whnf) | ((with_reducible refine FORK.mk ?_ ?_) <;> conv => whnf) | (refine GET.at (row := qdRow (A[i + c]'(by omega))) (by rw [show i + (c : Int).toNat = i + c by omega]; exact qdRow_get (by omega)) ?_; conv => whnf) | (refine GET.at (row := qdRow (B[j + c]'(by omega))) (by rw [show j + (c : Int).toNat = j + c by omega]; exact qdRow_get (by omega)) ?_; conv => whnf) | ((with_reducible refine NEED.mk ?_ ?_); (first | with_reducible rfl | omega | (simp (disch := omega) only [lnB, wrap64, wrap32] <;> omega) | (intro h; (try simp (disch := omega) only [hsB, hsC, lnB, wrap64, wrap32, Int.reduceBEq, Int.reduceBNe, Int.reduceEq, Int.reduceNe, Int.reduceLT, Int.reduceLE, Int.reduceGT, Int.reduceGE, Int.reduceAdd, Int.reduceSub, Int.reduceMul, Int.reduceNeg, reduceCtorEq] at h); (first | omega | (simp (disch := omega) only [lnB, wrap64, wrap32] <;> omega))) | (exact needApp 256 rfl rfl (by simp) (by simp) (by omega)) | (simp <;> omega)); conv => whnf) | ((with_reducible apply GET.at); (rfl); conv => whnf) | ((with_reducible apply GETG.at); (rfl); conv => whnf) | ((with_reducible refine IF.mk (fun h => ?_) (fun h => ?_)) <;> (try simp (disch := omega) only [hsB, hsC, lnB, wrap64, wrap32, Int.reduceBEq, Int.reduceBNe, Int.reduceEq, Int.reduceNe, Int.reduceLT, Int.reduceLE, Int.reduceGT, Int.reduceGE, Int.reduceAdd, Int.reduceSub, Int.reduceMul, Int.reduceNeg, reduceCtorEq] at h) <;> (try (exfalso; omega)) <;> conv => whnf))
    · have hne : A[i + c] ≠ B[j + c] := fun he => by rw [he] at h; simp at h
      exact FIN.valueK h0 rfl (congrArg SV.bool (decide_eq_false fun he => hne (hstep.1 (hs.1 he)).1).symm)
    · have heq : A[i + c] = B[j + c] := Qd.ext' (by simp only [qdRow, Qd.row, List.cons.injEq, SV.int.injEq, SV.str.injEq, true_and, and_true]; exact h)
      refine ⟨c + 1, ⟨by omega, hs.trans (hstep.trans ⟨fun x => x.2, fun x => ⟨heq, x⟩⟩)⟩, by omega, ?_⟩
      conv => whnf
      (refine GOES.cutting h0 rfl rfl rfl (by first | rfl | simp [belowO, belowH, plainLL_below, plainLL_map, plainL, plain]) ?_ ?_ <;> (repeat' (first | (with_reducible rfl) | (exact congrArg (fun n => SV.sl _ _ _ n _) (by simp)) | (exact congrArg (Hp.rows _) (by simp)) | (exact congrArg (SV.int _) (by first | omega | (simp (disch := omega) only [lnB, wrap64, wrap32] <;> omega) | (simp; done) | (simp <;> omega))) | ((conv => whnf); refine ⟨?_, ?_⟩) | exact trivial | (simp; done) | rfl)))
  · repeat' (first | ((with_reducible refine IF.tt ?_); conv => whnf) | ((with_reducible refine IF.ff ?_); conv => whnf) | ((with_reducible refine NEED.mk ?_ ?_); (first | with_reducible rfl | omega | (simp (disch := omega) only [lnB, wrap64, wrap32] <;> omega) | (intro h; (try simp (disch := omega) only [hsB, hsC, lnB, wrap64, wrap32, Int.reduceBEq, Int.reduceBNe, Int.reduceEq, Int.reduceNe, Int.reduceLT, Int.reduceLE, Int.reduceGT, Int.reduceGE, Int.reduceAdd, Int.reduceSub, Int.reduceMul, Int.reduceNeg, reduceCtorEq] at h); (first | omega | (simp (disch := omega) only [lnB, wrap64, wrap32] <;> omega))) | (exact needApp 256 rfl rfl (by simp) (by simp) (by omega)) | (simp <;> omega)); conv => whnf) | ((with_reducible apply GET.at); (rfl); conv => whnf) | ((with_reducible apply GETG.at); (rfl); conv => whnf) | ((with_reducible refine IF.mk (fun h => ?_) (fun h => ?_)) <;> (try simp (disch := omega) only [hsB, hsC, lnB, wrap64, wrap32, Int.reduceBEq, Int.reduceBNe, Int.reduceEq, Int.reduceNe, Int.reduceLT, Int.reduceLE, Int.reduceGT, Int.reduceGE, Int.reduceAdd, Int.reduceSub, Int.reduceMul, Int.reduceNeg, reduceCtorEq] at h) <;> (try (exfalso; omega)) <;> conv => whnf))
    refine FIN.valueK h0 rfl (congrArg SV.bool (decide_eq_true (hs.2 ?_)).symm)
    rw [show n - c = 0 by omega]; rfl
/-- A roomy list is as it was made. -/
theorem kept_does (l : List Qd) (hl : QdsOK l) : Does Tryz.prog tab 12 2 [.sl (.loc 1) 0 16 l.length none, .sl (.loc 0) 0 16 l.length none] [(1, .rows 16 ((l ++ [markQd, markQd]).map qdRow))] [(0, .rows 16 (l.map qdRow))]
    (fun r O nx => r = .bool true ∧ O = [(1, .rows 16 ((l ++ [markQd, markQd]).map qdRow))] ∧ nx = 2) := by
  have hA : (l ++ [markQd, markQd]).length ≤ 1152921504606846976 := by simp; omega
  refine Does.enter tabOK (g := 12) (fn := Tryz.f12) Tryz.call12 Tryz.func12 rfl 36 rfl rfl [.tmp 4] rfl ?_
  intro w0 F η0 h0
  conv => whnf
  have hw : (IntKind.i64.wrap ((l.length : Int) + 2)).toNat = l.length + 2 := by rw [wrap64 (by omega) (by omega)]; omega
  have hw1 : (IntKind.i64.wrap ((l.length : Int) + 1)).toNat = l.length + 1 := by rw [wrap64 (by omega) (by omega)]; omega
  refine NEED.mk ⟨by rw [wrap64 (by omega) (by omega)]; omega, by rw [wrap64 (by omega) (by omega)]; show _ ≤ ((max l.length (((l ++ [markQd, markQd]).map qdRow).length - 0) : Nat) : Int); simp⟩ ?_
  rw [hw]
  conv => whnf
  repeat' (first | ((with_reducible refine IF.tt ?_); conv => whnf) | ((with_reducible refine IF.ff ?_); conv => whnf) | (refine DRAWN.of (id := 2) tabOK mixed (planOf [(0, 1), (1, 1), (2, 1), (3, 1), (4, 1), (5, 3), (6, 1), (7, 1), (8, 1), (9, 1), (10, 1), (11, 2), (12, 3), (13, 1), (14, 1), (15, 1), (16, 1), (17, 1), (18, 1), (19, 1), (20, 1), (21, 2), (22, 3), (23, 1), (24, 1), (25, 1)]) (by kernel_rfl) ?_; conv => whnf) | ((with_reducible refine ADD.mk (fun _ _ => ?_)); conv => whnf) | ((with_reducible refine NEED.mk (Det.of rfl) ?_); conv => whnf) | ((with_reducible refine FORK.mk ?_ ?_) <;> conv => whnf) | (refine NEED.mk ⟨by omega, by show _ ≤ ((l.length + 2 : Nat) : Int); omega⟩ ?_; conv => whnf) | ((with_reducible refine NEED.mk ?_ ?_); (first | with_reducible rfl | omega | (simp (disch := omega) only [lnB, wrap64, wrap32] <;> omega) | (intro h; (try simp (disch := omega) only [hsB, hsC, lnB, wrap64, wrap32, Int.reduceBEq, Int.reduceBNe, Int.reduceEq, Int.reduceNe, Int.reduceLT, Int.reduceLE, Int.reduceGT, Int.reduceGE, Int.reduceAdd, Int.reduceSub, Int.reduceMul, Int.reduceNeg, reduceCtorEq] at h); (first | omega | (simp (disch := omega) only [lnB, wrap64, wrap32] <;> omega))) | (exact needApp 256 rfl rfl (by simp) (by simp) (by omega)) | (simp <;> omega)); conv => whnf) | ((with_reducible apply GET.at); (rfl); conv => whnf) | ((with_reducible apply GETG.at); (rfl); conv => whnf) | ((with_reducible refine IF.mk (fun h => ?_) (fun h => ?_)) <;> (try simp (disch := omega) only [hsB, hsC, lnB, wrap64, wrap32, Int.reduceBEq, Int.reduceBNe, Int.reduceEq, Int.reduceNe, Int.reduceLT, Int.reduceLE, Int.reduceGT, Int.reduceGE, Int.reduceAdd, Int.reduceSub, Int.reduceMul, Int.reduceNeg, reduceCtorEq] at h) <;> (try (exfalso; omega)) <;> conv => whnf))
  refine CALL.at [1, 0] (sameQuads_does (l ++ [markQd, markQd]) l 0 l.length 0 l.length (by simp) (by simp) hA (by omega)) rfl rfl rfl rfl (by first | rfl | (simp only [belowO, belowH, plainLL_below _ (plainQds _), Bool.and_self, Bool.and_true] <;> rfl)) (by first | rfl | (simp only [belowO, belowH, plainLL_below _ (plainQds _), Bool.and_self, Bool.and_true] <;> rfl)) (by repeat' (first | exact trivial | exact (renH_plain _ (h := .rows _ _) (plainQds _)).symm | exact rfl | ((conv => whnf); refine ⟨?_, ?_⟩))) (by repeat' (first | exact trivial | exact (renH_plain _ (h := .rows _ _) (plainQds _)).symm | exact rfl | ((conv => whnf); refine ⟨?_, ?_⟩))) rfl rfl ?_
  rintro r O' nx' ⟨rfl, rfl, rfl⟩
  rw [decide_eq_true (by simp)]
  conv => whnf
  repeat' (first | ((with_reducible refine IF.tt ?_); conv => whnf) | ((with_reducible refine IF.ff ?_); conv => whnf) | (refine DRAWN.of (id := 2) tabOK mixed (planOf [(0, 1), (1, 1), (2, 1), (3, 1), (4, 1), (5, 3), (6, 1), (7, 1), (8, 1), (9, 1), (10, 1), (11, 2), (12, 3), (13, 1), (14, 1), (15, 1), (16, 1), (17, 1), (18, 1), (19, 1), (20, 1), (21, 2), (22, 3), (23, 1), (24, 1), (25, 1)]) (by kernel_rfl) ?_; conv => whnf) | ((with_reducible refine ADD.mk (fun _ _ => ?_)); conv => whnf) | ((with_reducible refine NEED.mk (Det.of rfl) ?_); conv => whnf) | ((with_reducible refine FORK.mk ?_ ?_) <;> conv => whnf) | (refine CALL.value (mark_does) rfl rfl ?_; conv => whnf) | (refine GET.at (row := qdRow markQd) (by rw [List.getElem?_map]; simp [hw1]) ?_; conv => whnf) | ((with_reducible refine NEED.mk ?_ ?_); (first | with_reducible rfl | omega | (simp (disch := omega) only [lnB, wrap64, wrap32] <;> omega) | (intro h; (try simp (disch := omega) only [hsB, hsC, lnB, wrap64, wrap32, Int.reduceBEq, Int.reduceBNe, Int.reduceEq, Int.reduceNe, Int.reduceLT, Int.reduceLE, Int.reduceGT, Int.reduceGE, Int.reduceAdd, Int.reduceSub, Int.reduceMul, Int.reduceNeg, reduceCtorEq] at h); (first | omega | (simp (disch := omega) only [lnB, wrap64, wrap32] <;> omega))) | (exact needApp 256 rfl rfl (by simp) (by simp) (by omega)) | (simp <;> omega)); conv => whnf) | ((with_reducible apply GET.at); (rfl); conv => whnf) | ((with_reducible apply GETG.at); (rfl); conv => whnf) | ((with_reducible refine IF.mk (fun h => ?_) (fun h => ?_)) <;> (try simp (disch := omega) only [hsB, hsC, lnB, wrap64, wrap32, Int.reduceBEq, Int.reduceBNe, Int.reduceEq, Int.reduceNe, Int.reduceLT, Int.reduceLE, Int.reduceGT, Int.reduceGE, Int.reduceAdd, Int.reduceSub, Int.reduceMul, Int.reduceNeg, reduceCtorEq] at h) <;> (try (exfalso; omega)) <;> conv => whnf))
  all_goals first
    | (exfalso; simp_all; done)
    | (refine FIN.here h0 (rc := .bool true) (Oc := [(1, .rows 16 ((l ++ [markQd, markQd]).map qdRow))]) (congrArg SV.bool (by simp)) rfl (by first | rfl | (simp only [belowO, belowH, plainLL_below _ (plainQds _), Bool.and_self, Bool.and_true] <;> rfl)) ⟨rfl, trivial⟩ ⟨rfl, rfl, rfl⟩)
    | trace_state
end Go.Proofs.YtpffclpheldabaaGreatDoor
/- utf: what stands at a place of a text, walked. Conditions: none. -/
set_option linter.unusedVariables false
set_option linter.unusedSimpArgs false
set_option maxRecDepth 20000
namespace Go.Proofs.YtpffclpheldabaaGreatDoor
open Go.Sx Go.Our
theorem lead_does (c : Int) (hc : 0 ≤ c ∧ c < 256) : Does Tryz.prog tab 130 0 [.int .u8 c] [] [] (Val (.tup [.int .i64 (leadM c).1, .int .i32 (leadM c).2])) := by
  refine Does.enter tabOK (g := 130) (fn := Tryz.f130) Tryz.call130 Tryz.func130 rfl 30 rfl rfl [.tmp 2, .tmp 3] rfl ?_
  intro w0 F η0 h0
  conv => whnf
  repeat' (first | ((with_reducible refine IF.tt ?_); conv => whnf) | ((with_reducible refine IF.ff ?_); conv => whnf) | ((with_reducible refine NEED.mk ?_ ?_); (first | with_reducible rfl | omega | (simp (disch := omega) only [lnB, wrap64, wrap32] <;> omega) | (intro h; (try simp (disch := omega) only [hsB, hsC, lnB, wrap64, wrap32, Int.reduceBEq, Int.reduceBNe, Int.reduceEq, Int.reduceNe, Int.reduceLT, Int.reduceLE, Int.reduceGT, Int.reduceGE, Int.reduceAdd, Int.reduceSub, Int.reduceMul, Int.reduceNeg, reduceCtorEq] at h); (first | omega | (simp (disch := omega) only [lnB, wrap64, wrap32] <;> omega))) | (exact needApp 256 rfl rfl (by simp) (by simp) (by omega)) | (simp <;> omega)); conv => whnf) | ((with_reducible apply GET.at); (rfl); conv => whnf) | ((with_reducible apply GETG.at); (rfl); conv => whnf) | ((with_reducible refine IF.mk (fun h => ?_) (fun h => ?_)) <;> (try simp (disch := omega) only [hsB, hsC, lnB, wrap64, wrap32, Int.reduceBEq, Int.reduceBNe, Int.reduceEq, Int.reduceNe, Int.reduceLT, Int.reduceLE, Int.reduceGT, Int.reduceGE, Int.reduceAdd, Int.reduceSub, Int.reduceMul, Int.reduceNeg, reduceCtorEq] at h) <;> (try (exfalso; omega)) <;> conv => whnf))
  all_goals (refine FIN.value h0 rfl ?_; unfold leadM; (first | (simp (disch := omega) only [↓if_pos, ↓if_neg, ite_self, wrap64, wrap32, Int.reduceAdd, Int.reduceSub, Int.reduceMul, Int.reduceNeg, and31, and15, and7]; done) | (simp (disch := omega) only [↓if_pos, ↓if_neg, ite_self, wrap64, wrap32, Int.reduceAdd, Int.reduceSub, Int.reduceMul, Int.reduceNeg, and31, and15, and7]; with_reducible rfl)))
theorem scalar_does (r : Int) : Does Tryz.prog tab 132 0 [.int .i32 r] [] [] (Val (.bool (scalarM r))) := by
  refine Does.enter tabOK (g := 132) (fn := Tryz.f132) Tryz.call132 Tryz.func132 rfl 17 rfl rfl [.tmp 2] rfl ?_
  intro w0 F η0 h0
  conv => whnf
  repeat' (first | ((with_reducible refine IF.tt ?_); conv => whnf) | ((with_reducible refine IF.ff ?_); conv => whnf) | ((with_reducible refine NEED.mk ?_ ?_); (first | with_reducible rfl | omega | (simp (disch := omega) only [lnB, wrap64, wrap32] <;> omega) | (intro h; (try simp (disch := omega) only [hsB, hsC, lnB, wrap64, wrap32, Int.reduceBEq, Int.reduceBNe, Int.reduceEq, Int.reduceNe, Int.reduceLT, Int.reduceLE, Int.reduceGT, Int.reduceGE, Int.reduceAdd, Int.reduceSub, Int.reduceMul, Int.reduceNeg, reduceCtorEq] at h); (first | omega | (simp (disch := omega) only [lnB, wrap64, wrap32] <;> omega))) | (exact needApp 256 rfl rfl (by simp) (by simp) (by omega)) | (simp <;> omega)); conv => whnf) | ((with_reducible apply GET.at); (rfl); conv => whnf) | ((with_reducible apply GETG.at); (rfl); conv => whnf) | ((with_reducible refine IF.mk (fun h => ?_) (fun h => ?_)) <;> (try simp (disch := omega) only [hsB, hsC, lnB, wrap64, wrap32, Int.reduceBEq, Int.reduceBNe, Int.reduceEq, Int.reduceNe, Int.reduceLT, Int.reduceLE, Int.reduceGT, Int.reduceGE, Int.reduceAdd, Int.reduceSub, Int.reduceMul, Int.reduceNeg, reduceCtorEq] at h) <;> (try (exfalso; omega)) <;> conv => whnf))
  refine FIN.value h0 rfl (congrArg SV.bool ?_)
  rw [Bool.eq_iff_iff, scalarM_true]
  simp only [Bool.cond_eq_ite, decide_eq_true_eq, Bool.if_false_right, Bool.if_true_left, Bool.and_eq_true, Bool.or_eq_true]
  omega
theorem least_does (n : Int) (hn : 0 ≤ n ∧ n < 5) : Does Tryz.prog tab 131 0 [.int .i64 n] [] [] (Val (.int .i32 (leastM n))) := by
  have hn : n = 0 ∨ n = 1 ∨ n = 2 ∨ n = 3 ∨ n = 4 := by omega
  rcases hn with rfl | rfl | rfl | rfl | rfl
  all_goals
    refine Does.enter tabOK (g := 131) (fn := Tryz.f131) Tryz.call131 Tryz.func131 rfl 6 rfl rfl [.tmp 2] rfl ?_
    intro w0 F η0 h0
    conv => whnf
    repeat' (first | ((with_reducible refine IF.tt ?_); conv => whnf) | ((with_reducible refine IF.ff ?_); conv => whnf) | ((with_reducible refine NEED.mk ?_ ?_); (first | with_reducible rfl | omega | (simp (disch := omega) only [lnB, wrap64, wrap32] <;> omega) | (intro h; (try simp (disch := omega) only [hsB, hsC, lnB, wrap64, wrap32, Int.reduceBEq, Int.reduceBNe, Int.reduceEq, Int.reduceNe, Int.reduceLT, Int.reduceLE, Int.reduceGT, Int.reduceGE, Int.reduceAdd, Int.reduceSub, Int.reduceMul, Int.reduceNeg, reduceCtorEq] at h); (first | omega | (simp (disch := omega) only [lnB, wrap64, wrap32] <;> omega))) | (exact needApp 256 rfl rfl (by simp) (by simp) (by omega)) | (simp <;> omega)); conv => whnf) | ((with_reducible apply GET.at); (rfl); conv => whnf) | ((with_reducible apply GETG.at); (rfl); conv => whnf) | ((with_reducible refine IF.mk (fun h => ?_) (fun h => ?_)) <;> (try simp (disch := omega) only [hsB, hsC, lnB, wrap64, wrap32, Int.reduceBEq, Int.reduceBNe, Int.reduceEq, Int.reduceNe, Int.reduceLT, Int.reduceLE, Int.reduceGT, Int.reduceGE, Int.reduceAdd, Int.reduceSub, Int.reduceMul, Int.reduceNeg, reduceCtorEq] at h) <;> (try (exfalso; omega)) <;> conv => whnf))
    exact FIN.value h0 rfl rfl
theorem lead_at {c : Int} {n r : Int} (hc : 0 ≤ c ∧ c < 256) (h : leadM c = (n, r)) : Does Tryz.prog tab 130 0 [.int .u8 c] [] [] (Val (.tup [.int .i64 n, .int .i32 r])) := by
  have := lead_does c hc
  rw [h] at this
  exact this
theorem next_does (s : List UInt8) (i : Int) (hs : Sm s) : Does Tryz.prog tab 96 0 [.str s, .int .i64 i] [] [] (Val (.tup [.int .i32 (nextAt s i).1, .int .i64 (nextAt s i).2])) := by
  refine Does.enter tabOK (g := 96) (fn := Tryz.f96) Tryz.call96 Tryz.func96 rfl 65 rfl rfl [.tmp 4, .tmp 5] rfl ?_
  intro w0 F η0 h0
  conv => whnf
  repeat' (first | ((with_reducible refine IF.tt ?_); conv => whnf) | ((with_reducible refine IF.ff ?_); conv => whnf) | ((with_reducible refine NEED.mk ?_ ?_); (first | with_reducible rfl | omega | (simp (disch := omega) only [lnB, wrap64, wrap32] <;> omega) | (intro h; (try simp (disch := omega) only [hsB, hsC, lnB, wrap64, wrap32, Int.reduceBEq, Int.reduceBNe, Int.reduceEq, Int.reduceNe, Int.reduceLT, Int.reduceLE, Int.reduceGT, Int.reduceGE, Int.reduceAdd, Int.reduceSub, Int.reduceMul, Int.reduceNeg, reduceCtorEq] at h); (first | omega | (simp (disch := omega) only [lnB, wrap64, wrap32] <;> omega))) | (exact needApp 256 rfl rfl (by simp) (by simp) (by omega)) | (simp <;> omega)); conv => whnf) | ((with_reducible apply GET.at); (rfl); conv => whnf) | ((with_reducible apply GETG.at); (rfl); conv => whnf) | ((with_reducible refine IF.mk (fun h => ?_) (fun h => ?_)) <;> (try simp (disch := omega) only [hsB, hsC, lnB, wrap64, wrap32, Int.reduceBEq, Int.reduceBNe, Int.reduceEq, Int.reduceNe, Int.reduceLT, Int.reduceLE, Int.reduceGT, Int.reduceGE, Int.reduceAdd, Int.reduceSub, Int.reduceMul, Int.reduceNeg, reduceCtorEq] at h) <;> (try (exfalso; omega)) <;> conv => whnf))
  · refine FIN.value h0 rfl ?_
    unfold nextAt; rw [if_pos h]
  · have e0 := byteAt_lt s i; have e1 := byteAt_lt s (i + 1); have e2 := byteAt_lt s (i + 2); have e3 := byteAt_lt s (i + 3)
    have hl := leadM_cases (byteAt s i)
    rcases hl with ⟨hb, hl⟩ | ⟨hb, hl⟩ | ⟨hb, hl⟩ | ⟨hb, hl⟩ | ⟨hb, hl⟩
    all_goals
      refine CALL.value (lead_at e0 hl) rfl rfl ?_
      conv => whnf
      repeat' (first | ((with_reducible refine IF.tt ?_); conv => whnf) | ((with_reducible refine IF.ff ?_); conv => whnf) | (refine CALL.value (least_does _ (by omega)) rfl rfl ?_; conv => whnf) | (refine LOOP.once tabOK ?_; conv => whnf) | (refine CALL.value (scalar_does _) rfl rfl ?_; conv => whnf) | ((with_reducible refine NEED.mk ?_ ?_); (first | with_reducible rfl | omega | (simp (disch := omega) only [lnB, wrap64, wrap32] <;> omega) | (intro h; (try simp (disch := omega) only [hsB, hsC, lnB, wrap64, wrap32, Int.reduceBEq, Int.reduceBNe, Int.reduceEq, Int.reduceNe, Int.reduceLT, Int.reduceLE, Int.reduceGT, Int.reduceGE, Int.reduceAdd, Int.reduceSub, Int.reduceMul, Int.reduceNeg, reduceCtorEq] at h); (first | omega | (simp (disch := omega) only [lnB, wrap64, wrap32] <;> omega))) | (exact needApp 256 rfl rfl (by simp) (by simp) (by omega)) | (simp <;> omega)); conv => whnf) | ((with_reducible apply GET.at); (rfl); conv => whnf) | ((with_reducible apply GETG.at); (rfl); conv => whnf) | ((with_reducible refine IF.mk (fun h => ?_) (fun h => ?_)) <;> (try simp (disch := omega) only [hsB, hsC, lnB, wrap64, wrap32, Int.reduceBEq, Int.reduceBNe, Int.reduceEq, Int.reduceNe, Int.reduceLT, Int.reduceLE, Int.reduceGT, Int.reduceGE, Int.reduceAdd, Int.reduceSub, Int.reduceMul, Int.reduceNeg, reduceCtorEq] at h) <;> (try (exfalso; omega)) <;> conv => whnf))
    all_goals
      refine FIN.value h0 rfl ?_
      unfold nextAt decB r2 r3 r4
      try simp (disch := omega) only [or6, and192, leastM1, leastM2, leastM3, leastM4, scalarM_true, scalarM_false] at *
      (simp (disch := omega) only [↓if_pos, ↓if_neg, ite_self, wrap64, wrap32, Int.reduceAdd, Int.reduceSub, Int.reduceMul, Int.reduceNeg, or6])
theorem check_does (s : List UInt8) (hs : Sm s) : Does Tryz.prog tab 59 0 [.str s] [] [] (Val (.int .i64 (chk s 0))) := by
  refine Does.enter tabOK (g := 59) (fn := Tryz.f59) Tryz.call59 Tryz.func59 rfl 22 rfl rfl [.tmp 2] rfl ?_
  intro w0 F η0 h0
  conv => whnf
  refine LOOP.go tabOK [0] (X := Nat) (fun i => i ≤ s.length ∧ chk s i = chk s 0) (fun i => [(3, .int .i64 (i : Int))]) (fun _ => []) 0 (fun i => s.length - i) 0 ⟨by omega, rfl⟩ ?_
  conv => whnf
  refine ⟨by (refine GOES.cutting h0 rfl rfl rfl (by first | rfl | simp [belowO, belowH, plainLL_below, plainLL_map, plainL, plain]) ?_ ?_ <;> (repeat' (first | (with_reducible rfl) | (exact congrArg (fun n => SV.sl _ _ _ n _) (by simp)) | (exact congrArg (Hp.rows _) (by simp)) | (exact congrArg (SV.int _) (by first | omega | (simp (disch := omega) only [lnB, wrap64, wrap32] <;> omega) | (simp; done) | (simp <;> omega))) | ((conv => whnf); refine ⟨?_, ?_⟩) | exact trivial | (simp; done) | rfl))), ?_⟩
  rintro i ⟨hi, hc⟩
  conv => whnf
  have hn := nextAt_n s i
  repeat' (first | ((with_reducible refine IF.tt ?_); conv => whnf) | ((with_reducible refine IF.ff ?_); conv => whnf) | (refine CALL.value (next_does s _ hs) rfl rfl ?_; conv => whnf) | ((with_reducible refine NEED.mk ?_ ?_); (first | with_reducible rfl | omega | (simp (disch := omega) only [lnB, wrap64, wrap32] <;> omega) | (intro h; (try simp (disch := omega) only [hsB, hsC, lnB, wrap64, wrap32, Int.reduceBEq, Int.reduceBNe, Int.reduceEq, Int.reduceNe, Int.reduceLT, Int.reduceLE, Int.reduceGT, Int.reduceGE, Int.reduceAdd, Int.reduceSub, Int.reduceMul, Int.reduceNeg, reduceCtorEq] at h); (first | omega | (simp (disch := omega) only [lnB, wrap64, wrap32] <;> omega))) | (exact needApp 256 rfl rfl (by simp) (by simp) (by omega)) | (simp <;> omega)); conv => whnf) | ((with_reducible apply GET.at); (rfl); conv => whnf) | ((with_reducible apply GETG.at); (rfl); conv => whnf) | ((with_reducible refine IF.mk (fun h => ?_) (fun h => ?_)) <;> (try simp (disch := omega) only [hsB, hsC, lnB, wrap64, wrap32, Int.reduceBEq, Int.reduceBNe, Int.reduceEq, Int.reduceNe, Int.reduceLT, Int.reduceLE, Int.reduceGT, Int.reduceGE, Int.reduceAdd, Int.reduceSub, Int.reduceMul, Int.reduceNeg, reduceCtorEq] at h) <;> (try (exfalso; omega)) <;> conv => whnf))
  · have hz : (nextAt s i).2 = 0 := h
    refine FIN.value h0 rfl ?_
    rw [← hc, chk_bad (by omega) hz]
  · rename_i h1
    refine ⟨i + (nextAt s i).2.toNat, ⟨by omega, ?_⟩, by omega, ?_⟩
    · rw [← hc, ← chk_step (by omega) h]
    · conv => whnf
      (refine GOES.cutting h0 rfl rfl rfl (by first | rfl | simp [belowO, belowH, plainLL_below, plainLL_map, plainL, plain]) ?_ ?_ <;> (repeat' (first | (with_reducible rfl) | (exact congrArg (fun n => SV.sl _ _ _ n _) (by simp)) | (exact congrArg (Hp.rows _) (by simp)) | (exact congrArg (SV.int _) (by first | omega | (simp (disch := omega) only [lnB, wrap64, wrap32] <;> omega) | (simp; done) | (simp <;> omega))) | ((conv => whnf); refine ⟨?_, ?_⟩) | exact trivial | (simp; done) | rfl)))
  · refine FIN.value h0 rfl ?_
    rw [← hc, chk_end (by omega)]
end Go.Proofs.YtpffclpheldabaaGreatDoor
/- The reference's utf, walked. Conditions: none. -/
set_option linter.unusedVariables false
set_option linter.unusedSimpArgs false
set_option maxRecDepth 20000
namespace Go.Proofs.YtpffclpheldabaaGreatDoor
open Go.Sx Go.Our
theorem ref04Scalar_does (r : Int) : Does Tryz.prog tab 146 0 [.int .i64 r] [] [] (Val (.bool (scalarM r))) := by
  refine Does.enter tabOK (g := 146) (fn := Tryz.f146) Tryz.call146 Tryz.func146 rfl 17 rfl rfl [.tmp 2] rfl ?_
  intro w0 F η0 h0
  conv => whnf
  repeat' (first | ((with_reducible refine IF.tt ?_); conv => whnf) | ((with_reducible refine IF.ff ?_); conv => whnf) | ((with_reducible refine NEED.mk ?_ ?_); (first | with_reducible rfl | omega | (simp (disch := omega) only [lnB, wrap64, wrap32] <;> omega) | (intro h; (try simp (disch := omega) only [hsB, hsC, lnB, wrap64, wrap32, Int.reduceBEq, Int.reduceBNe, Int.reduceEq, Int.reduceNe, Int.reduceLT, Int.reduceLE, Int.reduceGT, Int.reduceGE, Int.reduceAdd, Int.reduceSub, Int.reduceMul, Int.reduceNeg, reduceCtorEq] at h); (first | omega | (simp (disch := omega) only [lnB, wrap64, wrap32] <;> omega))) | (exact needApp 256 rfl rfl (by simp) (by simp) (by omega)) | (simp <;> omega)); conv => whnf) | ((with_reducible apply GET.at); (rfl); conv => whnf) | ((with_reducible apply GETG.at); (rfl); conv => whnf) | ((with_reducible refine IF.mk (fun h => ?_) (fun h => ?_)) <;> (try simp (disch := omega) only [hsB, hsC, lnB, wrap64, wrap32, Int.reduceBEq, Int.reduceBNe, Int.reduceEq, Int.reduceNe, Int.reduceLT, Int.reduceLE, Int.reduceGT, Int.reduceGE, Int.reduceAdd, Int.reduceSub, Int.reduceMul, Int.reduceNeg, reduceCtorEq] at h) <;> (try (exfalso; omega)) <;> conv => whnf))
  refine FIN.value h0 rfl (congrArg SV.bool ?_)
  rw [Bool.eq_iff_iff, scalarM_true]
  simp only [Bool.cond_eq_ite, decide_eq_true_eq, Bool.if_false_right, Bool.if_true_left, Bool.and_eq_true, Bool.or_eq_true]
  omega
theorem ref04Bytes_does (r : Int) (hr : 0 ≤ r ∧ r ≤ 1114111) : Does Tryz.prog tab 107 0 [.int .i64 r] [] [] (NewBytes 0 (encM r)) := by
  refine Does.enter tabOK (g := 107) (fn := Tryz.f107) Tryz.call107 Tryz.func107 rfl 57 rfl rfl [.tmp 2] rfl ?_
  intro w0 F η0 h0
  conv => whnf
  repeat' (first | ((with_reducible refine IF.tt ?_); conv => whnf) | ((with_reducible refine IF.ff ?_); conv => whnf) | ((with_reducible refine NEED.mk ?_ ?_); (first | with_reducible rfl | omega | (simp (disch := omega) only [lnB, wrap64, wrap32] <;> omega) | (intro h; (try simp (disch := omega) only [hsB, hsC, lnB, wrap64, wrap32, Int.reduceBEq, Int.reduceBNe, Int.reduceEq, Int.reduceNe, Int.reduceLT, Int.reduceLE, Int.reduceGT, Int.reduceGE, Int.reduceAdd, Int.reduceSub, Int.reduceMul, Int.reduceNeg, reduceCtorEq] at h); (first | omega | (simp (disch := omega) only [lnB, wrap64, wrap32] <;> omega))) | (exact needApp 256 rfl rfl (by simp) (by simp) (by omega)) | (simp <;> omega)); conv => whnf) | ((with_reducible apply GET.at); (rfl); conv => whnf) | ((with_reducible apply GETG.at); (rfl); conv => whnf) | ((with_reducible refine IF.mk (fun h => ?_) (fun h => ?_)) <;> (try simp (disch := omega) only [hsB, hsC, lnB, wrap64, wrap32, Int.reduceBEq, Int.reduceBNe, Int.reduceEq, Int.reduceNe, Int.reduceLT, Int.reduceLE, Int.reduceGT, Int.reduceGE, Int.reduceAdd, Int.reduceSub, Int.reduceMul, Int.reduceNeg, reduceCtorEq] at h) <;> (try (exfalso; omega)) <;> conv => whnf))
  all_goals
    refine FIN.rows h0 0 1 _ rfl rfl rfl rfl ?_
    unfold encM encI
    simp (disch := omega) only [↓if_pos, ↓if_neg, List.map_cons, List.map_nil, wrapu8, wrap64, tdivp, tmodp]
    refine ⟨rfl, ?_, rfl⟩
    simp (disch := omega) only [List.map_cons, List.map_nil, ← bytesRow_of]
theorem guess1_does (a : UInt8) : Does Tryz.prog tab 105 1 [.sl (.loc 0) 0 1 1 none] [] [(0, .rows 1 ([a].map Sx.bytesRow))] (ValK 1 (.int .i64 (guessM [a]))) := by
  have ha := a.toNat_lt
  refine Does.enter tabOK (g := 105) (fn := Tryz.f105) Tryz.call105 Tryz.func105 rfl 45 rfl rfl [.tmp 2] rfl ?_
  intro w0 F η0 h0
  conv => whnf
  repeat' (first | ((with_reducible refine IF.tt ?_); conv => whnf) | ((with_reducible refine IF.ff ?_); conv => whnf) | (refine DRAWN.of (id := 2) tabOK mixed (planOf [(0, 1), (1, 1), (4, 1), (5, 1), (6, 1), (2, 2), (3, 1), (7, 2), (8, 1), (9, 1)]) (by kernel_rfl) ?_; conv => whnf) | (refine DRAWN.of (id := 8) tabOK mixed (planOf [(0, 1), (1, 1), (2, 1), (3, 1), (6, 1), (7, 2), (4, 3), (5, 2), (8, 1), (9, 1)]) (by kernel_rfl) ?_; conv => whnf) | ((with_reducible refine ADD.mk (fun _ _ => ?_)); conv => whnf) | ((with_reducible refine NEED.mk (Det.of rfl) ?_); conv => whnf) | ((with_reducible refine FORK.mk ?_ ?_) <;> conv => whnf) | (refine CALL.value (ref04Scalar_does _) rfl rfl ?_; conv => whnf) | (refine LOOP.once tabOK ?_; conv => whnf) | (refine CALL.bytes (ref04Bytes_does _ (by simp (disch := omega) only [scalarM_true, wrap64, Int.sub_zero] at *; omega)) rfl ?_; conv => whnf) | (refine NEED.mk (needText (by simp)) ?_; conv => whnf) | ((with_reducible refine NEED.mk ?_ ?_); (first | with_reducible rfl | omega | (simp (disch := omega) only [lnB, wrap64, wrap32] <;> omega) | (intro h; (try simp (disch := omega) only [hsB, hsC, lnB, wrap64, wrap32, Int.reduceBEq, Int.reduceBNe, Int.reduceEq, Int.reduceNe, Int.reduceLT, Int.reduceLE, Int.reduceGT, Int.reduceGE, Int.reduceAdd, Int.reduceSub, Int.reduceMul, Int.reduceNeg, reduceCtorEq] at h); (first | omega | (simp (disch := omega) only [lnB, wrap64, wrap32] <;> omega))) | (exact needApp 256 rfl rfl (by simp) (by simp) (by omega)) | (simp <;> omega)); conv => whnf) | ((with_reducible apply GET.at); (rfl); conv => whnf) | ((with_reducible apply GETG.at); (rfl); conv => whnf) | ((with_reducible refine IF.mk (fun h => ?_) (fun h => ?_)) <;> (try simp (disch := omega) only [hsB, hsC, lnB, wrap64, wrap32, Int.reduceBEq, Int.reduceBNe, Int.reduceEq, Int.reduceNe, Int.reduceLT, Int.reduceLE, Int.reduceGT, Int.reduceGE, Int.reduceAdd, Int.reduceSub, Int.reduceMul, Int.reduceNeg, reduceCtorEq] at h) <;> (try (exfalso; omega)) <;> conv => whnf))
  all_goals
    refine FIN.valueK h0 rfl (congrArg (SV.int _) ?_)
    simp (disch := omega) only [wrap64, Int.sub_zero, List.drop_zero, ← List.map_take, unrow, List.take_length, List.take_succ_cons, List.take_zero, scalarM, decide_eq_true_eq, decide_eq_false_iff_not] at *
    simp_all [guessM, rawM, bn]
theorem guess2_does (a b : UInt8) : Does Tryz.prog tab 105 1 [.sl (.loc 0) 0 1 2 none] [] [(0, .rows 1 ([a, b].map Sx.bytesRow))] (ValK 1 (.int .i64 (guessM [a, b]))) := by
  have ha := a.toNat_lt; have hb := b.toNat_lt
  refine Does.enter tabOK (g := 105) (fn := Tryz.f105) Tryz.call105 Tryz.func105 rfl 45 rfl rfl [.tmp 2] rfl ?_
  intro w0 F η0 h0
  conv => whnf
  repeat' (first | ((with_reducible refine IF.tt ?_); conv => whnf) | ((with_reducible refine IF.ff ?_); conv => whnf) | (refine DRAWN.of (id := 2) tabOK mixed (planOf [(0, 1), (1, 1), (4, 1), (5, 1), (6, 1), (2, 2), (3, 1), (7, 2), (8, 1), (9, 1)]) (by kernel_rfl) ?_; conv => whnf) | (refine DRAWN.of (id := 8) tabOK mixed (planOf [(0, 1), (1, 1), (2, 1), (3, 1), (6, 1), (7, 2), (4, 3), (5, 2), (8, 1), (9, 1)]) (by kernel_rfl) ?_; conv => whnf) | ((with_reducible refine ADD.mk (fun _ _ => ?_)); conv => whnf) | ((with_reducible refine NEED.mk (Det.of rfl) ?_); conv => whnf) | ((with_reducible refine FORK.mk ?_ ?_) <;> conv => whnf) | (refine CALL.value (ref04Scalar_does _) rfl rfl ?_; conv => whnf) | (refine LOOP.once tabOK ?_; conv => whnf) | (refine CALL.bytes (ref04Bytes_does _ (by simp (disch := omega) only [scalarM_true, wrap64, Int.sub_zero] at *; omega)) rfl ?_; conv => whnf) | (refine NEED.mk (needText (by simp)) ?_; conv => whnf) | ((with_reducible refine NEED.mk ?_ ?_); (first | with_reducible rfl | omega | (simp (disch := omega) only [lnB, wrap64, wrap32] <;> omega) | (intro h; (try simp (disch := omega) only [hsB, hsC, lnB, wrap64, wrap32, Int.reduceBEq, Int.reduceBNe, Int.reduceEq, Int.reduceNe, Int.reduceLT, Int.reduceLE, Int.reduceGT, Int.reduceGE, Int.reduceAdd, Int.reduceSub, Int.reduceMul, Int.reduceNeg, reduceCtorEq] at h); (first | omega | (simp (disch := omega) only [lnB, wrap64, wrap32] <;> omega))) | (exact needApp 256 rfl rfl (by simp) (by simp) (by omega)) | (simp <;> omega)); conv => whnf) | ((with_reducible apply GET.at); (rfl); conv => whnf) | ((with_reducible apply GETG.at); (rfl); conv => whnf) | ((with_reducible refine IF.mk (fun h => ?_) (fun h => ?_)) <;> (try simp (disch := omega) only [hsB, hsC, lnB, wrap64, wrap32, Int.reduceBEq, Int.reduceBNe, Int.reduceEq, Int.reduceNe, Int.reduceLT, Int.reduceLE, Int.reduceGT, Int.reduceGE, Int.reduceAdd, Int.reduceSub, Int.reduceMul, Int.reduceNeg, reduceCtorEq] at h) <;> (try (exfalso; omega)) <;> conv => whnf))
  all_goals
    refine FIN.valueK h0 rfl (congrArg (SV.int _) ?_)
    simp (disch := omega) only [wrap64, Int.sub_zero, List.drop_zero, ← List.map_take, unrow, List.take_length, List.take_succ_cons, List.take_zero, scalarM, decide_eq_true_eq, decide_eq_false_iff_not] at *
    simp_all [guessM, rawM, bn]
theorem guess3_does (a b c : UInt8) : Does Tryz.prog tab 105 1 [.sl (.loc 0) 0 1 3 none] [] [(0, .rows 1 ([a, b, c].map Sx.bytesRow))] (ValK 1 (.int .i64 (guessM [a, b, c]))) := by
  have ha := a.toNat_lt; have hb := b.toNat_lt; have hc := c.toNat_lt
  refine Does.enter tabOK (g := 105) (fn := Tryz.f105) Tryz.call105 Tryz.func105 rfl 45 rfl rfl [.tmp 2] rfl ?_
  intro w0 F η0 h0
  conv => whnf
  repeat' (first | ((with_reducible refine IF.tt ?_); conv => whnf) | ((with_reducible refine IF.ff ?_); conv => whnf) | (refine DRAWN.of (id := 2) tabOK mixed (planOf [(0, 1), (1, 1), (4, 1), (5, 1), (6, 1), (2, 2), (3, 1), (7, 2), (8, 1), (9, 1)]) (by kernel_rfl) ?_; conv => whnf) | (refine DRAWN.of (id := 8) tabOK mixed (planOf [(0, 1), (1, 1), (2, 1), (3, 1), (6, 1), (7, 2), (4, 3), (5, 2), (8, 1), (9, 1)]) (by kernel_rfl) ?_; conv => whnf) | ((with_reducible refine ADD.mk (fun _ _ => ?_)); conv => whnf) | ((with_reducible refine NEED.mk (Det.of rfl) ?_); conv => whnf) | ((with_reducible refine FORK.mk ?_ ?_) <;> conv => whnf) | (refine CALL.value (ref04Scalar_does _) rfl rfl ?_; conv => whnf) | (refine LOOP.once tabOK ?_; conv => whnf) | (refine CALL.bytes (ref04Bytes_does _ (by simp (disch := omega) only [scalarM_true, wrap64, Int.sub_zero] at *; omega)) rfl ?_; conv => whnf) | (refine NEED.mk (needText (by simp)) ?_; conv => whnf) | ((with_reducible refine NEED.mk ?_ ?_); (first | with_reducible rfl | omega | (simp (disch := omega) only [lnB, wrap64, wrap32] <;> omega) | (intro h; (try simp (disch := omega) only [hsB, hsC, lnB, wrap64, wrap32, Int.reduceBEq, Int.reduceBNe, Int.reduceEq, Int.reduceNe, Int.reduceLT, Int.reduceLE, Int.reduceGT, Int.reduceGE, Int.reduceAdd, Int.reduceSub, Int.reduceMul, Int.reduceNeg, reduceCtorEq] at h); (first | omega | (simp (disch := omega) only [lnB, wrap64, wrap32] <;> omega))) | (exact needApp 256 rfl rfl (by simp) (by simp) (by omega)) | (simp <;> omega)); conv => whnf) | ((with_reducible apply GET.at); (rfl); conv => whnf) | ((with_reducible apply GETG.at); (rfl); conv => whnf) | ((with_reducible refine IF.mk (fun h => ?_) (fun h => ?_)) <;> (try simp (disch := omega) only [hsB, hsC, lnB, wrap64, wrap32, Int.reduceBEq, Int.reduceBNe, Int.reduceEq, Int.reduceNe, Int.reduceLT, Int.reduceLE, Int.reduceGT, Int.reduceGE, Int.reduceAdd, Int.reduceSub, Int.reduceMul, Int.reduceNeg, reduceCtorEq] at h) <;> (try (exfalso; omega)) <;> conv => whnf))
  all_goals
    refine FIN.valueK h0 rfl (congrArg (SV.int _) ?_)
    simp (disch := omega) only [wrap64, Int.sub_zero, List.drop_zero, ← List.map_take, unrow, List.take_length, List.take_succ_cons, List.take_zero, scalarM, decide_eq_true_eq, decide_eq_false_iff_not] at *
    simp_all [guessM, rawM, bn]
theorem guess4_does (a b c d : UInt8) : Does Tryz.prog tab 105 1 [.sl (.loc 0) 0 1 4 none] [] [(0, .rows 1 ([a, b, c, d].map Sx.bytesRow))] (ValK 1 (.int .i64 (guessM [a, b, c, d]))) := by
  have ha := a.toNat_lt; have hb := b.toNat_lt; have hc := c.toNat_lt; have hd := d.toNat_lt
  refine Does.enter tabOK (g := 105) (fn := Tryz.f105) Tryz.call105 Tryz.func105 rfl 45 rfl rfl [.tmp 2] rfl ?_
  intro w0 F η0 h0
  conv => whnf
  repeat' (first | ((with_reducible refine IF.tt ?_); conv => whnf) | ((with_reducible refine IF.ff ?_); conv => whnf) | (refine DRAWN.of (id := 2) tabOK mixed (planOf [(0, 1), (1, 1), (4, 1), (5, 1), (6, 1), (2, 2), (3, 1), (7, 2), (8, 1), (9, 1)]) (by kernel_rfl) ?_; conv => whnf) | (refine DRAWN.of (id := 8) tabOK mixed (planOf [(0, 1), (1, 1), (2, 1), (3, 1), (6, 1), (7, 2), (4, 3), (5, 2), (8, 1), (9, 1)]) (by kernel_rfl) ?_; conv => whnf) | ((with_reducible refine ADD.mk (fun _ _ => ?_)); conv => whnf) | ((with_reducible refine NEED.mk (Det.of rfl) ?_); conv => whnf) | ((with_reducible refine FORK.mk ?_ ?_) <;> conv => whnf) | (refine CALL.value (ref04Scalar_does _) rfl rfl ?_; conv => whnf) | (refine LOOP.once tabOK ?_; conv => whnf) | (refine CALL.bytes (ref04Bytes_does _ (by simp (disch := omega) only [scalarM_true, wrap64, Int.sub_zero] at *; omega)) rfl ?_; conv => whnf) | (refine NEED.mk (needText (by simp)) ?_; conv => whnf) | ((with_reducible refine NEED.mk ?_ ?_); (first | with_reducible rfl | omega | (simp (disch := omega) only [lnB, wrap64, wrap32] <;> omega) | (intro h; (try simp (disch := omega) only [hsB, hsC, lnB, wrap64, wrap32, Int.reduceBEq, Int.reduceBNe, Int.reduceEq, Int.reduceNe, Int.reduceLT, Int.reduceLE, Int.reduceGT, Int.reduceGE, Int.reduceAdd, Int.reduceSub, Int.reduceMul, Int.reduceNeg, reduceCtorEq] at h); (first | omega | (simp (disch := omega) only [lnB, wrap64, wrap32] <;> omega))) | (exact needApp 256 rfl rfl (by simp) (by simp) (by omega)) | (simp <;> omega)); conv => whnf) | ((with_reducible apply GET.at); (rfl); conv => whnf) | ((with_reducible apply GETG.at); (rfl); conv => whnf) | ((with_reducible refine IF.mk (fun h => ?_) (fun h => ?_)) <;> (try simp (disch := omega) only [hsB, hsC, lnB, wrap64, wrap32, Int.reduceBEq, Int.reduceBNe, Int.reduceEq, Int.reduceNe, Int.reduceLT, Int.reduceLE, Int.reduceGT, Int.reduceGE, Int.reduceAdd, Int.reduceSub, Int.reduceMul, Int.reduceNeg, reduceCtorEq] at h) <;> (try (exfalso; omega)) <;> conv => whnf))
  all_goals
    refine FIN.valueK h0 rfl (congrArg (SV.int _) ?_)
    simp (disch := omega) only [wrap64, Int.sub_zero, List.drop_zero, ← List.map_take, unrow, List.take_length, List.take_succ_cons, List.take_zero, scalarM, decide_eq_true_eq, decide_eq_false_iff_not] at *
    simp_all [guessM, rawM, bn]
theorem guess_does (l : List UInt8) (hl : 1 ≤ l.length ∧ l.length ≤ 4) : Does Tryz.prog tab 105 1 [.sl (.loc 0) 0 1 l.length none] [] [(0, .rows 1 (l.map Sx.bytesRow))] (ValK 1 (.int .i64 (guessM l))) := by
  match l, hl with
  | [a], _ => exact guess1_does a
  | [a, b], _ => exact guess2_does a b
  | [a, b, c], _ => exact guess3_does a b c
  | [a, b, c, d], _ => exact guess4_does a b c d
  | [], h => simp at h
  | _ :: _ :: _ :: _ :: _ :: _, h => simp at h
theorem ref04Next_does (s : List UInt8) (i : Int) (hs : Sm s) : Does Tryz.prog tab 68 0 [.str s, .int .i64 i] [] [] (Val (.tup [.int .i64 (nextAt s i).1, .int .i64 (nextAt s i).2])) := by
  refine Does.enter tabOK (g := 68) (fn := Tryz.f68) Tryz.call68 Tryz.func68 rfl 40 rfl rfl [.tmp 4, .tmp 5] rfl ?_
  intro w0 F η0 h0
  conv => whnf
  repeat' (first | ((with_reducible refine IF.tt ?_); conv => whnf) | ((with_reducible refine IF.ff ?_); conv => whnf) | (refine LOOP.once tabOK ?_; conv => whnf) | (refine CALL.look1 _ (guess_does _ (by simp (disch := omega) only [wrap64, List.length_take, List.length_drop]; omega)) rfl rfl rfl rfl (plainBytes _) rfl ?_; conv => whnf) | ((with_reducible refine NEED.mk ?_ ?_); (first | with_reducible rfl | omega | (simp (disch := omega) only [lnB, wrap64, wrap32] <;> omega) | (intro h; (try simp (disch := omega) only [hsB, hsC, lnB, wrap64, wrap32, Int.reduceBEq, Int.reduceBNe, Int.reduceEq, Int.reduceNe, Int.reduceLT, Int.reduceLE, Int.reduceGT, Int.reduceGE, Int.reduceAdd, Int.reduceSub, Int.reduceMul, Int.reduceNeg, reduceCtorEq] at h); (first | omega | (simp (disch := omega) only [lnB, wrap64, wrap32] <;> omega))) | (exact needApp 256 rfl rfl (by simp) (by simp) (by omega)) | (simp <;> omega)); conv => whnf) | ((with_reducible apply GET.at); (rfl); conv => whnf) | ((with_reducible apply GETG.at); (rfl); conv => whnf) | ((with_reducible refine IF.mk (fun h => ?_) (fun h => ?_)) <;> (try simp (disch := omega) only [hsB, hsC, lnB, wrap64, wrap32, Int.reduceBEq, Int.reduceBNe, Int.reduceEq, Int.reduceNe, Int.reduceLT, Int.reduceLE, Int.reduceGT, Int.reduceGE, Int.reduceAdd, Int.reduceSub, Int.reduceMul, Int.reduceNeg, reduceCtorEq] at h) <;> (try (exfalso; omega)) <;> conv => whnf))
  all_goals
    refine FIN.value h0 rfl ?_
    first
      | (unfold nextAt; rw [if_pos (by assumption)])
      | (rw [nextAt_guess (by omega)]; simp (disch := omega) only [↓if_pos, ↓if_neg, wrap64, Int.reduceAdd])
theorem ref04Check_does (s : List UInt8) (hs : Sm s) : Does Tryz.prog tab 67 0 [.str s] [] [] (Val (.int .i64 (chk s 0))) := by
  refine Does.enter tabOK (g := 67) (fn := Tryz.f67) Tryz.call67 Tryz.func67 rfl 22 rfl rfl [.tmp 2] rfl ?_
  intro w0 F η0 h0
  conv => whnf
  refine LOOP.go tabOK [0] (X := Nat) (fun i => i ≤ s.length ∧ chk s i = chk s 0) (fun i => [(3, .int .i64 (i : Int))]) (fun _ => []) 0 (fun i => s.length - i) 0 ⟨by omega, rfl⟩ ?_
  conv => whnf
  refine ⟨by (refine GOES.cutting h0 rfl rfl rfl (by first | rfl | simp [belowO, belowH, plainLL_below, plainLL_map, plainL, plain]) ?_ ?_ <;> (repeat' (first | (with_reducible rfl) | (exact congrArg (fun n => SV.sl _ _ _ n _) (by simp)) | (exact congrArg (Hp.rows _) (by simp)) | (exact congrArg (SV.int _) (by first | omega | (simp (disch := omega) only [lnB, wrap64, wrap32] <;> omega) | (simp; done) | (simp <;> omega))) | ((conv => whnf); refine ⟨?_, ?_⟩) | exact trivial | (simp; done) | rfl))), ?_⟩
  rintro i ⟨hi, hc⟩
  conv => whnf
  have hn := nextAt_n s i
  repeat' (first | ((with_reducible refine IF.tt ?_); conv => whnf) | ((with_reducible refine IF.ff ?_); conv => whnf) | (refine CALL.value (ref04Next_does s _ hs) rfl rfl ?_; conv => whnf) | ((with_reducible refine NEED.mk ?_ ?_); (first | with_reducible rfl | omega | (simp (disch := omega) only [lnB, wrap64, wrap32] <;> omega) | (intro h; (try simp (disch := omega) only [hsB, hsC, lnB, wrap64, wrap32, Int.reduceBEq, Int.reduceBNe, Int.reduceEq, Int.reduceNe, Int.reduceLT, Int.reduceLE, Int.reduceGT, Int.reduceGE, Int.reduceAdd, Int.reduceSub, Int.reduceMul, Int.reduceNeg, reduceCtorEq] at h); (first | omega | (simp (disch := omega) only [lnB, wrap64, wrap32] <;> omega))) | (exact needApp 256 rfl rfl (by simp) (by simp) (by omega)) | (simp <;> omega)); conv => whnf) | ((with_reducible apply GET.at); (rfl); conv => whnf) | ((with_reducible apply GETG.at); (rfl); conv => whnf) | ((with_reducible refine IF.mk (fun h => ?_) (fun h => ?_)) <;> (try simp (disch := omega) only [hsB, hsC, lnB, wrap64, wrap32, Int.reduceBEq, Int.reduceBNe, Int.reduceEq, Int.reduceNe, Int.reduceLT, Int.reduceLE, Int.reduceGT, Int.reduceGE, Int.reduceAdd, Int.reduceSub, Int.reduceMul, Int.reduceNeg, reduceCtorEq] at h) <;> (try (exfalso; omega)) <;> conv => whnf))
  · have hz : (nextAt s i).2 = 0 := h
    refine FIN.value h0 rfl ?_
    rw [← hc, chk_bad (by omega) hz]
  · rename_i h1
    refine ⟨i + (nextAt s i).2.toNat, ⟨by omega, ?_⟩, by omega, ?_⟩
    · rw [← hc, ← chk_step (by omega) h]
    · conv => whnf
      (refine GOES.cutting h0 rfl rfl rfl (by first | rfl | simp [belowO, belowH, plainLL_below, plainLL_map, plainL, plain]) ?_ ?_ <;> (repeat' (first | (with_reducible rfl) | (exact congrArg (fun n => SV.sl _ _ _ n _) (by simp)) | (exact congrArg (Hp.rows _) (by simp)) | (exact congrArg (SV.int _) (by first | omega | (simp (disch := omega) only [lnB, wrap64, wrap32] <;> omega) | (simp; done) | (simp <;> omega))) | ((conv => whnf); refine ⟨?_, ?_⟩) | exact trivial | (simp; done) | rfl)))
  · refine FIN.value h0 rfl ?_
    rw [← hc, chk_end (by omega)]
end Go.Proofs.YtpffclpheldabaaGreatDoor
/- The library's searches in texts, walked. Conditions: none. -/
set_option linter.unusedVariables false
set_option linter.unusedSimpArgs false
set_option maxRecDepth 20000
namespace Go.Proofs.YtpffclpheldabaaGreatDoor
open Go.Sx Go.Our
theorem indexByteString_does (s : List UInt8) (c : Int) : Does Tryz.prog tab 147 0 [.str s, .int .u8 c] [] [] (Val (.int .i64 (Lib.indexByte s c.toNat.toUInt8))) := by
  refine Does.says fun η w vs hd => ?_
  simp only [DenL, Den] at hd
  obtain ⟨u, us, rfl, rfl, u', us', rfl, rfl, rfl⟩ := hd
  refine ⟨_, ?_, rfl⟩
  rw [run_callFunc_extern Tryz.func147 (by kernel_rfl) (by kernel_rfl) (by kernel_rfl) (e := Extern.BytealgIndexByte.indexByte) (by kernel_rfl), Lib.run_indexByteString]
  rfl
theorem slIndexByte_does (s : List UInt8) (c : Int) : Does Tryz.prog tab 108 0 [.str s, .int .u8 c] [] [] (Val (.int .i64 (Lib.indexByte s c.toNat.toUInt8))) := by
  refine Does.enter tabOK (g := 108) (fn := Tryz.f108) Tryz.call108 Tryz.func108 rfl 8 rfl rfl [.tmp 4] rfl ?_
  intro w0 F η0 h0
  conv => whnf
  repeat' (first | ((with_reducible refine IF.tt ?_); conv => whnf) | ((with_reducible refine IF.ff ?_); conv => whnf) | (refine CALL.value (indexByteString_does _ _) rfl rfl ?_; conv => whnf) | ((with_reducible refine NEED.mk ?_ ?_); (first | with_reducible rfl | omega | (simp (disch := omega) only [lnB, wrap64, wrap32] <;> omega) | (intro h; (try simp (disch := omega) only [hsB, hsC, lnB, wrap64, wrap32, Int.reduceBEq, Int.reduceBNe, Int.reduceEq, Int.reduceNe, Int.reduceLT, Int.reduceLE, Int.reduceGT, Int.reduceGE, Int.reduceAdd, Int.reduceSub, Int.reduceMul, Int.reduceNeg, reduceCtorEq] at h); (first | omega | (simp (disch := omega) only [lnB, wrap64, wrap32] <;> omega))) | (exact needApp 256 rfl rfl (by simp) (by simp) (by omega)) | (simp <;> omega)); conv => whnf) | ((with_reducible apply GET.at); (rfl); conv => whnf) | ((with_reducible apply GETG.at); (rfl); conv => whnf) | ((with_reducible refine IF.mk (fun h => ?_) (fun h => ?_)) <;> (try simp (disch := omega) only [hsB, hsC, lnB, wrap64, wrap32, Int.reduceBEq, Int.reduceBNe, Int.reduceEq, Int.reduceNe, Int.reduceLT, Int.reduceLE, Int.reduceGT, Int.reduceGE, Int.reduceAdd, Int.reduceSub, Int.reduceMul, Int.reduceNeg, reduceCtorEq] at h) <;> (try (exfalso; omega)) <;> conv => whnf))
  exact FIN.value h0 rfl rfl
theorem indexByte_does (s : List UInt8) (c : Int) : Does Tryz.prog tab 70 0 [.str s, .int .u8 c] [] [] (Val (.int .i64 (Lib.indexByte s c.toNat.toUInt8))) := by
  refine Does.enter tabOK (g := 70) (fn := Tryz.f70) Tryz.call70 Tryz.func70 rfl 8 rfl rfl [.tmp 4] rfl ?_
  intro w0 F η0 h0
  conv => whnf
  repeat' (first | ((with_reducible refine IF.tt ?_); conv => whnf) | ((with_reducible refine IF.ff ?_); conv => whnf) | (refine CALL.value (slIndexByte_does _ _) rfl rfl ?_; conv => whnf) | ((with_reducible refine NEED.mk ?_ ?_); (first | with_reducible rfl | omega | (simp (disch := omega) only [lnB, wrap64, wrap32] <;> omega) | (intro h; (try simp (disch := omega) only [hsB, hsC, lnB, wrap64, wrap32, Int.reduceBEq, Int.reduceBNe, Int.reduceEq, Int.reduceNe, Int.reduceLT, Int.reduceLE, Int.reduceGT, Int.reduceGE, Int.reduceAdd, Int.reduceSub, Int.reduceMul, Int.reduceNeg, reduceCtorEq] at h); (first | omega | (simp (disch := omega) only [lnB, wrap64, wrap32] <;> omega))) | (exact needApp 256 rfl rfl (by simp) (by simp) (by omega)) | (simp <;> omega)); conv => whnf) | ((with_reducible apply GET.at); (rfl); conv => whnf) | ((with_reducible apply GETG.at); (rfl); conv => whnf) | ((with_reducible refine IF.mk (fun h => ?_) (fun h => ?_)) <;> (try simp (disch := omega) only [hsB, hsC, lnB, wrap64, wrap32, Int.reduceBEq, Int.reduceBNe, Int.reduceEq, Int.reduceNe, Int.reduceLT, Int.reduceLE, Int.reduceGT, Int.reduceGE, Int.reduceAdd, Int.reduceSub, Int.reduceMul, Int.reduceNeg, reduceCtorEq] at h) <;> (try (exfalso; omega)) <;> conv => whnf))
  exact FIN.value h0 rfl rfl
theorem validRune_does (r : Int) : Does Tryz.prog tab 195 0 [.int .i32 r] [] [] (Val (.bool (scalarM r))) := by
  refine Does.enter tabOK (g := 195) (fn := Tryz.f195) Tryz.call195 Tryz.func195 rfl 17 rfl rfl [.tmp 2] rfl ?_
  intro w0 F η0 h0
  conv => whnf
  repeat' (first | ((with_reducible refine IF.tt ?_); conv => whnf) | ((with_reducible refine IF.ff ?_); conv => whnf) | ((with_reducible refine NEED.mk ?_ ?_); (first | with_reducible rfl | omega | (simp (disch := omega) only [lnB, wrap64, wrap32] <;> omega) | (intro h; (try simp (disch := omega) only [hsB, hsC, lnB, wrap64, wrap32, Int.reduceBEq, Int.reduceBNe, Int.reduceEq, Int.reduceNe, Int.reduceLT, Int.reduceLE, Int.reduceGT, Int.reduceGE, Int.reduceAdd, Int.reduceSub, Int.reduceMul, Int.reduceNeg, reduceCtorEq] at h); (first | omega | (simp (disch := omega) only [lnB, wrap64, wrap32] <;> omega))) | (exact needApp 256 rfl rfl (by simp) (by simp) (by omega)) | (simp <;> omega)); conv => whnf) | ((with_reducible apply GET.at); (rfl); conv => whnf) | ((with_reducible apply GETG.at); (rfl); conv => whnf) | ((with_reducible refine IF.mk (fun h => ?_) (fun h => ?_)) <;> (try simp (disch := omega) only [hsB, hsC, lnB, wrap64, wrap32, Int.reduceBEq, Int.reduceBNe, Int.reduceEq, Int.reduceNe, Int.reduceLT, Int.reduceLE, Int.reduceGT, Int.reduceGE, Int.reduceAdd, Int.reduceSub, Int.reduceMul, Int.reduceNeg, reduceCtorEq] at h) <;> (try (exfalso; omega)) <;> conv => whnf))
  all_goals
    refine FIN.value h0 rfl (congrArg SV.bool ?_)
    rw [Bool.eq_iff_iff, scalarM_true]
    simp
    try omega
theorem idxFunc_does (g : Nat) (p : Int → Bool) (hp : ∀ r : Int, Scalar r → Does Tryz.prog tab g 0 [.int .i32 r] [] [] (Val (.bool (p r)))) (s : List UInt8) (hs : Sm s) : Does Tryz.prog tab 165 0 [.str s, .fn (.func g) [] [], .bool true] [] [] (Val (.int .i64 (idxF p s 0))) := by
  refine Does.enter tabOK (g := 165) (fn := Tryz.f165) Tryz.call165 Tryz.func165 rfl 21 rfl rfl [.tmp 6] rfl ?_
  intro w0 F η0 h0
  conv => whnf
  refine LOOP.go tabOK [1, 2, 10] (X := Nat) (fun i => i ≤ s.length ∧ idxF p s i = idxF p s 0) (fun i => []) (fun i => [(0, .siter s i)]) 1 (fun i => s.length - i) 0 ⟨by omega, rfl⟩ ?_
  conv => whnf
  refine ⟨by (refine GOES.cutting h0 rfl rfl rfl (by first | rfl | simp [belowO, belowH, plainLL_below, plainLL_map, plainL, plain]) ?_ ?_ <;> (repeat' (first | (with_reducible rfl) | (exact congrArg (fun n => SV.sl _ _ _ n _) (by simp)) | (exact congrArg (Hp.rows _) (by simp)) | (exact congrArg (SV.int _) (by first | omega | (simp (disch := omega) only [lnB, wrap64, wrap32] <;> omega) | (simp; done) | (simp <;> omega))) | ((conv => whnf); refine ⟨?_, ?_⟩) | exact trivial | (simp; done) | rfl))), ?_⟩
  rintro i ⟨hi, hc⟩
  conv => whnf
  refine ⟨fun h => ?_, fun h => ?_⟩
  · have h : i < s.length := by simpa using h
    have hf := deco_fits s i h
    have hd := deco_pos s i
    conv => whnf
    repeat' (first | ((with_reducible refine IF.tt ?_); conv => whnf) | ((with_reducible refine IF.ff ?_); conv => whnf) | (refine CALL.value (hp _ (deco_scalar s i)) rfl rfl ?_; conv => whnf) | ((with_reducible refine NEED.mk ?_ ?_); (first | with_reducible rfl | omega | (simp (disch := omega) only [lnB, wrap64, wrap32] <;> omega) | (intro h; (try simp (disch := omega) only [hsB, hsC, lnB, wrap64, wrap32, Int.reduceBEq, Int.reduceBNe, Int.reduceEq, Int.reduceNe, Int.reduceLT, Int.reduceLE, Int.reduceGT, Int.reduceGE, Int.reduceAdd, Int.reduceSub, Int.reduceMul, Int.reduceNeg, reduceCtorEq] at h); (first | omega | (simp (disch := omega) only [lnB, wrap64, wrap32] <;> omega))) | (exact needApp 256 rfl rfl (by simp) (by simp) (by omega)) | (simp <;> omega)); conv => whnf) | ((with_reducible apply GET.at); (rfl); conv => whnf) | ((with_reducible apply GETG.at); (rfl); conv => whnf) | ((with_reducible refine IF.mk (fun h => ?_) (fun h => ?_)) <;> (try simp (disch := omega) only [hsB, hsC, lnB, wrap64, wrap32, Int.reduceBEq, Int.reduceBNe, Int.reduceEq, Int.reduceNe, Int.reduceLT, Int.reduceLE, Int.reduceGT, Int.reduceGE, Int.reduceAdd, Int.reduceSub, Int.reduceMul, Int.reduceNeg, reduceCtorEq] at h) <;> (try (exfalso; omega)) <;> conv => whnf))
    · refine FIN.value h0 rfl ?_
      rw [← hc, idxF_at (by omega) (by simpa using h)]
    · refine ⟨i + (deco s i).2, ⟨by omega, ?_⟩, by omega, ?_⟩
      · rw [← hc, ← idxF_step (by omega) (by simpa using h)]
      · conv => whnf
        (refine GOES.cutting h0 rfl rfl rfl (by first | rfl | simp [belowO, belowH, plainLL_below, plainLL_map, plainL, plain]) ?_ ?_ <;> (repeat' (first | (with_reducible rfl) | (exact congrArg (fun n => SV.sl _ _ _ n _) (by simp)) | (exact congrArg (Hp.rows _) (by simp)) | (exact congrArg (SV.int _) (by first | omega | (simp (disch := omega) only [lnB, wrap64, wrap32] <;> omega) | (simp; done) | (simp <;> omega))) | ((conv => whnf); refine ⟨?_, ?_⟩) | exact trivial | (simp; done) | rfl)))
  · have h : s.length ≤ i := by simpa using h
    conv => whnf
    repeat' (first | ((with_reducible refine IF.tt ?_); conv => whnf) | ((with_reducible refine IF.ff ?_); conv => whnf) | ((with_reducible refine NEED.mk ?_ ?_); (first | with_reducible rfl | omega | (simp (disch := omega) only [lnB, wrap64, wrap32] <;> omega) | (intro h; (try simp (disch := omega) only [hsB, hsC, lnB, wrap64, wrap32, Int.reduceBEq, Int.reduceBNe, Int.reduceEq, Int.reduceNe, Int.reduceLT, Int.reduceLE, Int.reduceGT, Int.reduceGE, Int.reduceAdd, Int.reduceSub, Int.reduceMul, Int.reduceNeg, reduceCtorEq] at h); (first | omega | (simp (disch := omega) only [lnB, wrap64, wrap32] <;> omega))) | (exact needApp 256 rfl rfl (by simp) (by simp) (by omega)) | (simp <;> omega)); conv => whnf) | ((with_reducible apply GET.at); (rfl); conv => whnf) | ((with_reducible apply GETG.at); (rfl); conv => whnf) | ((with_reducible refine IF.mk (fun h => ?_) (fun h => ?_)) <;> (try simp (disch := omega) only [hsB, hsC, lnB, wrap64, wrap32, Int.reduceBEq, Int.reduceBNe, Int.reduceEq, Int.reduceNe, Int.reduceLT, Int.reduceLE, Int.reduceGT, Int.reduceGE, Int.reduceAdd, Int.reduceSub, Int.reduceMul, Int.reduceNeg, reduceCtorEq] at h) <;> (try (exfalso; omega)) <;> conv => whnf))
    refine FIN.value h0 rfl ?_
    rw [← hc, idxF_end h]
theorem indexFunc_does (g : Nat) (p : Int → Bool) (hp : ∀ r : Int, Scalar r → Does Tryz.prog tab g 0 [.int .i32 r] [] [] (Val (.bool (p r)))) (s : List UInt8) (hs : Sm s) : Does Tryz.prog tab 121 0 [.str s, .fn (.func g) [] []] [] [] (Val (.int .i64 (idxF p s 0))) := by
  refine Does.enter tabOK (g := 121) (fn := Tryz.f121) Tryz.call121 Tryz.func121 rfl 8 rfl rfl [.tmp 4] rfl ?_
  intro w0 F η0 h0
  conv => whnf
  repeat' (first | ((with_reducible refine IF.tt ?_); conv => whnf) | ((with_reducible refine IF.ff ?_); conv => whnf) | (refine CALL.value (idxFunc_does g p hp s hs) rfl rfl ?_; conv => whnf) | ((with_reducible refine NEED.mk ?_ ?_); (first | with_reducible rfl | omega | (simp (disch := omega) only [lnB, wrap64, wrap32] <;> omega) | (intro h; (try simp (disch := omega) only [hsB, hsC, lnB, wrap64, wrap32, Int.reduceBEq, Int.reduceBNe, Int.reduceEq, Int.reduceNe, Int.reduceLT, Int.reduceLE, Int.reduceGT, Int.reduceGE, Int.reduceAdd, Int.reduceSub, Int.reduceMul, Int.reduceNeg, reduceCtorEq] at h); (first | omega | (simp (disch := omega) only [lnB, wrap64, wrap32] <;> omega))) | (exact needApp 256 rfl rfl (by simp) (by simp) (by omega)) | (simp <;> omega)); conv => whnf) | ((with_reducible apply GET.at); (rfl); conv => whnf) | ((with_reducible apply GETG.at); (rfl); conv => whnf) | ((with_reducible refine IF.mk (fun h => ?_) (fun h => ?_)) <;> (try simp (disch := omega) only [hsB, hsC, lnB, wrap64, wrap32, Int.reduceBEq, Int.reduceBNe, Int.reduceEq, Int.reduceNe, Int.reduceLT, Int.reduceLE, Int.reduceGT, Int.reduceGE, Int.reduceAdd, Int.reduceSub, Int.reduceMul, Int.reduceNeg, reduceCtorEq] at h) <;> (try (exfalso; omega)) <;> conv => whnf))
  exact FIN.value h0 rfl rfl
end Go.Proofs.YtpffclpheldabaaGreatDoor
