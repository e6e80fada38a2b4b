/- Part 2 of the texts that the last one leans on: SxUse, SxBack, SxFlat, SxTie, SxOrd, SxDrawn, SxDrawnS, SxDrawnT, Tab, ReadG. Conditions: as each part says. -/
import Derived.Laws.StructEq
import Derived.ChangeKeysEq
import Derived.OrdersIn
import Derived.TacticsIn
import Derived.Test.YtjbbkimodgffiaaGreatDoorProg
import Derived.Test.YtjbbkimodgffiaaGreatDoorRows
import Derived.Lib.LaidTab
import Derived.LaidSub
import Derived.Test.YtjbbkimodgffiaaGreatDoorInH1
/- Contracts used at a call, and what may be left behind at a function's end; words for the walk's stops. Conditions: none. -/
set_option linter.unusedVariables false
set_option linter.unusedSimpArgs false
namespace Go.Sx
open Go

/-! ### The stops -/
theorem IF.tt {J : Type} {A B : J → Prop} {j : J} (h : A j) : IF true A B j := ⟨fun _ => h, fun e => by cases e⟩
theorem IF.ff {J : Type} {A B : J → Prop} {j : J} (h : B j) : IF false A B j := ⟨fun e => (by cases e), fun _ => h⟩
theorem IF.yes {J : Type} {b : Bool} {A B : J → Prop} {j : J} (e : b = true) (h : A j) : IF b A B j := ⟨fun _ => h, fun e' => by rw [e] at e'; cases e'⟩
theorem IF.no {J : Type} {b : Bool} {A B : J → Prop} {j : J} (e : b = false) (h : B j) : IF b A B j := ⟨fun e' => (by rw [e] at e'; cases e'), fun _ => h⟩
theorem GET.at {rs : List (List SV)} {i : Nat} {K : List SV → Prop} {row : List SV} (h : rs[i]? = some row) (k : K row) : GET rs i K := ⟨row, h, k⟩
theorem GET.map {α : Type} {f : α → List SV} {xs : List α} {i : Nat} {K : List SV → Prop} (h : i < xs.length) (k : K (f xs[i])) : GET (xs.map f) i K := ⟨f xs[i], by simp [List.getElem?_eq_getElem h], k⟩
theorem GETG.map {α : Type} [Inhabited α] {f : α → List SV} {xs : List α} {i : Nat} {g : Prop} {K : List SV → Prop} (h : g → i < xs.length) (k : K (f (xs.getD i default))) : GETG g (xs.map f) i K :=
  ⟨f (xs.getD i default), fun hg => by have := h hg; simp [List.getElem?_eq_getElem this, List.getD], k⟩

/-! ### A call -/
/-- The caller's name for a callee's. -/
def cname (L : List Nat) (nx : Nat) (j : Nat) : Nat := if j < L.length then L.getD j 0 else nx + (j - L.length)
/-- The caller's heap behind a call. -/
def outside (ks : List Nat) : Hps → Hps
  | [] => []
  | (i, h) :: r => match ks.any (Nat.beq i) with | true => outside ks r | false => (i, h) :: outside ks r
def renO (σ : Nat → Nat) : Hps → Hps
  | [] => []
  | (i, h) :: r => (σ i, renH σ h) :: renO σ r
def namesOf : Hps → List Nat
  | [] => []
  | (i, _) :: r => i :: namesOf r
theorem lkp_namesOf {O : Hps} {i : Nat} {h : Hp} (hi : lkp i O = some h) : i ∈ namesOf O := by
  induction O with
  | nil => simp [lkp] at hi
  | cons p O ih =>
    obtain ⟨j, g⟩ := p
    rw [lkp_cons] at hi
    split at hi
    · rename_i e; subst e; exact List.mem_cons_self ..
    · exact List.mem_cons_of_mem _ (ih hi)
theorem lkp_outside {ks : List Nat} : ∀ {O : Hps} {i : Nat} {h : Hp}, lkp i (outside ks O) = some h → i ∉ ks ∧ lkp i O = some h
  | [], i, h, hi => by simp [outside, lkp] at hi
  | (j, g) :: O, i, h, hi => by
    unfold outside at hi
    have hany : ks.any (Nat.beq j) = true ↔ j ∈ ks := by
      rw [List.any_eq_true]
      exact ⟨fun ⟨x, hx, hb⟩ => by rw [beq_eq hb]; exact hx, fun h => ⟨j, h, beq_self j⟩⟩
    split at hi
    · rename_i hk
      obtain ⟨h1, h2⟩ := lkp_outside hi
      refine ⟨h1, ?_⟩
      rw [lkp_cons, if_neg ?_]
      · exact h2
      · intro e; subst e; exact h1 (hany.1 hk)
    · rename_i hk
      rw [lkp_cons] at hi
      split at hi
      · rename_i e
        subst e
        injection hi with hi; subst hi
        refine ⟨fun h => ?_, by rw [lkp_cons, if_pos rfl]⟩
        rw [hany.2 h] at hk; cases hk
      · rename_i e
        obtain ⟨h1, h2⟩ := lkp_outside hi
        exact ⟨h1, by rw [lkp_cons, if_neg e]; exact h2⟩
theorem lkp_renO {σ : Nat → Nat} : ∀ {O : Hps} {i : Nat} {h : Hp}, lkp i (renO σ O) = some h → ∃ j g, lkp j O = some g ∧ σ j = i ∧ h = renH σ g
  | [], i, h, hi => by simp [renO, lkp] at hi
  | (j, g) :: O, i, h, hi => by
    simp only [renO] at hi
    rw [lkp_cons] at hi
    split at hi
    · rename_i e
      injection hi with hi
      exact ⟨j, g, by rw [lkp_cons, if_pos rfl], e.symm, hi.symm⟩
    · rename_i e
      obtain ⟨j1, g1, h1, h2, h3⟩ := lkp_renO hi
      have hne : j1 ≠ j := by intro e'; subst e'; exact e h2.symm
      exact ⟨j1, g1, by rw [lkp_cons, if_neg hne]; exact h1, h2, h3⟩
theorem lkp_append {α : Type} {xs ys : List (Nat × α)} {i : Nat} {v : α} (h : lkp i (xs ++ ys) = some v) : lkp i xs = some v ∨ (lkp i xs = none ∧ lkp i ys = some v) := by
  induction xs with
  | nil => exact .inr ⟨rfl, h⟩
  | cons p xs ih =>
    obtain ⟨j, u⟩ := p
    rw [List.cons_append, lkp_cons] at h
    rw [lkp_cons]
    split at h
    · rename_i e; rw [if_pos e]; exact .inl h
    · rename_i e; rw [if_neg e]; exact ih h
theorem Invokes.mono {P : Program} {f : FuncId} {args : Array Value} {w : World} {R R' : Value → World → Prop} (h : Invokes P f args w R) (hr : ∀ v w', R v w' → R' v w') : Invokes P f args w R' := by
  rcases h with ⟨g, h1, h2⟩ | ⟨v, w', h1, h2⟩
  · exact .inl ⟨g, h1, h2.mono fun e w' ⟨v, h3, h4⟩ => ⟨v, h3, hr v w' h4⟩⟩
  · exact .inr ⟨v, w', h1, hr v w' h2⟩
theorem lkpB_shB {S : Hps} {b : Blk} {h : Hp} (hb : lkpB b (shB S) = some h) : ∃ j, b = .loc j ∧ (j, h) ∈ S := by
  induction S with
  | nil => simp [shB, lkpB] at hb
  | cons p S ih =>
    obtain ⟨j, g⟩ := p
    simp only [shB, List.map_cons, lkpB] at hb
    split at hb
    · rename_i e
      injection hb with hb; subst hb
      exact ⟨j, blkEq_iff.1 e, List.mem_cons_self ..⟩
    · obtain ⟨j', h1, h2⟩ := ih hb
      exact ⟨j', h1, List.mem_cons_of_mem _ h2⟩
/-- A contract serves at a call. L: the caller's names for the contract's first ones. -/
theorem CALL.of {M : Mx} {f : FuncId} {args : List SV} {O : Hps} {nx : Nat} {K : SV → Hps → Nat → Prop} {k : Nat} {argsc : List SV} {Oc Sc : Hps} {Q : SV → Hps → Nat → Prop} (L : List Nat) (sp : Does M.P M.C.T f k argsc Oc Sc Q)
    (hL : L.length = k) (hLn : ∀ i ∈ L, i < nx) (ha : args = renL (cname L nx) argsc) (hb : belowL k argsc = true)
    (hO : ∀ p ∈ Oc, p.1 < k ∧ lkp (cname L nx p.1) O = some (renH (cname L nx) p.2) ∧ belowH k p.2 = true)
    (hOn : ∀ j ∈ namesOf Oc, ∀ j' ∈ namesOf Oc, cname L nx j = cname L nx j' → j = j')
    (hS : ∀ p ∈ Sc, p.1 < k ∧ hLook M.C O (.loc (cname L nx p.1)) = some (renH (cname L nx) p.2) ∧ belowH k p.2 = true ∧ cname L nx p.1 ∉ (namesOf Oc).map (cname L nx))
    (hK : ∀ r O' nx', Q r O' nx' → K (ren (cname L nx) r) (renO (cname L nx) O' ++ outside ((namesOf Oc).map (cname L nx)) O) (nx + (nx' - k))) : CALL M f args O nx K := by
  refine ⟨fun η w vs H hd => ?_⟩
  generalize hσ : cname L nx = σ at *
  have hσlt : ∀ j, j < k → ∃ y, L[j]? = some (σ j) ∧ σ j < nx ∧ η[σ j]? = some y := by
    intro j hj
    have hj' : j < L.length := by omega
    have e : σ j = L[j] := by rw [← hσ]; simp [cname, hj', List.getD]
    have hlt : σ j < nx := by rw [e]; exact hLn _ (List.getElem_mem hj')
    refine ⟨η[σ j]'(by rw [H.len]; exact hlt), by rw [e]; exact List.getElem?_eq_getElem hj', hlt, List.getElem?_eq_getElem _⟩
  have hσge : ∀ j, k ≤ j → σ j = nx + (j - k) := by
    intro j hj; rw [← hσ]; simp only [cname, hL]; rw [if_neg (by omega)]
  obtain ⟨ηc, hηc⟩ : ∃ ηc : Env, ηc = L.map (fun i => (η[i]?).getD none) := ⟨_, rfl⟩
  have hclen : ηc.length = k := by rw [hηc]; simp [hL]
  have hcget : ∀ j, j < k → ηc[j]? = η[σ j]? := by
    intro j hj
    obtain ⟨y, h1, h2, h3⟩ := hσlt j hj
    rw [hηc, List.getElem?_map, h1]
    simp [h3]
  have hbwd : Bwd η ηc σ k := fun j x hj hx => by rw [hcget j hj]; exact hx
  have hdc : DenL ηc argsc vs := DenL.unren hbwd hb (by rw [← ha]; exact hd)
  have hOl : ∀ j h, lkp j Oc = some h → j < k ∧ lkp (σ j) O = some (renH σ h) ∧ belowH k h = true := fun j h hj => hO (j, h) (lkp_mem hj)
  have hto : ∀ {j : Nat}, j < k → ∀ {h : Hp} {w : World} {n : Nat}, feet ηc w (.loc j) h n → feet η w (.loc (σ j)) (renH σ h) n := fun {j} hj {h w n} f => f.ren fun x hx => by rw [← hcget j hj]; exact hx
  -- blocks that the callee may write are the caller's own
  have hF : ∀ n, blocksOf ηc w Oc n → ∃ j h, lkp j Oc = some h ∧ feet η w (.loc (σ j)) (renH σ h) n ∧ (M.F n ∨ M.w0.heap.size ≤ n) := by
    rintro n ⟨j, h, h1, f⟩
    obtain ⟨p1, p2, _⟩ := hOl j h h1
    exact ⟨j, h, h1, hto p1 f, (H.own.1 _ _ p2).2 n (hto p1 f)⟩
  have Hc : HeapOK { P := M.P, C := { M.C with S := shB Sc }, w0 := w, F := blocksOf ηc w Oc, η0 := ηc } ηc w Oc k := by
    refine ⟨List.prefix_rfl, hclen, ⟨?_, ?_⟩, FrW.refl _ _, ?_⟩
    · intro j h hj
      obtain ⟨p1, p2, p3⟩ := hOl j h hj
      exact ⟨(H.own.1 _ _ p2).1.unren hbwd p1 p3, fun n f => .inl ⟨j, h, hj, f⟩⟩
    · intro j j' h h' n hj hj' hne f f'
      obtain ⟨p1, p2, _⟩ := hOl j h hj
      obtain ⟨q1, q2, _⟩ := hOl j' h' hj'
      exact H.own.2 _ _ _ _ n p2 q2 (fun hh => hne (hOn j (lkp_namesOf hj) j' (lkp_namesOf hj') hh)) (hto p1 f) (hto q1 f')
    · intro b h hbl
      cases b with
      | glob g =>
        have hp : plainH h = true := List.all_eq_true.1 M.C.T.gplain (g, h) (lkp_mem hbl)
        obtain ⟨s1, s2⟩ := H.sok (.glob g) h hbl
        refine ⟨(H.shared (b := .glob g) hbl).plain hp, fun n f => ?_⟩
        obtain ⟨t1, t2⟩ := s2 g ⟨⟨g, 0, 0⟩, rfl, .inl rfl⟩
        have hw : w.heap[g]? = M.w0.heap[g]? := H.fr.block g t1 t2
        have f0 : feet M.η0 M.w0 (.glob g) h n := by
          obtain ⟨e, h1, h2⟩ := f
          cases h1
          exact ⟨⟨g, 0, 0⟩, rfl, h2.imp id fun h => h.keep hw⟩
        obtain ⟨t1, t2⟩ := s2 n f0
        refine ⟨Nat.lt_of_lt_of_le t1 H.fr.size, fun hbb => ?_⟩
        obtain ⟨_, _, _, _, q4⟩ := hF _ hbb
        rcases q4 with q4 | q4
        · exact t2 q4
        · omega
      | loc j0 =>
      obtain ⟨j, hj0, hm⟩ := lkpB_shB hbl
      injection hj0 with hj0
      subst j0
      obtain ⟨p1, p2, p3, p4⟩ := hS (j, h) hm
      simp only at p1 p2 p3 p4
      refine ⟨(H.look p2).unren hbwd p1 p3, fun n f => ?_⟩
      have f1 := hto p1 f
      refine ⟨(H.look p2).feet_lt f1, fun hbb => ?_⟩
      obtain ⟨j', h', q1, fq, q4⟩ := hF _ hbb
      obtain ⟨r1, r2, _⟩ := hOl j' h' q1
      simp only [hLook] at p2
      cases ho : lkp (σ j) O with
      | some g =>
        have hne : σ j' ≠ σ j := fun hh => p4 (by rw [← hh]; exact List.mem_map_of_mem (lkp_namesOf q1))
        rw [ho] at p2
        injection p2 with p2
        subst p2
        exact H.own.2 _ _ _ _ n r2 ho hne fq f1
      | none =>
        rw [ho] at p2
        obtain ⟨s1, s2⟩ := H.sok (.loc (σ j)) _ p2
        obtain ⟨x', hx', _⟩ := s1.lt
        have f2 : feet M.η0 M.w0 (.loc (σ j)) (renH σ h) n := (f1.less H.pre hx').keep fun e he => H.fr.block e.g (s2 e.g (feet.own he)).1 (s2 e.g (feet.own he)).2
        obtain ⟨t1, t2⟩ := s2 n f2
        rcases q4 with q4 | q4
        · exact t2 q4
        · omega
  refine (sp.out { P := M.P, C := { M.C with S := shB Sc }, w0 := w, F := blocksOf ηc w Oc, η0 := ηc } vs rfl rfl rfl rfl Hc hdc).mono ?_
  rintro v w' ⟨r, O', nx', η', hq, hpre, H', hdr⟩
  have hk' : k ≤ nx' := by rw [← H'.len, ← hclen]; exact hpre.length_le
  have hfwd : Fwd η' (η ++ η'.drop k) σ := by
    intro i x hx
    by_cases hi : i < k
    · obtain ⟨y, h1, h2, h3⟩ := hσlt i hi
      rw [List.getElem?_append_left (by rw [H.len]; exact h2)]
      have : η'[i]? = ηc[i]? := by
        obtain ⟨t, rfl⟩ := hpre
        rw [List.getElem?_append_left (by rw [hclen]; exact hi)]
      rw [← hcget i hi, ← this]; exact hx
    · rw [hσge i (by omega), List.getElem?_append_right (by rw [H.len]; omega), H.len, List.getElem?_drop]
      rw [show k + (nx + (i - k) - nx) = i by omega]; exact hx
  have hpre' : η <+: η ++ η'.drop k := List.prefix_append _ _
  have hfr : FrW w w' (blocksOf ηc w Oc) := H'.fr
  refine ⟨ren σ r, _, _, η ++ η'.drop k, hpre', ?_, hdr.ren hfwd, hK r O' nx' hq⟩
  -- entries of the callee's heap, in the caller's names
  have hin : ∀ {i h}, lkp i (renO σ O') = some h → ∃ j g, lkp j O' = some g ∧ σ j = i ∧ h = renH σ g ∧ HpSat (η ++ η'.drop k) w' true (.loc i) h ∧ ∀ n, feet (η ++ η'.drop k) w' (.loc i) h n → feet η' w' (.loc j) g n ∧ (blocksOf ηc w Oc n ∨ w.heap.size ≤ n) := by
    intro i h hi
    obtain ⟨j, g, h1, h2, h3⟩ := lkp_renO hi
    obtain ⟨p1, p2⟩ := H'.own.1 j g h1
    obtain ⟨x, hx, _⟩ := p1.lt
    have hx' : (η ++ η'.drop k)[σ j]? = some x := hfwd j x hx
    refine ⟨j, g, h1, h2, h3, ?_, ?_⟩
    · rw [h3, ← h2]; exact p1.ren hfwd
    · intro n f
      rw [h3, ← h2] at f
      have f' : feet η' w' (.loc j) g n := f.unren fun y hy => by rw [hx'] at hy; injection hy with hy; rw [← hy]; exact hx
      exact ⟨f', p2 n f'⟩
  have hout : ∀ {i h}, lkp i (outside ((namesOf Oc).map σ) O) = some h → lkp i O = some h ∧ ∀ n, feet η w (.loc i) h n → n < w.heap.size ∧ ¬ blocksOf ηc w Oc n := by
    intro i h hi
    obtain ⟨h1, h2⟩ := lkp_outside hi
    refine ⟨h2, fun n f => ⟨(H.own.1 i h h2).1.feet_lt f, fun hbb => ?_⟩⟩
    obtain ⟨j', h', q1, fq, q4⟩ := hF _ hbb
    obtain ⟨r1, r2, _⟩ := hOl j' h' q1
    have hne : σ j' ≠ i := fun hh => h1 (by rw [← hh]; exact List.mem_map_of_mem (lkp_namesOf q1))
    exact H.own.2 _ _ _ _ n r2 h2 hne fq f
  have hkeep : ∀ {i h}, lkp i (outside ((namesOf Oc).map σ) O) = some h → ∀ n, feet η w (.loc i) h n → w'.heap[n]? = w.heap[n]? := fun hi n f => hfr.block n ((hout hi).2 n f).1 ((hout hi).2 n f).2
  have hback : ∀ {i h}, lkp i (outside ((namesOf Oc).map σ) O) = some h → ∀ n, feet (η ++ η'.drop k) w' (.loc i) h n → feet η w (.loc i) h n := fun hi n f => H.stands hpre' (hout hi).1 (hkeep hi) f
  refine ⟨H.pre.trans hpre', ?_, ⟨?_, ?_⟩, H.fr.trans hfr (fun n hn => let ⟨_, _, _, _, h⟩ := hF n hn; h), H.sok⟩
  · rw [List.length_append, List.length_drop, H.len, H'.len]
  · intro i h hi
    rcases lkp_append hi with hi | ⟨_, hi⟩
    · obtain ⟨j, g, h1, h2, h3, h4, h5⟩ := hin hi
      refine ⟨h4, fun n f => ?_⟩
      rcases (h5 n f).2 with hb' | hb'
      · obtain ⟨_, _, _, _, hh⟩ := hF _ hb'; exact hh
      · exact .inr (Nat.le_trans H.fr.size hb')
    · have h3 := H.own.1 i h (hout hi).1
      exact ⟨(h3.1.keep (hkeep hi)).mono hpre', fun n f => h3.2 n (hback hi n f)⟩
  · intro i i' h h' n hi hi' hne f f'
    rcases lkp_append hi with hi | ⟨_, hi⟩ <;> rcases lkp_append hi' with hi' | ⟨_, hi'⟩
    · obtain ⟨j, g, h1, h2, h3, h4, h5⟩ := hin hi
      obtain ⟨j', g', h1', h2', h3', h4', h5'⟩ := hin hi'
      exact H'.own.2 j j' g g' n h1 h1' (fun hj => hne (by rw [← h2, ← h2', hj])) (h5 n f).1 (h5' n f').1
    · obtain ⟨j, g, h1, h2, h3, h4, h5⟩ := hin hi
      obtain ⟨h7, h8⟩ := (hout hi').2 n (hback hi' n f')
      rcases (h5 n f).2 with hb' | hb'
      · exact h8 hb'
      · omega
    · obtain ⟨j, g, h1, h2, h3, h4, h5⟩ := hin hi'
      obtain ⟨h7, h8⟩ := (hout hi).2 n (hback hi n f)
      rcases (h5 n f').2 with hb' | hb'
      · exact h8 hb'
      · omega
    · exact H.own.2 i i' h h' n (hout hi).1 (hout hi').1 hne (hback hi n f) (hback hi' n f')
/-- A contract about values alone: numbers, texts, truths, and what is made of them. -/
theorem CALL.val {M : Mx} {f : FuncId} {args : List SV} {O : Hps} {nx : Nat} {K : SV → Hps → Nat → Prop} {r : SV} (sp : Does M.P M.C.T f 0 args [] [] fun r' O' nx' => r' = r ∧ O' = [] ∧ nx' = 0) (hp : plainL args = true) (hr : plain r = true) (hK : K r O nx) : CALL M f args O nx K := by
  refine CALL.of [] sp rfl (fun i hi => by cases hi) (renL_plain _ hp).symm (plainL_below 0 hp) (fun p hp => by cases hp) (fun j hj => by cases hj) (fun p hp => by cases hp) ?_
  rintro r' O' nx' ⟨rfl, rfl, rfl⟩
  rw [ren_plain _ hr]
  have : outside ((namesOf []).map (cname [] nx)) O = O := by
    clear hK sp
    induction O with
    | nil => rfl
    | cons p O ih => obtain ⟨i, h⟩ := p; simp only [outside, namesOf, List.map_nil, List.any_nil] at ih ⊢; rw [ih]
  rw [this]
  simpa [renO] using hK

/-- The result is this value; nothing that is told of is left behind. -/
def Val (r0 : SV) : SV → Hps → Nat → Prop := fun r O nx => r = r0 ∧ O = [] ∧ nx = 0
theorem CALL.value {M : Mx} {f : FuncId} {args : List SV} {O : Hps} {nx : Nat} {K : SV → Hps → Nat → Prop} {r : SV} (sp : Does M.P M.C.T f 0 args [] [] (Val r)) (hp : plainL args = true) (hr : plain r = true) (hK : K r O nx) : CALL M f args O nx K := CALL.val sp hp hr hK
def SubS (C : Cx) (O : Hps) (σ : Nat → Nat) (k : Nat) : Hps → Prop
  | [] => True
  | (i, h) :: r => (Nat.blt i k = true ∧ hLook C O (.loc (σ i)) = some (renH σ h) ∧ belowH k h = true) ∧ SubS C O σ k r
theorem SubS.at {C : Cx} {O : Hps} {σ : Nat → Nat} {k : Nat} : ∀ {S : Hps}, SubS C O σ k S → ∀ p ∈ S, p.1 < k ∧ hLook C O (.loc (σ p.1)) = some (renH σ p.2) ∧ belowH k p.2 = true
  | [], _, p, hp => by cases hp
  | (i, h) :: r, hs, p, hp => by
    rcases List.mem_cons.1 hp with rfl | hp
    · exact ⟨by simpa [Nat.blt_eq] using hs.1.1, hs.1.2⟩
    · exact SubS.at hs.2 p hp
theorem outside_nil : ∀ O : Hps, outside [] O = O
  | [] => rfl
  | (i, h) :: O => by
    have ih := outside_nil O
    simp only [outside, List.any_nil] at ih ⊢
    rw [ih]
/-- A call of a function that only looks at what is known. -/
theorem CALL.look {M : Mx} {f : FuncId} {args : List SV} {O : Hps} {nx : Nat} {K : SV → Hps → Nat → Prop} {k : Nat} {argsc : List SV} {Sc : Hps} {Q : SV → Hps → Nat → Prop} (L : List Nat) (sp : Does M.P M.C.T f k argsc [] Sc Q)
    (hL : L.length = k) (hLn : L.all (fun i => Nat.blt i nx) = true) (ha : args = renL (cname L nx) argsc) (hb : belowL k argsc = true) (hS : SubS M.C O (cname L nx) k Sc)
    (hK : ∀ r O' nx', Q r O' nx' → K (ren (cname L nx) r) (renO (cname L nx) O' ++ O) (nx + (nx' - k))) : CALL M f args O nx K := by
  refine CALL.of L sp hL (fun i hi => by have := List.all_eq_true.1 hLn i hi; simpa [Nat.blt_eq] using this) ha hb (fun p hp => by cases hp) (fun j hj => by cases hj) (fun p hp => ?_) (fun r O' nx' h => ?_)
  · obtain ⟨h1, h2, h3⟩ := hS.at p hp
    exact ⟨h1, h2, h3, fun h => by cases h⟩
  · have := hK r O' nx' h
    simpa [namesOf, outside_nil] using this
/-- The result is this value, of names that came in. -/
def ValK (k : Nat) (r0 : SV) : SV → Hps → Nat → Prop := fun r O nx => r = r0 ∧ O = [] ∧ nx = k
theorem CALL.looks {M : Mx} {f : FuncId} {args : List SV} {O : Hps} {nx : Nat} {K : SV → Hps → Nat → Prop} {k : Nat} {argsc : List SV} {Sc : Hps} {r : SV} (L : List Nat) (sp : Does M.P M.C.T f k argsc [] Sc (ValK k r))
    (hL : L.length = k) (hLn : L.all (fun i => Nat.blt i nx) = true) (ha : args = renL (cname L nx) argsc) (hb : belowL k argsc = true) (hS : SubS M.C O (cname L nx) k Sc) (hK : K (ren (cname L nx) r) O nx) : CALL M f args O nx K := by
  refine CALL.look L sp hL hLn ha hb hS ?_
  rintro r' O' nx' ⟨rfl, rfl, rfl⟩
  simpa [renO] using hK
/-- A function that answers at once. -/
theorem Does.says {P : Program} {T : Tab} {f : FuncId} {args : List SV} {r : SV} (h : ∀ η w vs, DenL η args vs → ∃ v, (callFunc f ⟨vs⟩).run P w = .ok (.value v) w ∧ Den η r v) : Does P T f 0 args [] [] (Val r) := by
  refine ⟨fun M vs hP hT hF hS H hd => ?_⟩
  obtain ⟨v, h1, h2⟩ := h M.η0 M.w0 vs hd
  exact .inr ⟨v, M.w0, by rw [hP]; exact h1, r, [], 0, M.η0, ⟨rfl, rfl, rfl⟩, List.prefix_rfl, ⟨H.pre, H.len, ⟨fun i h hi => by simp [lkp] at hi, fun i j h h' n hi => by simp [lkp] at hi⟩, H.fr, H.sok⟩, h2⟩

/-! ### The end -/
theorem FIN.val {M : Mx} {O : Hps} {nx k : Nat} {r : SV} {Q : SV → Hps → Nat → Prop} (hk : M.η0.length = k) (hp : plain r = true) (hQ : Q r [] k) : FIN M O nx r Q := by
  refine ⟨fun η w v H hd => ⟨r, [], k, M.η0, hQ, List.prefix_rfl, ⟨List.prefix_rfl, hk, ⟨fun i h hi => by simp [lkp] at hi, fun i j h h' n hi => by simp [lkp] at hi⟩, H.fr, H.sok⟩, ?_⟩⟩
  have hb : Bwd η M.η0 (fun i => i) 0 := fun i x hi => by omega
  exact Den.unren hb (plain_below 0 hp) (by rw [ren_plain _ hp]; exact hd)
theorem FIN.value {M : Mx} {O : Hps} {nx : Nat} {r r0 : SV} (hk : M.η0.length = 0) (hp : plain r = true) (hQ : r = r0) : FIN M O nx r (Val r0) := FIN.val hk hp ⟨hQ, rfl, rfl⟩
theorem FIN.valueK {M : Mx} {O : Hps} {nx k : Nat} {r r0 : SV} (hk : M.η0.length = k) (hp : plain r = true) (hQ : r = r0) : FIN M O nx r (ValK k r0) := FIN.val hk hp ⟨hQ, rfl, rfl⟩
/-- The names at a function's end, in the contract's order: those that came in, and the ones of τ. -/
def fname (k : Nat) (τ : List Nat) (j : Nat) : Nat := if j < k then j else τ.getD (j - k) 0
theorem HeapOK.names {M : Mx} {η : Env} {w : World} {O : Hps} {nx k : Nat} (H : HeapOK M η w O nx) (hk : M.η0.length = k) (τ : List Nat) {Oc : Hps} (hτ : ∀ i ∈ τ, i < nx)
    (hO : ∀ p ∈ Oc, p.1 < k + τ.length ∧ lkp (fname k τ p.1) O = some (renH (fname k τ) p.2) ∧ belowH (k + τ.length) p.2 = true)
    (hn : ∀ j ∈ namesOf Oc, ∀ j' ∈ namesOf Oc, fname k τ j = fname k τ j' → j = j') : ∃ η', M.η0 <+: η' ∧ HeapOK M η' w Oc (k + τ.length) ∧ Bwd η η' (fname k τ) (k + τ.length) := by
  generalize hσ : fname k τ = σ at *
  obtain ⟨η', hη'⟩ : ∃ η' : Env, η' = M.η0 ++ τ.map (fun i => (η[i]?).getD none) := ⟨_, rfl⟩
  have hget : ∀ j, j < k + τ.length → η'[j]? = η[σ j]? := by
    intro j hj
    rw [hη', ← hσ]
    by_cases h : j < k
    · rw [List.getElem?_append_left (by omega)]
      simp only [fname, if_pos h]
      obtain ⟨t, ht⟩ := H.pre
      rw [← ht, List.getElem?_append_left (by omega)]
    · rw [List.getElem?_append_right (by omega), hk, List.getElem?_map]
      have hlt : j - k < τ.length := by omega
      simp only [fname, if_neg h, List.getElem?_eq_getElem hlt, Option.map_some, List.getD, Option.getD_some]
      have := hτ _ (List.getElem_mem hlt)
      rw [List.getElem?_eq_getElem (by rw [H.len]; exact this)]
      rfl
  have hbwd : Bwd η η' σ (k + τ.length) := fun j x hj hx => by rw [hget j hj]; exact hx
  have hOl : ∀ j h, lkp j Oc = some h → j < k + τ.length ∧ lkp (σ j) O = some (renH σ h) ∧ belowH (k + τ.length) h = true := fun j h hj => hO (j, h) (lkp_mem hj)
  refine ⟨η', by rw [hη']; exact List.prefix_append _ _, ⟨by rw [hη']; exact List.prefix_append _ _, by rw [hη']; simp [hk], ⟨?_, ?_⟩, H.fr, H.sok⟩, hbwd⟩
  · intro j h hj
    obtain ⟨p1, p2, p3⟩ := hOl j h hj
    exact ⟨(H.own.1 _ _ p2).1.unren hbwd p1 p3, fun n f => (H.own.1 _ _ p2).2 n (f.ren fun x hx => by rw [← hget j p1]; exact hx)⟩
  · intro j j' h h' n hj hj' hne f f'
    obtain ⟨p1, p2, _⟩ := hOl j h hj
    obtain ⟨q1, q2, _⟩ := hOl j' h' hj'
    exact H.own.2 _ _ _ _ n p2 q2 (fun hh => hne (hn j (lkp_namesOf hj) j' (lkp_namesOf hj') hh)) (f.ren fun x hx => by rw [← hget j p1]; exact hx) (f'.ren fun x hx => by rw [← hget j' q1]; exact hx)
theorem FIN.keep {M : Mx} {O : Hps} {nx k : Nat} {r : SV} {Q : SV → Hps → Nat → Prop} (hk : M.η0.length = k) (τ : List Nat) {rc : SV} {Oc : Hps} (hτ : ∀ i ∈ τ, i < nx) (hr : r = ren (fname k τ) rc) (hb : below (k + τ.length) rc = true)
    (hO : ∀ p ∈ Oc, p.1 < k + τ.length ∧ lkp (fname k τ p.1) O = some (renH (fname k τ) p.2) ∧ belowH (k + τ.length) p.2 = true)
    (hn : ∀ j ∈ namesOf Oc, ∀ j' ∈ namesOf Oc, fname k τ j = fname k τ j' → j = j') (hQ : Q rc Oc (k + τ.length)) : FIN M O nx r Q := by
  refine ⟨fun η w v H hd => ?_⟩
  obtain ⟨η', h1, h2, h3⟩ := H.names hk τ hτ hO hn
  exact ⟨rc, Oc, k + τ.length, η', hQ, h1, h2, Den.unren h3 hb (by rw [← hr]; exact hd)⟩

/-! ### From one state to another that says less -/
def SubFr (σ : Nat → Nat) (m : Nat) (fr : Fr) : Fr → Prop
  | [] => True
  | (t, v) :: r => (lkp t fr = some (ren σ v) ∧ below m v = true) ∧ SubFr σ m fr r
theorem SubFr.at {σ : Nat → Nat} {m : Nat} {fr : Fr} : ∀ {fr' : Fr}, SubFr σ m fr fr' → ∀ t v, lkp t fr' = some v → lkp t fr = some (ren σ v) ∧ below m v = true
  | [], _, t, v, h => by simp [lkp] at h
  | (d, u) :: r, hs, t, v, h => by
    rw [lkp_cons] at h
    split at h
    · rename_i e; subst e; injection h with h; subst h; exact hs.1
    · exact SubFr.at hs.2 t v h
def SubO (σ : Nat → Nat) (m : Nat) (O : Hps) : Hps → Prop
  | [] => True
  | (i, h) :: r => (Nat.blt i m = true ∧ lkp (σ i) O = some (renH σ h) ∧ belowH m h = true) ∧ SubO σ m O r
theorem SubO.at {σ : Nat → Nat} {m : Nat} {O : Hps} : ∀ {O' : Hps}, SubO σ m O O' → ∀ p ∈ O', p.1 < m ∧ lkp (σ p.1) O = some (renH σ p.2) ∧ belowH m p.2 = true
  | [], _, p, hp => by cases hp
  | (i, h) :: r, hs, p, hp => by
    rcases List.mem_cons.1 hp with rfl | hp
    · exact ⟨by simpa [Nat.blt_eq] using hs.1.1, hs.1.2⟩
    · exact SubO.at hs.2 p hp
/-- The calls that are put off are told on. -/
def isDfs : Option SV → Bool
  | some (.dfs _) => true
  | _ => false
def dsSame (fr fr' : Fr) : Bool := match isDfs (lkp DS fr) with
  | true => isDfs (lkp DS fr')
  | false => !(isDfs (lkp DS fr'))
theorem DfOK.no {η : Env} {ds : List Deferred} {v : Option SV} (h : isDfs v = false) : DfOK η ds v ↔ ds = [] := by
  cases v with
  | none => exact Iff.rfl
  | some v => cases v <;> first | exact Iff.rfl | cases h
theorem DfOK.goes {η η' : Env} {σ : Nat → Nat} {m : Nat} {fr fr' : Fr} {ds : List Deferred} (hb : Bwd η η' σ m) (hd : dsSame fr fr' = true) (hf : ∀ v, lkp DS fr' = some v → lkp DS fr = some (ren σ v) ∧ below m v = true) (h : DfOK η ds (lkp DS fr)) : DfOK η' ds (lkp DS fr') := by
  unfold dsSame at hd
  split at hd
  · cases hv : lkp DS fr' with
    | none => rw [hv] at hd; cases hd
    | some v =>
      rw [hv] at hd
      cases v with
      | dfs l =>
        obtain ⟨h1, h2⟩ := hf _ hv
        rw [h1] at h
        simp only [DfOK, ren] at h ⊢
        exact DfL.unren hb (by simpa only [below] using h2) h
      | _ => cases hd
  · rename_i h1
    rw [DfOK.no h1] at h
    rw [DfOK.no (by simpa using hd)]; exact h
/-- A round's record keeps its name. -/
def roSame (ro : Option (Nat × Nat)) (σ : Nat → Nat) (m : Nat) : Bool := match ro with
  | none => true
  | some p => Nat.blt p.2 m && Nat.beq (σ p.2) p.2
theorem roSame_at {ro : Option (Nat × Nat)} {σ : Nat → Nat} {m l j : Nat} (h : roSame ro σ m = true) (hr : ro = some (l, j)) : j < m ∧ σ j = j := by
  subst hr
  simp only [roSame, Bool.and_eq_true, Nat.blt_eq] at h
  exact ⟨h.1, beq_eq h.2⟩
theorem GOES.keep {M : Mx} {fr : Fr} {O : Hps} {nx k : Nat} {fr' : Fr} {O' : Hps} (hk : M.η0.length = k) (τ : List Nat) (hτ : τ.all (fun i => Nat.blt i nx) = true) (hf : SubFr (fname k τ) (k + τ.length) fr fr') (hO : SubO (fname k τ) (k + τ.length) O O')
    (hn : (namesOf O').all (fun j => (namesOf O').all fun j' => !(Nat.beq (fname k τ j) (fname k τ j')) || Nat.beq j j') = true) (hd : dsSame fr fr' = true := by rfl) (hro : roSame M.C.ro (fname k τ) (k + τ.length) = true := by rfl) : GOES M fr O nx fr' O' (k + τ.length) := by
  refine ⟨fun η a w hm => ?_⟩
  obtain ⟨η', h1, h2, h3⟩ := hm.heap.names hk τ (fun i hi => by have := List.all_eq_true.1 hτ i hi; simpa [Nat.blt_eq] using this) hO.at (fun j hj j' hj' he => by
    have := List.all_eq_true.1 (List.all_eq_true.1 hn j hj) j' hj'
    simp only [he, beq_self, Bool.not_true, Bool.false_or] at this
    exact beq_eq this)
  refine ⟨η', h2, hm.size, hm.nds, hm.defers.goes h3 hd (fun v hv => hf.at DS v hv), fun l j hj => ?_, fun t v ht => ?_⟩
  · obtain ⟨h4, h5⟩ := roSame_at hro hj
    obtain ⟨e, h6, h7⟩ := hm.ro l j hj
    exact ⟨e, h3 j _ h4 (by rw [h5]; exact h6), h7⟩
  obtain ⟨h4, h5⟩ := hf.at t v ht
  exact Den.unren h3 h5 (hm.frame t _ h4)
end Go.Sx
/- Back from a contract to the kit's own words: calls. Conditions: none. -/
set_option linter.unusedVariables false
namespace Go.Sx
open Go
end Go.Sx
/- Structs and arrays of numbers, texts and truths: equality cell by cell, and as keys of maps. Conditions: none. -/
set_option linter.unusedVariables false
set_option linter.unusedSimpArgs false
namespace Go.Sx
open Go
/-- What the cells of a type hold; its fields lie one behind the other. -/
def flatFs (P : Program) (go : TypeId → Option (List CK)) : Nat → List Field → Option (List CK)
  | _, [] => some []
  | off, f :: fs => match f.name != "_" && Nat.beq f.offset off with
    | false => none
    | true => match go f.type, P.info? f.type with
      | some ks1, some i => match Nat.beq i.size ks1.length, flatFs P go (off + ks1.length) fs with
        | true, some ks => some (ks1 ++ ks)
        | _, _ => none
      | _, _ => none
def repK : Nat → List CK → List CK
  | 0, _ => []
  | n + 1, ks => ks ++ repK n ks
def flatT (P : Program) : Nat → TypeId → Option (List CK)
  | 0, _ => none
  | n + 1, t => match P.underlying t with
    | some (.int k) => some [.int k]
    | some .string => some [.str]
    | some .bool => some [.bool]
    | some (.struct fs) => match P.stoodInHeld t with
      | false => flatFs P (flatT P n) 0 fs.toList
      | true => none
    | some (.array m e) => match flatT P n e, P.info? e with
      | some ks, some i => match Nat.beq i.size ks.length with
        | true => some (repK m ks)
        | false => none
      | _, _ => none
    | _ => none
theorem cellsEq_split : ∀ {k1 k2 : List CK} {xs ys : List SV} {r : Bool}, cellsEq (k1 ++ k2) xs ys = some r →
    ∃ a b, cellsEq k1 (xs.take k1.length) (ys.take k1.length) = some a ∧ cellsEq k2 (xs.drop k1.length) (ys.drop k1.length) = some b ∧ r = (a && b)
  | [], k2, xs, ys, r, h => ⟨true, r, by simp [cellsEq], by simpa using h, rfl⟩
  | k :: k1, k2, xs, ys, r, h => by
    rw [List.cons_append] at h
    generalize hkk : k :: (k1 ++ k2) = kk at h
    unfold cellsEq at h
    split at h
    · cases hkk
    · rename_i q ks q1 a xs' q2 b ys'
      injection hkk with e1 e2
      subst e1 e2
      split at h
      case h_2 => cases h
      rename_i r' hk hr
      injection h with h
      subst h
      obtain ⟨x, y, h1, h2, h3⟩ := cellsEq_split hr
      subst h3
      exact ⟨(a == b && x), y, by simp only [List.length_cons, List.take_succ_cons, cellsEq, hk, h1], by simpa using h2, by rw [Bool.and_assoc]⟩
    · rename_i ks a xs' b ys'
      injection hkk with e1 e2
      subst e1 e2
      split at h
      case h_2 => cases h
      rename_i r' hr
      injection h with h
      subst h
      obtain ⟨x, y, h1, h2, h3⟩ := cellsEq_split hr
      subst h3
      exact ⟨(a == b && x), y, by simp only [List.length_cons, List.take_succ_cons, cellsEq, h1], by simpa using h2, by rw [Bool.and_assoc]⟩
    · rename_i ks a xs' b ys'
      injection hkk with e1 e2
      subst e1 e2
      split at h
      case h_2 => cases h
      rename_i r' hr
      injection h with h
      subst h
      obtain ⟨x, y, h1, h2, h3⟩ := cellsEq_split hr
      subst h3
      exact ⟨(a == b && x), y, by simp only [List.length_cons, List.take_succ_cons, cellsEq, h1], by simpa using h2, by rw [Bool.and_assoc]⟩
    · cases h
theorem cellsEq_int {k : IntKind} {x y : SV} {a : Bool} (h : cellsEq [.int k] [x] [y] = some a) : ∃ m n, x = .int k m ∧ y = .int k n ∧ a = (m == n) := by
  cases x <;> cases y <;> first | (simp [cellsEq] at h; done) | skip
  rename_i k1 m k2 n
  simp only [cellsEq] at h
  split at h
  · rename_i r' hk hr
    simp only [Option.some.injEq] at hr h
    subst hr
    simp only [Bool.and_eq_true] at hk
    have g1 := kindEq_iff.1 hk.1
    have g2 := kindEq_iff.1 hk.2
    subst g1 g2
    exact ⟨m, n, rfl, rfl, by rw [← h, Bool.and_true]⟩
  · cases h
theorem cellsEq_str {x y : SV} {a : Bool} (h : cellsEq [.str] [x] [y] = some a) : ∃ m n, x = .str m ∧ y = .str n ∧ a = (m == n) := by
  cases x <;> cases y <;> first | (simp [cellsEq] at h; done) | skip
  rename_i m n
  simp only [cellsEq, Bool.and_true, Option.some.injEq] at h
  exact ⟨m, n, rfl, rfl, h.symm⟩
theorem cellsEq_bool {x y : SV} {a : Bool} (h : cellsEq [.bool] [x] [y] = some a) : ∃ m n, x = .bool m ∧ y = .bool n ∧ a = (m == n) := by
  cases x <;> cases y <;> first | (simp [cellsEq] at h; done) | skip
  rename_i m n
  simp only [cellsEq, Bool.and_true, Option.some.injEq] at h
  exact ⟨m, n, rfl, rfl, h.symm⟩

theorem cellsEq_nil3 {xs ys : List SV} {r : Bool} (h : cellsEq [] xs ys = some r) : xs = [] ∧ ys = [] ∧ r = true := by
  cases xs <;> cases ys <;> simp [cellsEq] at h
  exact ⟨rfl, rfl, h⟩
theorem cellsEq_len : ∀ {ks : List CK} {xs ys : List SV} {r : Bool}, cellsEq ks xs ys = some r → xs.length = ks.length ∧ ys.length = ks.length
  | [], xs, ys, r, h => by
    obtain ⟨rfl, rfl, _⟩ := cellsEq_nil3 h
    exact ⟨rfl, rfl⟩
  | k :: ks, xs, ys, r, h => by
    obtain ⟨a, b, h1, h2, h3⟩ := cellsEq_split (k1 := [k]) (k2 := ks) h
    have h4 := cellsEq_len (ks := ks) h2
    have : xs.length ≠ 0 ∧ ys.length ≠ 0 := by
      constructor <;> intro e <;> (have e := List.length_eq_zero_iff.1 e; subst e; cases k <;> simp [cellsEq] at h1)
    simp only [List.length_drop, List.length_singleton, List.length_cons, List.length_nil] at h4 ⊢
    omega
/-- A value of a type, and its cells. -/
def isAggT (P : Program) (t : TypeId) : Bool := match P.underlying t with
  | some (.struct _) => true
  | some (.array _ _) => true
  | _ => false
def Shaped (P : Program) (t : TypeId) (us : List Value) (v : Value) : Prop := match isAggT P t with
  | true => v = .agg ⟨us⟩
  | false => us = [v]
theorem shaped_part {P : Program} {w : World} {n : Nat} {t : TypeId} {ks : List CK} {i : TypeInfo} (h : flatT P n t = some ks) (hi : P.info? t = some i) (hs : i.size = ks.length) {us : List Value} {off : Nat} (hl : off + ks.length ≤ us.length) :
    ∃ v, (part t ⟨us⟩ off).run P w = .ok v w ∧ Shaped P t ((us.drop off).take ks.length) v := by
  cases n with
  | zero => simp [flatT] at h
  | succ n =>
    have agg : ∀ d, P.underlying t = some d → isAggT P t = true → ((∃ fs, d = .struct fs) ∨ ∃ m e, d = .array m e) → ∃ v, (part t ⟨us⟩ off).run P w = .ok v w ∧ Shaped P t ((us.drop off).take ks.length) v := by
      intro d hd ha hh
      refine ⟨.agg ⟨(us.drop off).take ks.length⟩, ?_, by simp [Shaped, ha]⟩
      have ag : (isAgg t).run P w = .ok true w := by rcases hh with ⟨fs, rfl⟩ | ⟨m, e, rfl⟩ <;> simp [isAgg, run_und hd]
      simp [part, ag, run_size hi, hs, List.extract_eq_take_drop]
    have one : ∀ d, P.underlying t = some d → isAggT P t = false → ((∃ k, d = .int k) ∨ d = .string ∨ d = .bool) → ks.length = 1 → ∃ v, (part t ⟨us⟩ off).run P w = .ok v w ∧ Shaped P t ((us.drop off).take ks.length) v := by
      intro d hd ha hh h1
      have hlt : off < us.length := by omega
      refine ⟨us[off], ?_, ?_⟩
      · have ag : (isAgg t).run P w = .ok false w := by rcases hh with ⟨k, rfl⟩ | rfl | rfl <;> simp [isAgg, run_und hd]
        simp [part, ag, List.getElem?_eq_getElem hlt]
      · simp only [Shaped, ha, h1]
        rw [List.drop_eq_getElem_cons hlt]; rfl
    simp only [flatT] at h
    split at h
    · rename_i k hd; exact one _ hd (by simp [isAggT, hd]) (.inl ⟨k, rfl⟩) (by injection h with h; subst h; rfl)
    · rename_i hd; exact one _ hd (by simp [isAggT, hd]) (.inr (.inl rfl)) (by injection h with h; subst h; rfl)
    · rename_i hd; exact one _ hd (by simp [isAggT, hd]) (.inr (.inr rfl)) (by injection h with h; subst h; rfl)
    · rename_i fs hd; exact agg _ hd (by simp [isAggT, hd]) (.inl ⟨fs, rfl⟩)
    · rename_i m e hd; exact agg _ hd (by simp [isAggT, hd]) (.inr ⟨m, e, rfl⟩)
    · cases h
theorem denL_length {η : Env} : ∀ {xs : List SV} {us : List Value}, DenL η xs us → us.length = xs.length
  | [], us, h => by simp only [DenL] at h; subst h; rfl
  | x :: xs, us, h => by
    simp only [DenL] at h
    obtain ⟨u, vs, rfl, _, h⟩ := h
    simp [denL_length h]
theorem denL_drop' {η : Env} : ∀ {n : Nat} {xs : List SV} {us : List Value}, DenL η xs us → DenL η (xs.drop n) (us.drop n)
  | 0, xs, us, h => h
  | n + 1, [], us, h => by simp only [DenL] at h; subst h; simp [DenL]
  | n + 1, x :: xs, us, h => by
    simp only [DenL] at h
    obtain ⟨u, vs, rfl, _, h⟩ := h
    exact denL_drop' (n := n) h
theorem denL_take' {η : Env} : ∀ {n : Nat} {xs : List SV} {us : List Value}, DenL η xs us → DenL η (xs.take n) (us.take n)
  | 0, xs, us, h => by simp [DenL]
  | n + 1, [], us, h => by simp only [DenL] at h; subst h; simp [DenL]
  | n + 1, x :: xs, us, h => by
    simp only [DenL] at h
    obtain ⟨u, vs, rfl, h0, h⟩ := h
    simp only [List.take_succ_cons, DenL]
    exact ⟨u, _, rfl, h0, denL_take' h⟩
def EqFlat (P : Program) (n : Nat) : Prop := ∀ (t : TypeId) (ks : List CK), flatT P n t = some ks → ∀ (d : Nat), n ≤ d → ∀ (w : World) (η : Env) (xs ys : List SV) (us vs : List Value) (u v : Value) (r : Bool), cellsEq ks xs ys = some r → DenL η xs us → DenL η ys vs → Shaped P t us u → Shaped P t vs v →
    (Op.equalIn d t u v).run P w = .ok r w
/-- One piece of two aggregates. -/
theorem flat_piece {P : Program} {n d : Nat} (IH : EqFlat P n) (hd : n ≤ d) {t : TypeId} {ks1 ks2 : List CK} {i : TypeInfo} (h : flatT P n t = some ks1) (hi : P.info? t = some i) (hs : i.size = ks1.length) {w : World} {η : Env} {xs ys : List SV} {us vs : List Value} {off : Nat} {r : Bool} (hc : cellsEq (ks1 ++ ks2) (xs.drop off) (ys.drop off) = some r) (hu : DenL η xs us) (hv : DenL η ys vs) :
    ∃ u v a b, (part t ⟨us⟩ off).run P w = .ok u w ∧ (part t ⟨vs⟩ off).run P w = .ok v w ∧ (Op.equalIn d t u v).run P w = .ok a w ∧ cellsEq ks2 (xs.drop (off + ks1.length)) (ys.drop (off + ks1.length)) = some b ∧ r = (a && b) := by
  obtain ⟨a, b, h1, h2, h3⟩ := cellsEq_split hc
  have hl := cellsEq_len hc
  rw [List.length_drop, List.length_drop, List.length_append] at hl
  have lu := denL_length hu
  have lv := denL_length hv
  by_cases h0 : ks1.length = 0
  · -- a type has cells
    cases n with
    | zero => simp [flatT] at h
    | succ n =>
      by_cases hx : off ≤ us.length ∧ off ≤ vs.length
      · obtain ⟨u, p1, s1⟩ := shaped_part (w := w) h hi hs (us := us) (off := off) (by omega)
        obtain ⟨v, p2, s2⟩ := shaped_part (w := w) h hi hs (us := vs) (off := off) (by omega)
        exact ⟨u, v, a, b, p1, p2, IH t ks1 h d hd w η _ _ _ _ u v a h1 (denL_take' (denL_drop' hu)) (denL_take' (denL_drop' hv)) s1 s2, by rw [List.drop_drop, List.drop_drop] at h2; exact h2, h3⟩
      · have hk : ks1 = [] := List.length_eq_zero_iff.1 h0
        subst hk
        have ag : ∃ dd, P.underlying t = some dd ∧ ((∃ fs, dd = .struct fs) ∨ ∃ m e, dd = .array m e) := by
          simp only [flatT] at h
          split at h
          · cases h
          · cases h
          · cases h
          · rename_i fs hd; exact ⟨_, hd, .inl ⟨fs, rfl⟩⟩
          · rename_i m e hd; exact ⟨_, hd, .inr ⟨m, e, rfl⟩⟩
          · cases h
        obtain ⟨dd, hdd, hh⟩ := ag
        have ha : isAggT P t = true := by rcases hh with ⟨fs, rfl⟩ | ⟨m, e, rfl⟩ <;> simp [isAggT, hdd]
        have agr : (isAgg t).run P w = .ok true w := by rcases hh with ⟨fs, rfl⟩ | ⟨m, e, rfl⟩ <;> simp [isAgg, run_und hdd]
        have q : ∀ zs : List Value, (part t ⟨zs⟩ off).run P w = .ok (.agg ⟨(zs.drop off).take 0⟩) w := by
          intro zs
          have hs' : i.size = 0 := hs
          simp only [part, Sem.run_bind, agr, Result.andThen_ok, run_size hi, hs', if_true]
          congr 1
          simp [List.extract_eq_take_drop]
        exact ⟨_, _, a, b, q us, q vs, IH t [] h d hd w η _ _ _ _ _ _ a h1 (denL_take' (denL_drop' hu)) (denL_take' (denL_drop' hv)) (by simp [Shaped, ha]) (by simp [Shaped, ha]), by rw [List.drop_drop, List.drop_drop] at h2; exact h2, h3⟩
  obtain ⟨u, p1, s1⟩ := shaped_part (w := w) h hi hs (us := us) (off := off) (by omega)
  obtain ⟨v, p2, s2⟩ := shaped_part (w := w) h hi hs (us := vs) (off := off) (by omega)
  exact ⟨u, v, a, b, p1, p2, IH t ks1 h d hd w η _ _ _ _ u v a h1 (denL_take' (denL_drop' hu)) (denL_take' (denL_drop' hv)) s1 s2, by rw [List.drop_drop, List.drop_drop] at h2; exact h2, h3⟩
theorem cellsEq_nil {xs ys : List SV} {r : Bool} (h : cellsEq [] xs ys = some r) : r = true := (cellsEq_nil3 h).2.2
theorem flat_fields {P : Program} {n d : Nat} (IH : EqFlat P n) (hd : n ≤ d) {w : World} {η : Env} {xs ys : List SV} {us vs : List Value} (hu : DenL η xs us) (hv : DenL η ys vs) : ∀ (fs : List Field) (off : Nat) (ks : List CK), flatFs P (flatT P n) off fs = some ks → ∀ (r : Bool), cellsEq ks (xs.drop off) (ys.drop off) = some r → (Op.eqFields d ⟨us⟩ ⟨vs⟩ fs).run P w = .ok r w
  | [], off, ks, h, r, hc => by
    simp only [flatFs, Option.some.injEq] at h
    subst h
    rw [cellsEq_nil hc]; rfl
  | f :: fs, off, ks, h, r, hc => by
    simp only [flatFs] at h
    split at h
    · cases h
    rename_i hnm
    simp only [Bool.and_eq_true] at hnm
    have hname : f.name ≠ "_" := by simpa using hnm.1
    have hoff := beq_eq hnm.2
    split at h
    case h_2 => cases h
    rename_i ks1 i hgo hinfo
    split at h
    case h_2 => cases h
    rename_i ks2 hsz hks
    injection h with h; subst h
    obtain ⟨u, v, a, b, p1, p2, p3, h2, rfl⟩ := flat_piece IH hd hgo hinfo (beq_eq hsz) (w := w) hc hu hv
    have q4 := flat_fields IH hd (w := w) hu hv fs _ _ hks b h2
    rw [← hoff] at p1 p2
    simp only [Op.eqFields, hname, ne_eq, not_false_eq_true, if_true, Sem.run_bind, p1, p2, p3, Result.andThen_ok]
    cases a
    · simp
    · simpa using q4
theorem flat_items {P : Program} {n d : Nat} (IH : EqFlat P n) (hd : n ≤ d) {e : TypeId} {ks1 : List CK} {i : TypeInfo} (h : flatT P n e = some ks1) (hi : P.info? e = some i) (hs : i.size = ks1.length) {w : World} {η : Env} {xs ys : List SV} {us vs : List Value} (hu : DenL η xs us) (hv : DenL η ys vs) :
    ∀ (m j : Nat) (r : Bool), cellsEq (repK m ks1) (xs.drop (j * ks1.length)) (ys.drop (j * ks1.length)) = some r → (Op.eqItems d e ks1.length ⟨us⟩ ⟨vs⟩ (List.range' j m)).run P w = .ok r w
  | 0, j, r, hc => by
    rw [cellsEq_nil hc]; rfl
  | m + 1, j, r, hc => by
    simp only [repK] at hc
    obtain ⟨u, v, a, b, p1, p2, p3, h2, rfl⟩ := flat_piece IH hd h hi hs (w := w) hc hu hv
    rw [← Nat.succ_mul] at h2
    have q4 := flat_items IH hd h hi hs (w := w) hu hv m (j + 1) b h2
    simp only [List.range'_succ, Op.eqItems, Sem.run_bind, p1, p2, p3, Result.andThen_ok]
    cases a
    · simp
    · simpa using q4
theorem shaped_agg {P : Program} {t : TypeId} (h : isAggT P t = true) {us : List Value} {v : Value} (hs : Shaped P t us v) : v = .agg ⟨us⟩ := by simpa [Shaped, h] using hs
theorem shaped_one {P : Program} {t : TypeId} (h : isAggT P t = false) {us : List Value} {v : Value} (hs : Shaped P t us v) : us = [v] := by simpa [Shaped, h] using hs
theorem flat_eq (P : Program) : ∀ n, EqFlat P n
  | 0 => fun t ks h => by simp [flatT] at h
  | n + 1 => by
    intro t ks h d hd w η xs ys us vs u v r hc hu hv su sv
    obtain ⟨d, rfl⟩ : ∃ d', d = d' + 1 := ⟨d - 1, by omega⟩
    have ex1 : ∀ {z : SV} {zs : List SV} {v : Value}, DenL η zs [v] → zs = [z] → Den η z v := by
      intro z zs v h e; subst e; simp only [DenL] at h; obtain ⟨_, _, e, h, _⟩ := h; cases e; exact h
    have sing : ∀ {ck : CK}, cellsEq [ck] xs ys = some r → ∃ x y, xs = [x] ∧ ys = [y] := by
      intro ck hc
      have := cellsEq_len hc
      obtain ⟨x, rfl⟩ := List.length_eq_one_iff.1 this.1
      obtain ⟨y, rfl⟩ := List.length_eq_one_iff.1 this.2
      exact ⟨x, y, rfl, rfl⟩
    simp only [flatT] at h
    split at h
    · rename_i k hk
      injection h with h; subst h
      have e1 := shaped_one (by simp [isAggT, hk]) su
      have e2 := shaped_one (by simp [isAggT, hk]) sv
      subst e1 e2
      obtain ⟨x, y, rfl, rfl⟩ := sing hc
      obtain ⟨m, p, rfl, rfl, rfl⟩ := cellsEq_int hc
      have h6 := ex1 hu rfl
      have h7 := ex1 hv rfl
      simp only [Den] at h6 h7
      subst h6 h7
      exact run_equalIn_int w d t _ _ m p hk
    · rename_i hk
      injection h with h; subst h
      have e1 := shaped_one (by simp [isAggT, hk]) su
      have e2 := shaped_one (by simp [isAggT, hk]) sv
      subst e1 e2
      obtain ⟨x, y, rfl, rfl⟩ := sing hc
      obtain ⟨m, p, rfl, rfl, rfl⟩ := cellsEq_str hc
      have h6 := ex1 hu rfl
      have h7 := ex1 hv rfl
      simp only [Den] at h6 h7
      subst h6 h7
      rw [run_equalIn_string w d t _ _ hk, toList_mk, toList_mk]
    · rename_i hk
      injection h with h; subst h
      have e1 := shaped_one (by simp [isAggT, hk]) su
      have e2 := shaped_one (by simp [isAggT, hk]) sv
      subst e1 e2
      obtain ⟨x, y, rfl, rfl⟩ := sing hc
      obtain ⟨m, p, rfl, rfl, rfl⟩ := cellsEq_bool hc
      have h6 := ex1 hu rfl
      have h7 := ex1 hv rfl
      simp only [Den] at h6 h7
      subst h6 h7
      exact run_equalIn_bool w d t m p hk
    · rename_i fields ht
      split at h
      case h_2 => cases h
      rename_i hp
      have e1 := shaped_agg (by simp [isAggT, ht]) su
      have e2 := shaped_agg (by simp [isAggT, ht]) sv
      subst e1 e2
      have hfo : P.fieldsOf t = fields := by simp [Program.fieldsOf, ht]
      rw [run_equalIn_struct w d t ⟨us⟩ ⟨vs⟩ (by rw [hfo]; exact ht) hp, hfo]
      exact flat_fields (flat_eq P n) (by omega) hu hv _ 0 ks h r (by simpa using hc)
    · rename_i m e ht
      split at h
      case h_2 => cases h
      rename_i ks1 i hgo hinfo
      split at h
      case h_2 => cases h
      rename_i hsz
      injection h with h; subst h
      have e1 := shaped_agg (by simp [isAggT, ht]) su
      have e2 := shaped_agg (by simp [isAggT, ht]) sv
      subst e1 e2
      have hsz := beq_eq hsz
      have hce : P.cellsOf e = ks1.length := by simp [Program.cellsOf, hinfo, hsz]
      rw [run_equalIn_array w d ⟨us⟩ ⟨vs⟩ ht hinfo, hce, List.range_eq_range']
      exact flat_items (flat_eq P n) (by omega) hgo hinfo hsz hu hv m 0 r (by simpa using hc)
    · cases h
/-! ### Keys of maps -/
def CkFlat (P : Program) (n : Nat) : Prop := ∀ (t : TypeId) (ks : List CK), flatT P n t = some ks → ∀ (d : Nat), n ≤ d → ∀ (w : World) (em : Bool) (us : List Value) (u : Value), us.length = ks.length → Shaped P t us u → (Instr.checkKey em d t u).run P w = .ok () w
theorem repK_len (m : Nat) (ks : List CK) : (repK m ks).length = m * ks.length := by
  induction m with
  | zero => simp [repK]
  | succ m ih => simp only [repK, List.length_append, ih, Nat.succ_mul]; omega
theorem flat_ck (P : Program) : ∀ n, CkFlat P n
  | 0 => fun t ks h => by simp [flatT] at h
  | n + 1 => by
    intro t ks h d hd w em us u hl su
    obtain ⟨d, rfl⟩ : ∃ d', d = d' + 1 := ⟨d - 1, by omega⟩
    simp only [flatT] at h
    split at h
    · rename_i k hk
      simp [Instr.checkKey, run_und hk]
    · rename_i hk
      simp [Instr.checkKey, run_und hk]
    · rename_i hk
      simp [Instr.checkKey, run_und hk]
    · rename_i fields ht
      split at h
      case h_2 => cases h
      have e1 := shaped_agg (by simp [isAggT, ht]) su
      subst e1
      rw [Instr.checkKey]
      simp only [Sem.run_bind, run_und ht, Result.andThen_ok]
      rw [← Array.forIn_toList]
      obtain ⟨off, hko⟩ : ∃ off, off + ks.length ≤ us.length ∧ flatFs P (flatT P n) off fields.toList = some ks := ⟨0, by omega, h⟩
      clear h hl su
      generalize fields.toList = L at hko
      induction L generalizing ks off with
      | nil => simp
      | cons f fs ih =>
        obtain ⟨hl, h⟩ := hko
        simp only [flatFs] at h
        split at h
        · cases h
        rename_i hnm
        simp only [Bool.and_eq_true] at hnm
        have hname : f.name ≠ "_" := by simpa using hnm.1
        have hoff := beq_eq hnm.2
        split at h
        case h_2 => cases h
        rename_i ks1 i hgo hinfo
        split at h
        case h_2 => cases h
        rename_i ks2 hsz hks
        injection h with h; subst h
        rw [List.length_append] at hl
        obtain ⟨v, p1, s1⟩ := shaped_part (w := w) hgo hinfo (beq_eq hsz) (us := us) (off := off) (by omega)
        have p2 := flat_ck P n f.type ks1 hgo d (by omega) w em _ v (by rw [List.length_take, List.length_drop]; omega) s1
        rw [← hoff] at p1
        simp only [List.forIn_cons, Sem.run_bind, hname, ne_eq, not_false_eq_true, if_true, Result.andThen_ok, p1, p2, Sem.run_pure]
        exact ih ks2 _ ⟨by omega, hks⟩
    · rename_i m e ht
      split at h
      case h_2 => cases h
      rename_i ks1 i hgo hinfo
      split at h
      case h_2 => cases h
      rename_i hsz
      injection h with h; subst h
      have e1 := shaped_agg (by simp [isAggT, ht]) su
      subst e1
      have hsz := beq_eq hsz
      rw [repK_len] at hl
      rw [Instr.checkKey]
      simp only [Sem.run_bind, run_und ht, Result.andThen_ok]
      simp only [Std.Legacy.Range.forIn_eq_forIn_range', Std.Legacy.Range.size, Nat.sub_zero, Nat.add_one_sub_one, Nat.div_one]
      have each : ∀ j ∈ List.range' 0 m, j < m := fun j hj => by simpa using hj
      generalize List.range' 0 m = is at each
      induction is with
      | nil => simp
      | cons j is ih =>
        have hjm := each j (by simp)
        have : (j + 1) * ks1.length ≤ m * ks1.length := Nat.mul_le_mul_right _ hjm
        rw [Nat.succ_mul] at this
        obtain ⟨v, p1, s1⟩ := shaped_part (w := w) hgo hinfo hsz (us := us) (off := j * ks1.length) (by omega)
        have p2 := flat_ck P n e ks1 hgo d (by omega) w em _ v (by rw [List.length_take, List.length_drop]; omega) s1
        simp only [List.forIn_cons, Sem.run_bind, run_size hinfo, hsz, Result.andThen_ok, p1, p2, Sem.run_pure]
        have ih := ih (fun y hy => each y (by simp [hy]))
        exact ih
    · cases h
end Go.Sx
/- What the engine takes of a program's types is so: asked of the program by the kernel. Conditions: none. -/
set_option linter.unusedVariables false
set_option linter.unusedSimpArgs false
namespace Go.Sx
open Go
/-- A description fits a shape. -/
def shB1 (T : Tab) (t : TypeId) : Sh → TypeDesc → Bool
  | .int k, .int k' => kindEq k k'
  | .bool, .bool => true
  | .str, .string => true
  | .ptr e, .pointer e' => Nat.beq e e'
  | .slice e, .slice e' => Nat.beq e e'
  | .array n e, .array n' e' => Nat.beq n n' && Nat.beq e e' && Nat.beq (T.size t) (n * T.size e) && okSh T e
  | .struct fs, .struct fields => (fields.toList.map fun f => (f.offset, f.type)) == fs && fs.all fun p => okSh T p.2
  | .map k e, .map k' e' => Nat.beq k k' && Nat.beq e e'
  | .iface, .interface _ => true
  | .func, .func _ _ _ => true
  | .plain, .float _ => true
  | .plain, .complex _ => true
  | .plain, .chan _ _ => true
  | .plain, .unsafePointer => true
  | .plain, .tuple _ => true
  | _, _ => false
theorem shM_of {T : Tab} {t : TypeId} {sh : Sh} {d : TypeDesc} (h : shB1 T t sh d = true) : ShM T t sh d := by
  have ok : ∀ {e}, okSh T e = true → T.sh e ≠ .other := fun h e => by simp [okSh, e] at h
  cases sh <;> cases d <;> simp only [shB1, Bool.false_eq_true, Bool.and_eq_true] at h <;> simp only [ShM]
  · rw [kindEq_iff.1 h]
  · rw [beq_eq h]
  · rw [beq_eq h]
  · obtain ⟨⟨⟨h1, h2⟩, h3⟩, h4⟩ := h
    exact ⟨by rw [beq_eq h1, beq_eq h2], beq_eq h3, ok h4⟩
  · obtain ⟨h1, h2⟩ := h
    exact ⟨_, rfl, by simpa using h1, fun p hp => ok (List.all_eq_true.1 h2 p hp)⟩
  · obtain ⟨h1, h2⟩ := h; rw [beq_eq h1, beq_eq h2]
  · exact ⟨_, rfl⟩
  · exact ⟨_, _, _, rfl⟩
/-- A cell of a zero value. -/
def zc1 : SV → Value → Bool
  | .bool a, .bool b => a == b
  | .int k a, .int k' b => kindEq k k' && a == b
  | .str [], .string s => s.data.toList.isEmpty
  | .val (.pointer none), .pointer none => true
  | .val (.slice none 0 0), .slice none 0 0 => true
  | .val (.map none), .map none => true
  | .val (.chan none), .chan none => true
  | .val .nilFunc, .nilFunc => true
  | .val .nilIface, .nilIface => true
  | _, _ => false
def zcs : List SV → List Value → Bool
  | [], [] => true
  | x :: xs, y :: ys => zc1 x y && zcs xs ys
  | _, _ => false
theorem zc1_den {x : SV} {v : Value} (h : zc1 x v = true) : Den [] x v ∧ v.oneCell' = true := by
  unfold zc1 at h
  split at h
  case h_10 => cases h
  · rename_i a b; have : a = b := by simpa using h
    subst this; exact ⟨rfl, rfl⟩
  · simp only [Bool.and_eq_true] at h
    rename_i k a k' b
    have h2 : a = b := by simpa using h.2
    rw [kindEq_iff.1 h.1, h2]; exact ⟨rfl, rfl⟩
  · rename_i s
    have h2 : s.data.toList = [] := by simpa using h
    refine ⟨?_, rfl⟩
    simp only [Den]
    congr 1
    apply ByteArray.ext; apply Array.ext'; simpa using h2
  all_goals exact ⟨⟨rfl, rfl⟩, rfl⟩
theorem zcs_den : ∀ {xs : List SV} {vs : List Value}, zcs xs vs = true → DenL [] xs vs ∧ ∀ u ∈ vs, u.oneCell' = true
  | [], [], _ => by simp [DenL]
  | [], v :: vs, h => by simp [zcs] at h
  | x :: xs, [], h => by simp [zcs] at h
  | x :: xs, v :: vs, h => by
    simp only [zcs, Bool.and_eq_true] at h
    obtain ⟨h1, h2⟩ := zcs_den h.2
    obtain ⟨h3, h4⟩ := zc1_den h.1
    simp only [DenL]
    refine ⟨⟨v, vs, rfl, h3, h1⟩, fun u hu => ?_⟩
    rcases List.mem_cons.1 hu with e | hu
    · rw [e]; exact h4
    · exact h2 u hu
/-- All that is asked, at once; up to type number n. -/
def tie1 (P : Program) (T : Tab) (t : TypeId) : Bool :=
  match okSh T t with
  | false => lenIs (T.zero t) 0 && (match T.flat t with | none => true | some _ => false)
  | true =>
    (match P.underlying t with | some d => shB1 T t (T.sh t) d | none => false) &&
    (match P.info? t with
      | some i => Nat.beq i.size (T.size t) && Nat.beq i.bytes (T.bytes t) &&
        (match T.zero t with
          | [] => true
          | c :: cs => match i.zero with
            | some z => zcs (c :: cs) z.cells.toList && lenIs (c :: cs) (T.size t) && (match ofCells T t (c :: cs) with | some _ => true | none => false) &&
              (match isAggB (T.sh t), z with | true, .agg _ => true | false, .agg _ => false | false, .tuple _ => false | true, _ => false | false, _ => true)
            | none => false)
      | none => false) &&
    (match T.flat t with | none => true | some _ => match P.eqGuardType P.depth t with | true => false | false => true)
def ckEq : CK → CK → Bool
  | .int k, .int k' => kindEq k k'
  | .str, .str => true
  | .bool, .bool => true
  | _, _ => false
def cksEq : List CK → List CK → Bool
  | [], [] => true
  | a :: x, b :: bs => ckEq a b && cksEq x bs
  | _, _ => false
theorem cksEq_iff : ∀ {a b : List CK}, cksEq a b = true → a = b
  | [], [], _ => rfl
  | [], b :: bs, h => by simp [cksEq] at h
  | a :: x, [], h => by simp [cksEq] at h
  | a :: x, b :: bs, h => by
    simp only [cksEq, Bool.and_eq_true] at h
    rw [cksEq_iff h.2]
    have : a = b := by
      have h1 := h.1
      cases a <;> cases b <;> simp [ckEq] at h1 <;> first | rfl | (rw [kindEq_iff.1 h1])
    rw [this]
def flatB (P : Program) (T : Tab) (t : TypeId) : Bool :=
  match T.flat t with
  | none => true
  | some ks => match flatT P 9 t with
    | some ks' => cksEq ks ks' && isAggT P t
    | none => false
/-- The keys of maps. -/
def keyB (P : Program) (T : Tab) (t : TypeId) : Bool :=
  match T.key t with
  | none => true
  | some (b, ks) => match flatT P 9 t with
    | some ks' => cksEq ks ks' && (b == isAggT P t)
    | none => false
theorem key_cells {P : Program} {t : TypeId} {η : Env} {a : SV} {u : Value} {xs : List SV} (h : keyCells (isAggT P t) a = some xs) (hd : Den η a u) : ∃ us, DenL η xs us ∧ Shaped P t us u := by
  cases hb : isAggT P t with
  | true =>
    rw [hb] at h
    cases a with
    | agg cs =>
      simp only [keyCells, Option.some.injEq] at h
      subst h
      simp only [Den] at hd
      obtain ⟨vs, rfl, h1, _⟩ := hd
      exact ⟨vs, h1, by simp [Shaped, hb]⟩
    | _ => simp [keyCells] at h
  | false =>
    rw [hb] at h
    simp only [keyCells, Option.some.injEq] at h
    subst h
    exact ⟨[u], by simp only [DenL]; exact ⟨u, [], rfl, hd, rfl⟩, by simp [Shaped, hb]⟩
theorem keyEq_cells {ks : Bool × List CK} {a b : SV} {r : Bool} (h : keyEq ks a b = some r) : ∃ xs ys, keyCells ks.1 a = some xs ∧ keyCells ks.1 b = some ys ∧ cellsEq ks.2 xs ys = some r := by
  unfold keyEq at h
  split at h
  case h_2 => cases h
  rename_i xs hx
  split at h
  case h_2 => cases h
  rename_i ys hy
  exact ⟨xs, ys, hx, hy, h⟩
theorem key_ok {P : Program} {T : Tab} {t : TypeId} {ks : Bool × List CK} (hk : T.key t = some ks) (h : keyB P T t = true) :
    (∀ (w : World) (η : Env) (em : Bool) (a : SV) (u : Value), keyOK ks a = true → Den η a u → (Instr.checkKey em 10000 t u).run P w = .ok () w) ∧
    (∀ (w : World) (η : Env) (a b : SV) (u v : Value) (r : Bool), keyEq ks a b = some r → Den η a u → Den η b v → (Op.equal t u v).run P w = .ok r w ∧ ∀ d, P.underlying t = some d → Instr.sameNow d u v = none ∨ Instr.sameNow d u v = some r) ∧ (∃ d, P.underlying t = some d) := by
  obtain ⟨b, ks⟩ := ks
  unfold keyB at h
  rw [hk] at h
  simp only at h
  split at h
  case h_2 => cases h
  rename_i ks' hf
  simp only [Bool.and_eq_true, beq_iff_eq] at h
  obtain ⟨h1, h2⟩ := h
  have h1 := cksEq_iff h1
  subst h1 h2
  refine ⟨fun w η em a u ho hd => ?_, fun w η a b u v r he hu hv => ?_, ?_⟩
  · unfold keyOK at ho
    cases he : keyEq (isAggT P t, ks) a a with
    | none => rw [he] at ho; cases ho
    | some r =>
      obtain ⟨xs, ys, hx, hy, hc⟩ := keyEq_cells he
      obtain ⟨us, g1, g2⟩ := key_cells hx hd
      exact flat_ck P 9 t ks hf 10000 (by omega) w em us u (by rw [denL_length g1]; exact (cellsEq_len hc).1) g2
  · obtain ⟨xs, ys, hx, hy, hc⟩ := keyEq_cells he
    obtain ⟨us, g1, g2⟩ := key_cells hx hu
    obtain ⟨vs, g3, g4⟩ := key_cells hy hv
    refine ⟨flat_eq P 9 t ks hf 10000 (by omega) w η xs ys us vs u v r hc g1 g3 g2 g4, fun d hd => ?_⟩
    simp only [flatT] at hf
    have sing : ∀ {ck : CK}, isAggT P t = false → cellsEq [ck] xs ys = some r → xs = [a] ∧ ys = [b] := by
      intro ck ha hc
      rw [ha] at hx hy
      simp only [keyCells, Option.some.injEq] at hx hy
      exact ⟨hx.symm, hy.symm⟩
    split at hf
    · rename_i k hk
      have hag : isAggT P t = false := by simp [isAggT, hk]
      rw [hk] at hd; cases hd
      injection hf with hf; subst hf
      obtain ⟨rfl, rfl⟩ := sing hag hc
      obtain ⟨m, p, rfl, rfl, rfl⟩ := cellsEq_int hc
      simp only [Den] at hu hv
      subst hu hv
      exact .inr (by simp [Instr.sameNow])
    · rename_i hk
      have hag : isAggT P t = false := by simp [isAggT, hk]
      rw [hk] at hd; cases hd
      injection hf with hf; subst hf
      obtain ⟨rfl, rfl⟩ := sing hag hc
      obtain ⟨m, p, rfl, rfl, rfl⟩ := cellsEq_str hc
      simp only [Den] at hu hv
      subst hu hv
      refine .inr ?_
      simp only [Instr.sameNow]
      congr 1
      show (m.toArray == p.toArray) = (m == p)
      simp
    · rename_i hk
      have hag : isAggT P t = false := by simp [isAggT, hk]
      rw [hk] at hd; cases hd
      injection hf with hf; subst hf
      obtain ⟨rfl, rfl⟩ := sing hag hc
      obtain ⟨m, p, rfl, rfl, rfl⟩ := cellsEq_bool hc
      simp only [Den] at hu hv
      subst hu hv
      exact .inr (by simp [Instr.sameNow])
    · rename_i fs hk
      rw [hk] at hd; cases hd
      exact .inl (by simp [Instr.sameNow])
    · rename_i m e hk
      rw [hk] at hd; cases hd
      exact .inl (by simp [Instr.sameNow])
    · cases hf
  · cases hu : P.underlying t with
    | some d => exact ⟨d, rfl⟩
    | none => simp [flatT, hu] at hf
def tieAll (P : Program) (T : Tab) : Nat → Bool
  | 0 => true
  | n + 1 => tie1 P T n && (flatB P T n && keyB P T n) && tieAll P T n
theorem tieAll_at {P : Program} {T : Tab} : ∀ {n t : Nat}, tieAll P T n = true → t < n → tie1 P T t = true ∧ flatB P T t = true ∧ keyB P T t = true
  | 0, t, _, h => by omega
  | n + 1, t, h, ht => by
    simp only [tieAll, Bool.and_eq_true] at h
    by_cases e : t = n
    · subst e; exact ⟨h.1.1, h.1.2.1, h.1.2.2⟩
    · exact tieAll_at h.2 (by omega)
theorem tabOK_of {P : Program} {T : Tab} (n : Nat) (h : tieAll P T n = true) (hout : ∀ t, n ≤ t → T.sh t = .other ∧ T.zero t = [] ∧ T.flat t = none ∧ T.key t = none) : TabOK P T := by
  have at1 : ∀ t, T.sh t ≠ .other → tie1 P T t = true ∧ flatB P T t = true ∧ keyB P T t = true := fun t ht => tieAll_at h (by
    rcases Nat.lt_or_ge t n with hl | hg
    · exact hl
    · exact absurd (hout t hg).1 ht)
  have okt : ∀ {t}, T.sh t ≠ .other → okSh T t = true := by
    intro t ht
    unfold okSh
    split
    · rename_i e; exact absurd e ht
    · rfl
  have split1 : ∀ t, T.sh t ≠ .other → (∃ d, P.underlying t = some d ∧ shB1 T t (T.sh t) d = true) ∧ (∃ i, P.info? t = some i ∧ i.size = T.size t ∧ i.bytes = T.bytes t ∧ ∀ c cs, T.zero t = c :: cs → ∃ z, i.zero = some z ∧ zcs (c :: cs) z.cells.toList = true ∧ (c :: cs).length = T.size t ∧ (ofCells T t (c :: cs)).isSome ∧
      (isAggB (T.sh t) = true → z = .agg z.cells) ∧ (isAggB (T.sh t) = false → z.oneCell' = true)) ∧ (T.flat t ≠ none → P.eqGuardType P.depth t = false) := by
    intro t ht
    obtain ⟨h1, _⟩ := at1 t ht
    unfold tie1 at h1
    rw [okt ht] at h1
    simp only [Bool.and_eq_true] at h1
    obtain ⟨⟨h1, h2⟩, h3⟩ := h1
    refine ⟨?_, ?_, ?_⟩
    · split at h1
      · rename_i d hd; exact ⟨d, hd, h1⟩
      · cases h1
    · split at h2
      case h_2 => cases h2
      rename_i i hi
      simp only [Bool.and_eq_true] at h2
      obtain ⟨⟨h4, h5⟩, h6⟩ := h2
      refine ⟨i, hi, beq_eq h4, beq_eq h5, fun c cs hz => ?_⟩
      rw [hz] at h6
      simp only at h6
      split at h6
      case h_2 => cases h6
      rename_i z hzz
      simp only [Bool.and_eq_true] at h6
      obtain ⟨⟨⟨h7, h8⟩, h9⟩, h10⟩ := h6
      refine ⟨z, hzz, h7, lenIs_iff.1 h8, ?_, ?_, ?_⟩
      · split at h9
        · rename_i e; rw [e]; rfl
        · cases h9
      · intro ha; rw [ha] at h10
        cases z <;> first | rfl | (simp at h10)
      · intro ha; rw [ha] at h10
        cases z <;> first | rfl | (simp at h10)
    · intro hf
      split at h3
      · rename_i e; exact absurd e hf
      · split at h3
        · cases h3
        · rename_i e; exact e
  have zsh : ∀ t, T.zero t ≠ [] → T.sh t ≠ .other := by
    intro t hz e
    rcases Nat.lt_or_ge t n with hl | hg
    · obtain ⟨h1, _⟩ := tieAll_at h hl
      unfold tie1 at h1
      have : okSh T t = false := by simp [okSh, e]
      rw [this] at h1
      simp only [Bool.and_eq_true] at h1
      exact hz (List.length_eq_zero_iff.1 (lenIs_iff.1 h1.1))
    · exact hz (hout t hg).2.1
  have fsh : ∀ t ks, T.flat t = some ks → T.sh t ≠ .other := by
    intro t ks hf e
    rcases Nat.lt_or_ge t n with hl | hg
    · obtain ⟨h1, _⟩ := tieAll_at h hl
      unfold tie1 at h1
      have : okSh T t = false := by simp [okSh, e]
      rw [this, hf] at h1
      simp at h1
    · rw [(hout t hg).2.2.1] at hf; cases hf
  have aggiff : ∀ t, ((∃ fs, T.sh t = .struct fs) ∨ (∃ n e, T.sh t = .array n e)) ↔ isAggB (T.sh t) = true := by
    intro t
    cases T.sh t <;> simp [isAggB]
  refine ⟨?_, ?_, ?_, zsh, ?_, ?_⟩
  · intro t ht
    obtain ⟨d, h1, h2⟩ := (split1 t ht).1
    exact ⟨d, h1, shM_of h2⟩
  · intro t ht
    obtain ⟨i, h1, h2, h3, _⟩ := (split1 t ht).2.1
    exact ⟨i, h1, h2, h3⟩
  · intro t ht hz
    obtain ⟨i, h1, h2, h3, h4⟩ := (split1 t ht).2.1
    cases hzz : T.zero t with
    | nil => exact absurd hzz hz
    | cons c cs =>
      obtain ⟨z, h5, h6, h7, h8, h9, h10⟩ := h4 c cs hzz
      obtain ⟨h11, h12⟩ := zcs_den h6
      exact ⟨i, z, h1, h5, h11, h12, h7, h8, fun ha => h9 ((aggiff t).1 ha), fun ha => h10 (by
        cases hb : isAggB (T.sh t)
        · rfl
        · exact absurd ((aggiff t).2 hb) ha)⟩
  · intro t ks hf
    have hs := fsh t ks hf
    refine ⟨(split1 t hs).2.2 (by rw [hf]; simp), ?_⟩
    have hfb := (at1 t hs).2.1
    unfold flatB at hfb
    rw [hf] at hfb
    simp only at hfb
    split at hfb
    case h_2 => cases hfb
    rename_i ks' hk
    simp only [Bool.and_eq_true] at hfb
    rw [cksEq_iff hfb.1]
    intro w η xs ys us vs r hc hu hv
    exact flat_eq P 9 t ks' hk 10000 (by omega) w η xs ys us vs _ _ r hc hu hv (by simp [Shaped, hfb.2]) (by simp [Shaped, hfb.2])
  · intro t ks hk
    refine key_ok hk ?_
    rcases Nat.lt_or_ge t n with hl | hg
    · exact (tieAll_at h hl).2.2
    · rw [(hout t hg).2.2.2] at hk; cases hk
end Go.Sx
/- Regions whose order is drawn: one order serves every order, where quiet operations are taken as soon as they may be and nothing that writes comes before a reading. Conditions: none. -/
set_option linter.unusedVariables false
namespace Go.Sx
open Go
section
variable {F : Fence} {P : Program} {ops : Array Oper} {Q : Exit → Act → World → Prop} {md : Region.Mode}
/-- Whatever order is picked from here on; and S holds behind every operation, of what has come up and of the world. -/
def wpH (F : Fence) (P : Program) (md : Region.Mode) (ops : Array Oper) (Q : Exit → Act → World → Prop) (S : Array Bool → World → Prop) : Nat → Array Bool → Act → World → Prop
  | 0, l, a, w => Region.ready md ops l = [] ∧ Q .normal a w
  | n + 1, l, a, w => (Region.ready md ops l = [] → Q .normal a w) ∧
    ∀ i ∈ Region.ready md ops l, wpOpIn F 0 P ops Q i (fun a' w' => S (l.setIfInBounds i true) w' ∧ wpH F P md ops Q S n (l.setIfInBounds i true) a' w') a w
theorem wpAny_of_wpH {S : Array Bool → World → Prop} : ∀ (n : Nat) (l : Array Bool) (a : Act) (w : World), wpH F P md ops Q S n l a w → wpAnyIn F 0 P md ops Q n l a w
  | 0, _, _, _, h => h
  | n + 1, _, _, _, h => ⟨h.1, fun i hi => wpOpIn_mono (fun a' w' h' => wpAny_of_wpH n _ a' w' h'.2) (h.2 i hi)⟩
/-- What has come up stays. -/
def Grows (l l' : Array Bool) : Prop := ∀ i, l.getD i false = true → l'.getD i false = true
theorem Grows.set {l l' : Array Bool} (h : Grows l l') (i : Nat) : Grows l (l'.setIfInBounds i true) := fun j hj => getD_set_true (h j hj)
theorem wpH_mono {S S' : Array Bool → World → Prop} {l0 : Array Bool} (hS : ∀ l w, Grows l0 l → S' l w → S l w) : ∀ (n : Nat) (l : Array Bool) (a : Act) (w : World), Grows l0 l → wpH F P md ops Q S' n l a w → wpH F P md ops Q S n l a w
  | 0, _, _, _, _, h => h
  | n + 1, l, a, w, hg, h => ⟨h.1, fun i hi => wpOpIn_mono (fun a' w' h' => ⟨hS _ _ (hg.set i) h'.1, wpH_mono hS n _ a' w' (hg.set i) h'.2⟩) (h.2 i hi)⟩
/-- What has come up has come up behind all that it waits for. -/
def Closed (md : Region.Mode) (ops : Array Oper) (l : Array Bool) : Prop :=
  l.size = ops.size ∧ ∀ j o, ops[j]? = some o → l.getD j false = true → ∀ e ∈ o.after, Region.binds md e = true → l.getD e.on false = true
theorem Closed.set {l : Array Bool} {i : Nat} (h : Closed md ops l) (hi : i ∈ Region.ready md ops l) : Closed md ops (l.setIfInBounds i true) := by
  obtain ⟨_, o, ho, hall⟩ := mem_ready.1 hi
  refine ⟨by simp [h.1], fun j o' hj hl e he hb => ?_⟩
  by_cases hij : i = j
  · subst hij
    rw [ho] at hj; injection hj with hj; subst hj
    exact getD_set_true (hall e he hb)
  · rw [getD_set_ne false hij] at hl
    exact getD_set_true (h.2 j o' hj hl e he hb)
theorem semAt_put {ro : Option Nat} (o : Oper) (hsel : ∀ cs b, o.op ≠ .select cs b) (a : Act) (dst : Option Tmp) (v : Value) (h : ∀ d, dst = some d → d ∉ o.looksAt ops) : o.semAt ro (a.put dst v).eval = o.semAt ro a.eval := by
  have h1 := execOp_put o hsel a dst v h
  unfold Oper.semAt
  split
  · rename_i l c hc
    have e := resolve_congr (ρ := (a.put dst v).eval) (ρ' := a.eval) c o.type (fun x hx => Act.eval_put fun d hd hxd => h d hd (by
      subst hxd
      exact List.mem_append_left _ (List.mem_filterMap.2 ⟨.tmp d, by rw [hc]; simpa [Op.operands] using hx, rfl⟩)))
    rw [e]
  · exact h1
/-- In this state, in every world that N holds of, the operation leaves this value and does nothing else. -/
def YieldsN (P : Program) (ops : Array Oper) (N : World → Prop) (o : Oper) (v : Value) (a : Act) : Prop :=
  (Region.wanted o (yielded ops a.tmps) = true ∧ ∀ w, N w → (execOp a.eval o).run P w = .ok (.value v) w ∨ ((execOp a.eval o).run P w = .ok .skip w ∧ v = undef)) ∨
  (Region.wanted o (yielded ops a.tmps) = false ∧ v = undef)
theorem YieldsN.wpOp (hF : ∀ f, F.fn f) {N : World → Prop} {i : Nat} {o : Oper} {v : Value} {a : Act} (hi : ops[i]? = some o) (hy : YieldsN P ops N o v a) {K : Act → World → Prop} {w : World} (hN : N w) (h : K (a.put o.dst v) w) : wpOpIn F 0 P ops Q i K a w := by
  unfold Go.wpOpIn
  simp only [hi]
  rcases hy with ⟨hw, hv⟩ | ⟨hw, rfl⟩
  · rw [if_pos hw]
    have hnd : ∀ c, o.op ≠ .defer c := by
      intro c hc
      have key : ∀ (n : Next) (w' : World), (∀ d, n ≠ .defer d) → (execOp a.eval o).run P w ≠ .ok n w' := by
        intro n w' hn he
        simp only [execOp, hc, Sem.run_bind] at he
        cases hr : (resolve a.eval c o.type).run P w with
        | ok d w1 =>
          rw [hr] at he
          simp only [Result.andThen, Sem.run_pure] at he
          injection he with he _
          exact hn d he.symm
        | halt x w1 => rw [hr] at he; simp only [Result.andThen] at he; cases he
      rcases hv w hN with e | ⟨e, _⟩
      · exact key _ _ (fun d e => by cases e) e
      · exact key _ _ (fun d e => by cases e) e
    refine ⟨fun f _ => hF f, ?_⟩
    rw [Oper.semAt_eq _ _ _ hnd]
    rcases hv w hN with e | ⟨e, rfl⟩ <;> rw [e] <;> exact h
  · rw [if_neg (by rw [hw]; simp)]
    exact ⟨fun f _ => hF f, h⟩
/-- Another operation, apart from it: neither minds whether the other has come up. -/
theorem wpOp_apart (hF : ∀ f, F.fn f) {N : World → Prop} {j : Nat} {oi oj : Oper} {v : Value} (hj : ops[j]? = some oj) (hap : oi.apart ops oj = true)
    (hs : ∀ (j : Nat) (o : Oper) cs b, ops[j]? = some o → o.op ≠ .select cs b) {i : Nat} (hi : ops[i]? = some oi)
    (hQ : ∀ c a w, Q (.panic c) (a.put oi.dst v) w → Q (.panic c) a w) {K : Act → World → Prop} {a : Act} {w : World}
    (hy : YieldsN P ops N oi v a) (h : wpOpIn F 0 P ops Q j K (a.put oi.dst v) w) :
    wpOpIn F 0 P ops Q j (fun a' w' => YieldsN P ops N oi v a' ∧ K (a'.put oi.dst v) w') a w := by
  obtain ⟨h1, h2, h3⟩ := Oper.apart_spec hap
  have same : ∀ (a : Act), YieldsN P ops N oi v a → ∀ u, YieldsN P ops N oi v (a.put oj.dst u) := by
    intro a hy u
    unfold YieldsN at *
    rw [execOp_put oi (fun cs b => hs i oi cs b hi) a oj.dst u h3, wanted_put oi a oj.dst u h3]
    exact hy
  have sameD : ∀ d, YieldsN P ops N oi v { a with defers := d :: a.defers } := fun d => hy
  have run := semAt_put (ro := F.round) oj (fun cs b => hs j oj cs b hj) a oi.dst v h1
  have want := wanted_put oj a oi.dst v h1
  unfold Go.wpOpIn at h ⊢
  simp only [hj] at h ⊢
  rw [want] at h
  by_cases hw : Region.wanted oj (yielded ops a.tmps) = true
  · rw [if_pos hw] at h ⊢
    refine ⟨fun f _ => hF f, ?_⟩
    have h := h.2
    rw [run] at h
    revert h
    generalize (oj.semAt F.round a.eval).run P w = r
    intro h
    rcases r with ⟨n, w'⟩ | ⟨x, w'⟩
    · cases n with
      | value u => exact ⟨same a hy u, by rw [← Act.put_comm a v u h2]; exact h⟩
      | skip => exact ⟨same a hy undef, by rw [← Act.put_comm a v undef h2]; exact h⟩
      | defer d =>
        refine ⟨same _ (sameD d) undef, ?_⟩
        rw [← Act.put_comm _ v undef h2, ← Act.put_defers]
        exact h
      | enter f args =>
        simp only [Oper.uponIn] at h ⊢
        refine ⟨h.1, CallsIn.mono h.2 fun e w'' he => ?_⟩
        cases e with
        | returned u => exact ⟨same a hy u, by rw [← Act.put_comm a v u h2]; exact he⟩
        | panicked c => exact hQ _ _ _ he
        | outgrown => exact he
      | row row args =>
        simp only [Oper.uponIn] at h ⊢
        exact ⟨h.1, RowsIn.mono h.2 fun u w'' he => ⟨same a hy u, by rw [← Act.put_comm a v u h2]; exact he⟩⟩
      | round l f tmps assign body =>
        simp only [Oper.uponIn] at h ⊢
        refine ⟨h.1, RoundIn.mono h.2 fun e w'' he => ?_⟩
        cases e with
        | returned u => exact ⟨same a hy u, by rw [← Act.put_comm a v u h2]; exact he⟩
        | panicked c => exact hQ _ _ _ he
        | outgrown => exact he
      | _ => exact h
    · cases x with
      | panic u => exact hQ _ _ _ h
      | _ => exact h
  · rw [if_neg hw] at h ⊢
    exact ⟨fun f _ => hF f, same a hy undef, by rw [← Act.put_comm a v undef h2]; exact h.2⟩
/-- A quiet operation that may come up may be taken first. -/
theorem wpH_first (hF : ∀ f, F.fn f) {S : Array Bool → World → Prop} {N : World → Prop} {i : Nat} {oi : Oper} {v : Value} (hi : ops[i]? = some oi)
    (hs : ∀ (j : Nat) (o : Oper) cs b, ops[j]? = some o → o.op ≠ .select cs b) (hQ : ∀ c a w, Q (.panic c) (a.put oi.dst v) w → Q (.panic c) a w)
    (hN : ∀ l w, Closed md ops l → l.getD i true = false → S l w → N w)
    (hSi : ∀ l w, Closed md ops l → l.getD i true = false → i ∈ Region.ready md ops l → S (l.setIfInBounds i true) w → S l w) :
    ∀ (n : Nat) (l : Array Bool) (a : Act) (w : World), Closed md ops l →
      (∀ j oj, ops[j]? = some oj → j ≠ i → l.getD j true = false → (∀ e ∈ oj.after, Region.binds md e = true → e.on ≠ i) → oi.apart ops oj = true) →
      i ∈ Region.ready md ops l → YieldsN P ops N oi v a → S l w → S (l.setIfInBounds i true) w →
      wpH F P md ops Q S n (l.setIfInBounds i true) (a.put oi.dst v) w → wpH F P md ops Q S (n + 1) l a w := by
  intro n
  induction n with
  | zero =>
    intro l a w hc _ hr hy hS hS' H
    have hun := (mem_ready.1 hr).1
    refine ⟨fun h => (by rw [h] at hr; cases hr), fun j hj => ?_⟩
    by_cases hji : j = i
    · subst hji; exact hy.wpOp hF hi (hN l w hc hun hS) ⟨hS', H⟩
    · have := ready_mono hj hji
      rw [H.1] at this; cases this
  | succ n ih =>
    intro l a w hc hfree hr hy hS hS' H
    have hun := (mem_ready.1 hr).1
    refine ⟨fun h => (by rw [h] at hr; cases hr), fun j hj => ?_⟩
    by_cases hji : j = i
    · subst hji; exact hy.wpOp hF hi (hN l w hc hun hS) ⟨hS', H⟩
    · have h1 := H.2 j (ready_mono hj hji)
      obtain ⟨hjun, oj, hoj, hall⟩ := mem_ready.1 hj
      have hnot : ∀ e ∈ oj.after, Region.binds md e = true → e.on ≠ i := by
        intro e he hb heq
        have h1 := hall e he hb
        rw [heq] at h1
        rcases Nat.lt_or_ge i l.size with h' | h'
        · simp [h'] at hun h1; rw [hun] at h1; cases h1
        · simp [Array.getElem?_eq_none h'] at hun
      have h2 := wpOp_apart hF (N := N) hoj (hfree j oj hoj hji hjun hnot) hs hi hQ hy h1
      have hc' := hc.set hj
      have hr' := ready_mono hr (Ne.symm hji)
      have hun' := (mem_ready.1 hr').1
      refine wpOpIn_mono (fun a' w' h3 => ?_) h2
      obtain ⟨hy', hS3, H3⟩ := h3
      rw [Array.setIfInBounds_comm _ _ (Ne.symm hji)] at hS3 H3
      have hSj := hSi _ _ hc' hun' hr' hS3
      refine ⟨hSj, ih _ a' w' hc' (fun k ok hk hki hku hno => ?_) hr' hy' hSj hS3 H3⟩
      refine hfree k ok hk hki ?_ hno
      by_cases hjk : j = k
      · subst hjk; exact hjun
      · rw [getD_set_ne true hjk] at hku; exact hku
/-- Where but one may come up. -/
theorem wpH_one {S : Array Bool → World → Prop} {i n : Nat} {l : Array Bool} {a : Act} {w : World} (hr : Region.ready md ops l = [i])
    (h : wpOpIn F 0 P ops Q i (fun a' w' => S (l.setIfInBounds i true) w' ∧ wpH F P md ops Q S n (l.setIfInBounds i true) a' w') a w) : wpH F P md ops Q S (n + 1) l a w :=
  ⟨fun h0 => (by rw [hr] at h0; cases h0), fun j hj => by rw [hr] at hj; rw [List.mem_singleton.1 hj]; exact h⟩
end
end Go.Sx
/- Regions whose order is drawn, walked in one order by the engine. Conditions: none. -/
set_option linter.unusedVariables false
set_option linter.unusedSimpArgs false
namespace Go.Sx
open Go

/-! ### Values that a reading settles -/
def Det (v : SV) : Prop := ∀ η u u', Den η v u → Den η v u' → u = u'
def DetL (vs : List SV) : Prop := ∀ η us us', DenL η vs us → DenL η vs us' → us = us'
mutual
def detV : SV → Bool
  | .bool _ | .int _ _ | .str _ | .ptr _ _ _ _ | .val _ | .mp _ | .yf _ => true
  | .dfs _ => false
  | .sl _ r _ _ _ => Nat.beq r 0
  | .agg cs => detVL cs
  | .tup vs => detVL vs
  | .ifc _ v => detV v
  | .fn _ a b => detVL a && detVL b
  | .arr _ _ => false
  | .any => false
  | .nb _ => false
def detVL : List SV → Bool
  | [] => true
  | c :: cs => detV c && detVL cs
end
mutual
theorem Det.of : ∀ {v : SV}, detV v = true → Det v
  | .bool _, _ => fun η u u' h h' => by simp only [Den] at h h'; rw [h, h']
  | .int _ _, _ => fun η u u' h h' => by simp only [Den] at h h'; rw [h, h']
  | .str _, _ => fun η u u' h h' => by simp only [Den] at h h'; rw [h, h']
  | .val _, _ => fun η u u' h h' => by simp only [Den] at h h'; rw [h.1, h'.1]
  | .mp b, _ => fun η u u' h h' => by
    simp only [Den] at h h'
    obtain ⟨e, h1, rfl⟩ := h
    obtain ⟨e', h2, rfl⟩ := h'
    rw [h1] at h2; injection h2 with h2; injection h2 with h2; rw [h2]
  | .ptr b r es c, _ => fun η u u' h h' => by
    simp only [Den] at h h'
    obtain ⟨e, h1, rfl⟩ := h
    obtain ⟨e', h2, rfl⟩ := h'
    rw [h1] at h2; injection h2 with h2; injection h2 with h2; rw [h2]
  | .sl b r es len lim, hd => fun η u u' h h' => by
    simp only [detV] at hd
    have hd := beq_eq hd
    simp only [Den] at h h'
    rcases h with ⟨h1, rfl, _⟩ | ⟨e, o, h1, rfl, _, _, h2⟩
    · rcases h' with ⟨h1', rfl, _⟩ | ⟨e', o', h1', rfl, _, _, h2'⟩
      · rfl
      · rw [h1] at h1'; cases h1'
    · rcases h' with ⟨h1', rfl, _⟩ | ⟨e', o', h1', rfl, _, _, h2'⟩
      · rw [h1] at h1'; cases h1'
      · rw [h1] at h1'; injection h1' with h1'; injection h1' with h1'; subst h1'
        rw [h2 (.inr hd), h2' (.inr hd)]
  | .agg cs, hd => fun η u u' h h' => by
    simp only [detV] at hd
    simp only [Den] at h h'
    obtain ⟨us, rfl, h1, _⟩ := h
    obtain ⟨us', rfl, h2, _⟩ := h'
    rw [DetL.of hd η us us' h1 h2]
  | .tup cs, hd => fun η u u' h h' => by
    simp only [detV] at hd
    simp only [Den] at h h'
    obtain ⟨us, rfl, h1⟩ := h
    obtain ⟨us', rfl, h2⟩ := h'
    rw [DetL.of hd η us us' h1 h2]
  | .ifc t v, hd => fun η u u' h h' => by
    simp only [detV] at hd
    simp only [Den] at h h'
    obtain ⟨us, rfl, h1⟩ := h
    obtain ⟨us', rfl, h2⟩ := h'
    rw [Det.of hd η us us' h1 h2]
  | .fn f a b, hd => fun η u u' h h' => by
    simp only [detV, Bool.and_eq_true] at hd
    simp only [Den] at h h'
    obtain ⟨us, vs, rfl, h1, h3⟩ := h
    obtain ⟨us', vs', rfl, h2, h4⟩ := h'
    rw [DetL.of hd.1 η us us' h1 h2, DetL.of hd.2 η vs vs' h3 h4]
  | .arr _ _, hd => by simp [detV] at hd
  | .any, hd => by simp [detV] at hd
  | .nb _, hd => by simp [detV] at hd
  | .dfs _, hd => by simp [detV] at hd
  | .yf b, _ => fun η u u' h h' => by
    simp only [Den] at h h'
    obtain ⟨e, h1, rfl⟩ := h
    obtain ⟨e', h2, rfl⟩ := h'
    rw [h1] at h2; injection h2 with h2; injection h2 with h2; rw [h2]
theorem DetL.of : ∀ {vs : List SV}, detVL vs = true → DetL vs
  | [], _ => fun η us us' h h' => by simp only [DenL] at h h'; rw [h, h']
  | c :: cs, hd => fun η us us' h h' => by
    simp only [detVL, Bool.and_eq_true] at hd
    simp only [DenL] at h h'
    obtain ⟨u, r, rfl, h1, h2⟩ := h
    obtain ⟨u', r', rfl, h1', h2'⟩ := h'
    rw [Det.of hd.1 η u u' h1 h1', DetL.of hd.2 η r r' h2 h2']
end

/-! ### The walk -/
def sharedOf : Hps → List (Blk × Hp)
  | [] => []
  | (i, h) :: r => (.loc i, h) :: sharedOf r
/-- All that is known, only to be looked at. -/
def cxRead (C : Cx) (O : Hps) : Cx := ⟨C.T, C.N, sharedOf O ++ C.S, C.ro⟩
def cxBlind (C : Cx) : Cx := ⟨{ C.T with globs := [], gplain := rfl }, C.N, [], C.ro⟩
def shMx (M : Mx) (O : Hps) (η : Env) (w : World) : Mx := ⟨M.P, cxRead M.C O, w, fun _ => False, η⟩
def blMx (M : Mx) (η : Env) (w : World) : Mx := ⟨M.P, cxBlind M.C, w, fun _ => False, η⟩
def settled : SV → Prop → Prop
  | .bool _, K | .int _ _, K | .str _, K | .ptr _ _ _ _, K | .val _, K => K
  | .agg cs, K => match detVL cs with | true => K | false => NEED (Det (.agg cs)) K
  | .tup cs, K => match detVL cs with | true => K | false => NEED (Det (.tup cs)) K
  | v, K => NEED (Det v) K
def stepQ (N : Nat) (C : Cx) (o : Oper) (fr : Fr) (nx : Nat) (K : SV → Prop) : Prop :=
  match dstOk N o.dst with
  | false => STOP "slot"
  | true => match o.op with
    | .move x => match lookF fr x with | some v => K v | none => STOP "operand"
    | .assign x => match lookF fr x with | some v => K v | none => STOP "operand"
    | op => match stores op with
      | true => STOP "writes"
      | false => (opR C (lookF fr) [] nx op).gv fun v => settled v (K v)
/-- An operation that adds to what is known and changes nothing of it. -/
structure ADD (M : Mx) (o : Oper) (fr : Fr) (O : Hps) (nx : Nat) (K : SV → Hps → Nat → Prop) : Prop where
  out : ∀ η w, stepO (shMx M O η w) o (lookF fr) [] nx fun v O2 nx => K v (O2 ++ O) nx
def carry (M : Mx) (m : Nat) (o : Oper) (fr : Fr) (O : Hps) (nx : Nat) (K : SV → Hps → Nat → Prop) : Prop :=
  match m with
  | 0 => stepO M o (lookF fr) O nx K
  | 1 => stepQ M.C.N (cxBlind M.C) o fr nx fun v => K v O nx
  | 2 => stepQ M.C.N (cxRead M.C O) o fr nx fun v => K v O nx
  | _ => ADD M o fr O nx K
/-- Operations in a given order, each with its mode: 0 as ever, 1 from its operands alone, 2 reading, 3 adding; where two may come up and neither is quiet, both ways. -/
inductive Plan where
  | nil
  | take (i m : Nat) (t : Plan)
  | fork (i mi j mj : Nat) (a b : Plan)
  | fork3 (i mi j mj k mk : Nat) (a b c : Plan)
def planOf : List (Nat × Nat) → Plan
  | [] => .nil
  | (i, m) :: r => .take i m (planOf r)
def Plan.depth : Plan → Nat
  | .nil => 0
  | .take _ _ t => t.depth + 1
  | .fork _ _ _ _ a _ => a.depth + 1
  | .fork3 _ _ _ _ _ _ a _ _ => a.depth + 1
structure FORK (A B : Prop) : Prop where
  a : A
  b : B
/-- One operation of such a region, if it is wanted. -/
def oneD (M : Mx) (ops : List Oper) (i m : Nat) (fr : Fr) (O : Hps) (nx : Nat) (K : Fr → Hps → Nat → Prop) : Prop :=
  match nth ops i with
  | none => STOP "order"
  | some o => match o.guard with
    | none => carry M m o fr O nx fun v O nx => putK o.dst v fr fun fr => K fr O nx
    | some (j, want) =>
      match slotOf ops j with
      | none => STOP "guard"
      | some s => match lkp s fr with
        | some (.bool b) => IF b
          (fun J => match want with
           | true => carry M m o ((s, .bool true) :: fr) O nx fun v O nx => putK o.dst v ((s, .bool true) :: fr) fun fr => J fr O nx
           | false => match dstOk M.C.N o.dst with | true => putK o.dst undefS ((s, .bool true) :: fr) fun fr => J fr O nx | false => STOP "slot")
          (fun J => match want with
           | false => carry M m o ((s, .bool false) :: fr) O nx fun v O nx => putK o.dst v ((s, .bool false) :: fr) fun fr => J fr O nx
           | true => match dstOk M.C.N o.dst with | true => putK o.dst undefS ((s, .bool false) :: fr) fun fr => J fr O nx | false => STOP "slot")
          K
        | some (.tup []) => match dstOk M.C.N o.dst with | true => putK o.dst undefS fr fun fr => K fr O nx | false => STOP "slot"
        | _ => STOP "guard"
def runD (M : Mx) (ops : List Oper) : Plan → Fr → Hps → Nat → (Fr → Hps → Nat → Prop) → Prop
  | .nil, fr, O, nx, K => K fr O nx
  | .take i m rest, fr, O, nx, K => oneD M ops i m fr O nx fun fr O nx => runD M ops rest fr O nx K
  | .fork i mi j mj a b, fr, O, nx, K => FORK (oneD M ops i mi fr O nx fun fr O nx => runD M ops a fr O nx K) (oneD M ops j mj fr O nx fun fr O nx => runD M ops b fr O nx K)
  | .fork3 i mi j mj k mk a b c, fr, O, nx, K => FORK (oneD M ops i mi fr O nx fun fr O nx => runD M ops a fr O nx K) (FORK (oneD M ops j mj fr O nx fun fr O nx => runD M ops b fr O nx K) (oneD M ops k mk fr O nx fun fr O nx => runD M ops c fr O nx K))

/-! ### The order -/
def afterMask (acc : List Nat) (o : Oper) : Nat := o.after.foldl (fun s e => if Region.binds .any e then s ||| 2 ^ e.on ||| acc.getD e.on 0 else s) 0
def masks : List Oper → List Nat → List Nat
  | [], acc => acc
  | o :: r, acc => masks r (acc ++ [afterMask acc o])
def killIf (i : Nat) : Nat → List Nat → List Nat
  | 0, l => i :: l
  | _, l => l
def modeOK (m : Nat) : Bool := m == 0 || m == 3
def killsOf : Plan → List Nat
  | .nil => []
  | .take i 0 t => i :: killsOf t
  | .take _ _ t => killsOf t
  | .fork i mi j mj a b => killIf i mi (killIf j mj (killsOf a ++ killsOf b))
  | .fork3 i mi j mj k mk a b c => killIf i mi (killIf j mj (killIf k mk (killsOf a ++ (killsOf b ++ killsOf c))))
def stepsOK (ops : Array Oper) (ms : List Nat) : Plan → Array Bool → Bool
  | .nil, l => (Region.ready .any ops l).isEmpty
  | .take i m rest, l =>
    (match m with
     | 0 => Region.ready .any ops l == [i]
     | 1 => (Region.ready .any ops l).contains i && Region.free .any ops l i && (killsOf rest).all (fun k => k != i)
     | 2 => (Region.ready .any ops l).contains i && Region.free .any ops l i && (killsOf rest).all (fun k => k != i && (ms.getD k 0).testBit i)
     | _ => Region.ready .any ops l == [i]) &&
    stepsOK ops ms rest (l.setIfInBounds i true)
  | .fork i mi j mj a b, l => Region.ready .any ops l == [i, j] && modeOK mi && modeOK mj && a.depth == b.depth && stepsOK ops ms a (l.setIfInBounds i true) && stepsOK ops ms b (l.setIfInBounds j true)
  | .fork3 i mi j mj k mk a b c, l => Region.ready .any ops l == [i, j, k] && modeOK mi && modeOK mj && modeOK mk && a.depth == b.depth && a.depth == c.depth && stepsOK ops ms a (l.setIfInBounds i true) && stepsOK ops ms b (l.setIfInBounds j true) && stepsOK ops ms c (l.setIfInBounds k true)
def orderOK (ops : Array Oper) (steps : Plan) : Bool :=
  Region.noSelect ops && steps.depth == ops.size && stepsOK ops (masks ops.toList []) steps (Array.replicate ops.size false)
end Go.Sx
/- Regions whose order is drawn: the walk in one order is sound for every order. Conditions: none. -/
set_option linter.unusedVariables false
set_option linter.unusedSimpArgs false
namespace Go.Sx
open Go

/-! ### What an operation waits for -/
theorem masks_spec : ∀ (os : List Oper) (acc : List Nat), (masks os acc).take acc.length = acc ∧ ∀ j o, os[j]? = some o → (masks os acc)[acc.length + j]? = some (afterMask ((masks os acc).take (acc.length + j)) o)
  | [], acc => ⟨by simp [masks], fun j o h => by simp at h⟩
  | o :: os, acc => by
    simp only [masks]
    obtain ⟨h1, h2⟩ := masks_spec os (acc ++ [afterMask acc o])
    simp only [List.length_append, List.length_singleton] at h1 h2
    have h0 : (masks os (acc ++ [afterMask acc o])).take acc.length = acc := by
      have := congrArg (List.take acc.length) h1
      rw [List.take_take] at this
      simpa using this
    refine ⟨h0, fun j o' hj => ?_⟩
    cases j with
    | zero =>
      simp at hj; subst hj
      rw [Nat.add_zero, h0]
      have := congrArg (fun l : List Nat => l[acc.length]?) h1
      simpa [List.getElem?_take] using this
    | succ j =>
      have := h2 j o' (by simpa using hj)
      rw [show acc.length + (j + 1) = acc.length + 1 + j by omega]
      exact this
theorem afterMask_spec {acc : List Nat} {o : Oper} {i : Nat} (h : (afterMask acc o).testBit i = true) : ∃ e ∈ o.after, Region.binds .any e = true ∧ (e.on = i ∨ (acc.getD e.on 0).testBit i = true) := by
  unfold afterMask at h
  rw [← Array.foldl_toList] at h
  have key : ∀ (es : List Edge) (s : Nat), (es.foldl (fun s e => if Region.binds .any e then s ||| 2 ^ e.on ||| acc.getD e.on 0 else s) s).testBit i = true →
      s.testBit i = true ∨ ∃ e ∈ es, Region.binds .any e = true ∧ (e.on = i ∨ (acc.getD e.on 0).testBit i = true) := by
    intro es
    induction es with
    | nil => intro s h; exact .inl h
    | cons e es ih =>
      intro s h
      simp only [List.foldl_cons] at h
      rcases ih _ h with h | ⟨e', he', h⟩
      · split at h
        · rename_i hb
          simp only [Nat.testBit_or, Bool.or_eq_true] at h
          rcases h with (h | h) | h
          · exact .inl h
          · refine .inr ⟨e, List.mem_cons_self .., hb, .inl ?_⟩
            rw [Nat.testBit_two_pow] at h
            simpa using h
          · exact .inr ⟨e, List.mem_cons_self .., hb, .inr h⟩
        · exact .inl h
      · exact .inr ⟨e', List.mem_cons_of_mem _ he', h⟩
  rcases key _ _ h with h | ⟨e, he, h⟩
  · simp at h
  · exact ⟨e, by simpa using he, h⟩
theorem waits_closed {ops : Array Oper} {l : Array Bool} (hc : Closed .any ops l) {i : Nat} : ∀ (k : Nat), ((masks ops.toList []).getD k 0).testBit i = true → l.getD k false = true → l.getD i false = true := by
  intro k
  induction k using Nat.strongRecOn with
  | _ k ih =>
    intro h hk
    cases hg : (masks ops.toList [])[k]? with
    | none => rw [List.getD_eq_getElem?_getD, hg] at h; simp at h
    | some m =>
      have hlt : k < ops.size := by
        rcases Nat.lt_or_ge k ops.size with h' | h'
        · exact h'
        · rw [← hc.1] at h'
          simp [Array.getElem?_eq_none h'] at hk
      have ho : ops[k]? = some ops[k] := Array.getElem?_eq_getElem hlt
      have hm := (masks_spec ops.toList []).2 k ops[k] (by simp)
      simp only [List.length_nil, Nat.zero_add] at hm
      rw [List.getD_eq_getElem?_getD, hm, Option.getD_some] at h
      obtain ⟨e, he, hb, h⟩ := afterMask_spec h
      have hon := hc.2 k _ ho hk e he hb
      rcases h with rfl | h
      · exact hon
      · rw [List.getD_eq_getElem?_getD, List.getElem?_take] at h
        split at h
        · rename_i hlt'
          exact ih e.on hlt' (by rw [List.getD_eq_getElem?_getD]; exact h) hon
        · simp at h

/-! ### Worlds that agree -/
def agree (w w' : World) : Prop := ∀ k, k < w.heap.size → w'.heap[k]? = w.heap[k]?
theorem agree.refl (w : World) : agree w w := fun _ _ => rfl
theorem agree.trans {a b c : World} (h : agree a b) (k : agree b c) : agree a c := fun n hn => by
  have h1 := h n hn
  have hlt : n < b.heap.size := by
    rw [Array.getElem?_eq_getElem hn] at h1
    exact (Array.getElem?_eq_some_iff.1 h1).1
  rw [k n hlt, h1]
section
variable {M : Mx} {η : Env} {w : World} {O : Hps} {nx : Nat}
theorem lkpB_shared {C : Cx} : ∀ {O : Hps} {j : Nat}, lkpB (.loc j) (sharedOf O ++ C.S) = hLook C O (.loc j)
  | [], j => by simp [sharedOf, hLook, lkp]
  | (i, h) :: r, j => by
    have ih := lkpB_shared (C := C) (O := r) (j := j)
    simp only [sharedOf, List.cons_append, lkpB, blkEq, hLook, lkp]
    cases e : Nat.beq j i
    · simp only [e]; rw [ih]; rfl
    · simp only [e]
theorem lkS_shared {C : Cx} {O : Hps} {b : Blk} : lkS (cxRead C O) b = hLook C O b := by
  cases b with
  | glob g => rfl
  | loc j => exact lkpB_shared
theorem HeapOK.read (H : HeapOK M η w O nx) {w' : World} (hag : agree w w') : HeapOK (shMx M O η w') η w' [] nx := by
  refine ⟨List.prefix_rfl, H.len, ⟨fun i h hi => by simp [lkp] at hi, fun i j h h' n hi => by simp [lkp] at hi⟩, FrW.refl _ _, fun b h hb => ?_⟩
  have hb' : hLook M.C O b = some h := by rw [← lkS_shared]; exact hb
  have hsat := H.look hb'
  have hag' : ∀ k, feet η w b h k → w'.heap[k]? = w.heap[k]? := fun k f => hag _ (hsat.feet_lt f)
  have hs' := hsat.keep hag'
  exact ⟨hs', fun k f => ⟨hs'.feet_lt f, fun h => h⟩⟩
theorem HeapOK.blind (hl : η.length = nx) (w : World) : HeapOK (blMx M η w) η w [] nx :=
  ⟨List.prefix_rfl, hl, ⟨fun i h hi => by simp [lkp] at hi, fun i j h h' n hi => by simp [lkp] at hi⟩, FrW.refl _ _, fun b h hb => by cases b <;> simp [blMx, cxBlind, lkS, lkpB, lkp] at hb⟩
theorem HeapOK.join (H : HeapOK M η w O nx) {η' : Env} {w' : World} {O2 : Hps} {nx2 : Nat} (H2 : HeapOK (shMx M O η w) η' w' O2 nx2) : HeapOK M η' w' (O2 ++ O) nx2 ∧ agree w w' := by
  have hag : agree w w' := fun k hk => H2.fr.block k hk (fun h => h)
  have hp : η <+: η' := H2.pre
  have old : ∀ {i : Nat} {h : Hp}, lkp i O = some h → HpSat η' w' true (.loc i) h ∧ ∀ k, feet η' w' (.loc i) h k → feet η w (.loc i) h k ∧ k < w.heap.size := by
    intro i h hi
    obtain ⟨hsat, hF⟩ := H.own.1 i h hi
    have hk : ∀ k, feet η w (.loc i) h k → w'.heap[k]? = w.heap[k]? := fun k f => hag _ (hsat.feet_lt f)
    refine ⟨(hsat.keep (w' := w') hk).mono hp, fun k f => ?_⟩
    have f' := H.stands hp hi hk f
    exact ⟨f', hsat.feet_lt f'⟩
  refine ⟨⟨H.pre.trans hp, H2.len, ⟨fun i h hi => ?_, fun i j h h' k hi hj hij f f' => ?_⟩, H.fr.trans H2.fr (fun n hn => hn.elim), H.sok⟩, hag⟩
  · rcases lkp_append hi with hi | ⟨_, hi⟩
    · obtain ⟨h1, h2⟩ := H2.own.1 i h hi
      refine ⟨h1, fun k f => .inr ?_⟩
      rcases h2 k f with h3 | h3
      · exact h3.elim
      · exact Nat.le_trans H.fr.size h3
    · obtain ⟨h1, h2⟩ := old hi
      exact ⟨h1, fun k f => (H.own.1 i h hi).2 k (h2 k f).1⟩
  · rcases lkp_append hi with hi | ⟨_, hi⟩
    · rcases lkp_append hj with hj | ⟨_, hj⟩
      · exact H2.own.2 i j h h' k hi hj hij f f'
      · have h1 := ((old hj).2 k f').2
        rcases (H2.own.1 i h hi).2 k f with h3 | h3
        · exact h3.elim
        · have h3 : w.heap.size ≤ k := h3
          omega
    · rcases lkp_append hj with hj | ⟨_, hj⟩
      · have h1 := ((old hi).2 k f).2
        rcases (H2.own.1 j h' hj).2 k f' with h3 | h3
        · exact h3.elim
        · have h3 : w.heap.size ≤ k := h3
          omega
      · exact H.own.2 i j h h' k hi hj hij ((old hi).2 k f).1 ((old hj).2 k f').1

/-! ### Quiet operations -/
theorem settled_iff {v : SV} {K : Prop} (h : settled v K) : Det v ∧ K := by
  cases v with
  | agg cs =>
    simp only [settled] at h
    split at h
    · rename_i e; exact ⟨Det.of (by simpa only [detV] using e), h⟩
    · exact ⟨h.p, h.k⟩
  | tup cs =>
    simp only [settled] at h
    split at h
    · rename_i e; exact ⟨Det.of (by simpa only [detV] using e), h⟩
    · exact ⟨h.p, h.k⟩
  | _ => first | exact ⟨h.p, h.k⟩ | exact ⟨Det.of rfl, h⟩
theorem stepQ_yields {P : Program} {C' : Cx} (hT : TabOK P C'.T) {N : World → Prop} {o : Oper} {a : Act} {fr : Fr} {nx N0 : Nat} {K : SV → Prop} (hf : FrOK η a fr)
    (hN : ∀ w', N w' → HeapOK ⟨P, C', w', fun _ => False, η⟩ η w' [] nx) (hw : N w) (h : stepQ N0 C' o fr nx K) :
    dstOk N0 o.dst = true ∧ ∃ u v, (∀ w', N w' → (execOp a.eval o).run P w' = .ok (.value u) w' ∨ ((execOp a.eval o).run P w' = .ok .skip w' ∧ u = undef)) ∧ Den η v u ∧ K v := by
  unfold stepQ at h
  split at h
  · exact h.out.elim
  rename_i hd
  refine ⟨hd, ?_⟩
  split at h
  · rename_i x ho
    split at h
    case h_2 => exact h.out.elim
    rename_i v hv
    exact ⟨a.eval x, v, fun w' _ => .inl (by simp [execOp, ho]), lookF_den hf hv, h⟩
  · rename_i x ho
    split at h
    case h_2 => exact h.out.elim
    rename_i v hv
    exact ⟨a.eval x, v, fun w' _ => .inl (by simp [execOp, ho]), lookF_den hf hv, h⟩
  · split at h
    · exact h.out.elim
    rename_i hst
    obtain ⟨v, hok, h⟩ := Res.gv_ok h
    obtain ⟨hdet, h⟩ := settled_iff h
    have one : ∀ w', N w' → ∃ u, ((execOp a.eval o).run P w' = .ok (.value u) w' ∨ ((execOp a.eval o).run P w' = .ok .skip w' ∧ u = undef)) ∧ Den η v u := by
      intro w' hw'
      have H := hN w' hw'
      obtain ⟨u, w'', η'', h1, h2, h3, h4, h5⟩ := op_sound (M := ⟨P, C', w', fun _ => False, η⟩) (w := w') (ρ := a.eval) ⟨H, hT, fun x sv hx => lookF_den hf hx⟩ o (hok [] nx)
      have he : η'' = η := (h2.eq_of_length (by rw [H.len, h3.len])).symm
      subst he
      have hww := h5 hst rfl
      subst hww
      exact ⟨u, h1, h4⟩
    obtain ⟨u, h1, h2⟩ := one w hw
    refine ⟨u, v, fun w' hw' => ?_, h2, h⟩
    obtain ⟨u', h3, h4⟩ := one w' hw'
    rw [hdet η u u' h2 h4]
    exact h3
end
end Go.Sx
/- Regions whose order is drawn: the walk in one order is sound for every order. Conditions: none. -/
set_option linter.unusedVariables false
set_option linter.unusedSimpArgs false
namespace Go.Sx
open Go
/-- Until one of these has come up, what stood in that world stands. -/
def SS (ks : List Nat) (wc : World) (l : Array Bool) (w : World) : Prop := (∀ k ∈ ks, l.getD k false = false) → agree wc w
section
variable {M : Mx} {ops : Array Oper} {Q : Exit → Act → World → Prop}
theorem killsOf_quiet {i m : Nat} {rest : Plan} (h : m ≠ 0) : killsOf (.take i m rest) = killsOf rest := by
  cases m with
  | zero => exact (h rfl).elim
  | succ m => rfl
theorem killsOf_kill {i : Nat} {rest : Plan} : killsOf (.take i 0 rest) = i :: killsOf rest := rfl
theorem getD_false_of_true {l : Array Bool} {i : Nat} (h : l.getD i true = false) : l.getD i false = false := by
  rcases Nat.lt_or_ge i l.size with h' | h'
  · simp [h'] at h ⊢; exact h
  · simp [Array.getElem?_eq_none h'] at h
theorem models_put {η : Env} {fr : Fr} {O : Hps} {nx : Nat} {a : Act} {w : World} (hm : Models M η fr O nx a w) {o : Oper} (hd : dstOk M.C.N o.dst = true) {u : Value} {v : SV} (hv : Den η v u) {Kp : Fr → Prop} (hk : putK o.dst v fr Kp) :
    ∃ fr', Kp fr' ∧ Models M η fr' O nx (a.put o.dst u) w := hm.put hd List.prefix_rfl hm.heap hv hk
/-- A quiet operation, taken first. -/
theorem quiet_first (hQ : ∀ c a w, ¬ Q (.panic c) a w) (hs : Region.noSelect ops = true) {i n : Nat} {o : Oper} {l : Array Bool} {ks : List Nat} (ho : ops[i]? = some o) (hready : i ∈ Region.ready .any ops l) (hfree : Region.free .any ops l i = true) (hne : ∀ k ∈ ks, k ≠ i) (hc : Closed .any ops l)
    {N : World → Prop} {wc : World} (hN : ∀ l w, Closed .any ops l → l.getD i true = false → SS ks wc l w → N w) {a : Act} {w : World} {u : Value} (hy : YieldsN M.P ops N o u a) (hag : agree wc w)
    (h : wpH M.fence M.P .any ops Q (SS ks wc) n (l.setIfInBounds i true) (a.put o.dst u) w) : wpH M.fence M.P .any ops Q (SS ks wc) (n + 1) l a w := by
  refine wpH_first M.all ho (Region.noSelect_spec hs) (fun c a w hq => (hQ _ _ _ hq).elim) hN (fun l' w' hc' hun hr hS hk => hS fun k hk' => ?_) n l a w hc (Region.free_spec ho hfree) hready hy (fun _ => hag) (fun _ => hag) h
  rw [getD_set_ne false (Ne.symm (hne k hk'))]; exact hk k hk'
theorem HeapOK.drawn {η : Env} {w : World} {O : Hps} {nx : Nat} (H : HeapOK M η w O nx) {n : Nat} (hn : w.drawn ≤ n) : HeapOK M η { w with drawn := n } O nx :=
  ⟨H.pre, H.len, H.own.still rfl, ⟨H.fr.os, H.fr.tape, H.fr.output, Nat.le_trans H.fr.drawn hn, H.fr.size, H.fr.block⟩, H.sok⟩
theorem modeOK_of {m : Nat} (h : modeOK m = true) : m = 0 ∨ m = 3 := by
  unfold modeOK at h
  simpa using h
theorem killIf_mem {i m : Nat} {l : List Nat} {x : Nat} (h : x ∈ l) : x ∈ killIf i m l := by
  cases m with
  | zero => exact List.mem_cons_of_mem _ h
  | succ m => exact h
theorem killIf_self {i : Nat} {l : List Nat} : i ∈ killIf i 0 l := List.mem_cons_self ..
/-- One operation, in a mode that may write or in one that adds: whatever comes of it. -/
theorem oneD_op (hT : TabOK M.P M.C.T) {i m : Nat} (hmode : m = 0 ∨ m = 3) {fr : Fr} {O : Hps} {nx : Nat} {Kn : Fr → Hps → Nat → Prop} (h : oneD M ops.toList i m fr O nx Kn) {η : Env} {a : Act} {w : World} (hm : Models M η fr O nx a w) {R : Act → World → Prop}
    (hR : ∀ {fr : Fr} {O : Hps} {nx : Nat} {η : Env} {a : Act} {w' : World}, Kn fr O nx → Models M η fr O nx a w' → (m = 3 → agree w w') → R a w') : wpOpIn M.fence 0 M.P ops Q i R a w := by
  unfold oneD at h
  split at h
  · exact h.out.elim
  rename_i o ho
  have ho : ops[i]? = some o := by rw [nth_get] at ho; simpa using ho
  have skip : ∀ {fr' : Fr}, Models M η fr' O nx a w → Region.wanted o (yielded ops a.tmps) ≠ true → (match dstOk M.C.N o.dst with | true => putK o.dst undefS fr' fun fr => Kn fr O nx | false => STOP "slot") → wpOpIn M.fence 0 M.P ops Q i R a w := by
    intro fr' hm' hw h
    split at h
    case h_2 => exact h.out.elim
    rename_i hd
    obtain ⟨fr2, h1, h2⟩ := models_put hm' hd (denNone η) h
    unfold wpOpIn
    simp only [ho]
    rw [if_neg hw]; exact ⟨fun f _ => M.all f, hR h1 h2 fun _ => agree.refl w⟩
  have go : ∀ {fr' : Fr}, Models M η fr' O nx a w → Region.wanted o (yielded ops a.tmps) = true → (carry M m o fr' O nx fun v O nx => putK o.dst v fr' fun fr => Kn fr O nx) → wpOpIn M.fence 0 M.P ops Q i R a w := by
    intro fr' hm' hw h
    unfold wpOpIn
    simp only [ho]
    rw [if_pos hw]
    rcases hmode with rfl | rfl
    · have h : stepO M o (lookF fr') O nx fun v O nx => putK o.dst v fr' fun fr => Kn fr O nx := h
      refine (stepO_wp hT hm' (fun x sv hx => lookF_den hm'.frame hx) h fun u v O' nx' η' w' hd hp hH hv hk => ?_)
      obtain ⟨fr2, h1, h2⟩ := hm'.put hd hp hH hv hk
      exact hR h1 h2 fun h => by cases h
    · have h : ADD M o fr' O nx fun v O nx => putK o.dst v fr' fun fr => Kn fr O nx := h
      have hm2 : Models (shMx M O η w) η fr' [] nx a w := ⟨hm'.heap.read (agree.refl w), hm'.size, hm'.nds, hm'.defers, hm'.ro, hm'.frame⟩
      refine (stepO_wp (M := shMx M O η w) hT hm2 (fun x sv hx => lookF_den hm'.frame hx) (h.out η w) fun u v O2 nx2 η' w' hd hp hH hv hk => ?_)
      obtain ⟨hJ, hag2⟩ := hm'.heap.join hH
      obtain ⟨fr2, h1, h2⟩ := hm'.put hd hp hJ hv hk
      exact hR h1 h2 fun _ => hag2
  split at h
  · rename_i hg
    exact go hm (wanted_none hg) h
  · rename_i j want hg
    split at h
    · exact h.out.elim
    rename_i s hsl
    split at h
    · rename_i b hb
      have hbv := denBool (hm.frame s _ hb)
      have hy := yielded_of hsl hbv
      cases b with
      | true =>
        have h := h.t rfl
        have hm' : Models M η ((s, .bool true) :: fr) O nx a w := hm.know hb rfl rfl hbv
        cases want with
        | true => exact go hm' ((wanted_some hg).2 hy) h
        | false => exact skip hm' (fun hw => by rw [wanted_some hg, hy] at hw; cases hw) h
      | false =>
        have h := h.f rfl
        have hm' : Models M η ((s, .bool false) :: fr) O nx a w := hm.know hb rfl rfl hbv
        cases want with
        | false => exact go hm' ((wanted_some hg).2 hy) h
        | true => exact skip hm' (fun hw => by rw [wanted_some hg, hy] at hw; cases hw) h
    · rename_i hb
      have hbv := hm.frame s _ hb
      simp only [Den, DenL] at hbv
      obtain ⟨vs, hbv, rfl⟩ := hbv
      exact skip hm (fun hw => by rw [wanted_some hg] at hw; exact yielded_not hsl (by rw [hbv]; simp) hw) h
    · exact h.out.elim
/-- One arm of a fork. -/
theorem arm (hT : TabOK M.P M.C.T) {fk t : Plan} {d : Nat} {fr : Fr} {O : Hps} {nx : Nat} {K : Fr → Hps → Nat → Prop} {η : Env} {a : Act} {w wc : World} {l : Array Bool} (hm : Models M η fr O nx a w) (hag : agree wc w) (hc : Closed .any ops l)
    {x m : Nat} (hmo : modeOK m = true) (hx : x ∈ Region.ready .any ops l) (hxk : m = 0 → x ∈ killsOf fk) (hsub : ∀ k ∈ killsOf t, k ∈ killsOf fk) (hd : t.depth = d)
    (ih : ∀ {fr : Fr} {O : Hps} {nx : Nat} {η : Env} {a : Act} {w wc : World}, runD M ops.toList t fr O nx K → Models M η fr O nx a w → agree wc w → wpH M.fence M.P .any ops Q (SS (killsOf t) wc) t.depth (l.setIfInBounds x true) a w)
    (hrun : oneD M ops.toList x m fr O nx fun fr O nx => runD M ops.toList t fr O nx K) :
    wpOpIn M.fence 0 M.P ops Q x (fun a' w' => SS (killsOf fk) wc (l.setIfInBounds x true) w' ∧ wpH M.fence M.P .any ops Q (SS (killsOf fk) wc) d (l.setIfInBounds x true) a' w') a w := by
  have hin : x < l.size := by
    obtain ⟨h1, o, ho, _⟩ := mem_ready.1 hx
    rw [hc.1]; exact (Array.getElem?_eq_some_iff.1 ho).1
  have hset : (l.setIfInBounds x true).getD x false = true := by simp [hin]
  refine oneD_op hT (modeOK_of hmo) hrun hm fun {fr O nx η a w'} hk hm' hag' => ?_
  rcases modeOK_of hmo with h0 | h3
  · have hno : ∀ l' w', Grows (l.setIfInBounds x true) l' → SS (killsOf fk) wc l' w' := by
      intro l' w' hg hk
      have h1 := hk x (hxk h0)
      rw [hg x hset] at h1; cases h1
    refine ⟨hno _ _ (fun _ h => h), ?_⟩
    have := ih hk hm' (agree.refl _)
    rw [hd] at this
    exact wpH_mono (l0 := l.setIfInBounds x true) (fun l' w' hg _ => hno l' w' hg) _ _ _ _ (fun _ h => h) this
  · have hag2 : agree wc w' := hag.trans (hag' h3)
    refine ⟨fun _ => hag2, ?_⟩
    have := ih hk hm' hag2
    rw [hd] at this
    exact wpH_mono (l0 := l.setIfInBounds x true) (fun l' w'' hg hS hk => hS fun k hkt => hk k (hsub k hkt)) _ _ _ _ (fun _ h => h) this
theorem runD_sound (hT : TabOK M.P M.C.T) (hQ : ∀ c a w, ¬ Q (.panic c) a w) (hs : Region.noSelect ops = true) : ∀ (steps : Plan) {fr : Fr} {O : Hps} {nx : Nat} {K : Fr → Hps → Nat → Prop}, runD M ops.toList steps fr O nx K →
    ∀ {l : Array Bool}, stepsOK ops (masks ops.toList []) steps l = true → Closed .any ops l → ∀ {η : Env} {a : Act} {w : World}, Models M η fr O nx a w → (∀ η fr O nx a w, Models M η fr O nx a w → K fr O nx → Q .normal a w) →
    ∀ {wc : World}, agree wc w → wpH M.fence M.P .any ops Q (SS (killsOf steps) wc) steps.depth l a w
  | .nil, fr, O, nx, K, h, l, hl, hc, η, a, w, hm, hq, wc, hag => by
    simp only [stepsOK, List.isEmpty_iff] at hl
    exact ⟨hl, hq η fr O nx a w hm h⟩
  | .take i m rest, fr, O, nx, K, h, l, hl, hc, η, a, w, hm, hq, wc, hag => by
    have IH := @runD_sound hT hQ hs rest
    unfold runD oneD at h
    split at h
    · exact h.out.elim
    rename_i o ho
    have ho : ops[i]? = some o := by rw [nth_get] at ho; simpa using ho
    simp only [stepsOK, Bool.and_eq_true] at hl
    obtain ⟨hl1, hl2⟩ := hl
    have hready : i ∈ Region.ready .any ops l := by
      revert hl1
      split <;> intro hl1
      · rw [beq_iff_eq.1 hl1]; exact List.mem_singleton.2 rfl
      · simp only [Bool.and_eq_true] at hl1; simpa using hl1.1.1
      · simp only [Bool.and_eq_true] at hl1; simpa using hl1.1.1
      · rw [beq_iff_eq.1 hl1]; exact List.mem_singleton.2 rfl
    have hc' := hc.set hready
    have hin : i < l.size := by rw [hc.1]; exact (Array.getElem?_eq_some_iff.1 ho).1
    have hset : (l.setIfInBounds i true).getD i false = true := by simp [hin]
    have modes : ∀ {p : Prop}, (m = 0 → p) → (m = 1 → p) → (m = 2 → p) → (3 ≤ m → p) → p := by
      intro p h0 h1 h2 h3
      match m, h0, h1, h2, h3 with
      | 0, h0, _, _, _ => exact h0 rfl
      | 1, _, h1, _, _ => exact h1 rfl
      | 2, _, _, h2, _ => exact h2 rfl
      | m + 3, _, _, _, h3 => exact h3 (by omega)
    -- an operation that waits for nobody's leave: but this one may come up
    have alone : Region.ready .any ops l = [i] → ∀ {a : Act} {w : World}, agree wc w → wpOpIn M.fence 0 M.P ops Q i (fun a' w' => SS (killsOf (.take i m rest)) wc (l.setIfInBounds i true) w' ∧ wpH M.fence M.P .any ops Q (SS (killsOf (.take i m rest)) wc) rest.depth (l.setIfInBounds i true) a' w') a w →
        wpH M.fence M.P .any ops Q (SS (killsOf (.take i m rest)) wc) (Plan.take i m rest).depth l a w := fun hr a w hag h => wpH_one hr h
    -- what follows an operation that writes
    have afterKill : m = 0 → ∀ {fr : Fr} {O : Hps} {nx : Nat} {η : Env} {a : Act} {w : World}, runD M ops.toList rest fr O nx K → Models M η fr O nx a w →
        SS (killsOf (.take i m rest)) wc (l.setIfInBounds i true) w ∧ wpH M.fence M.P .any ops Q (SS (killsOf (.take i m rest)) wc) rest.depth (l.setIfInBounds i true) a w := by
      intro h0 fr O nx η a w hrun hm
      subst h0
      rw [killsOf_kill]
      have hno : ∀ l' w', Grows (l.setIfInBounds i true) l' → SS (i :: killsOf rest) wc l' w' := by
        intro l' w' hg hk
        have h1 := hk i (List.mem_cons_self ..)
        rw [hg i hset] at h1; cases h1
      exact ⟨hno _ _ (fun _ h => h), wpH_mono (l0 := l.setIfInBounds i true) (fun l' w' hg _ => hno l' w' hg) _ _ _ _ (fun _ h => h) (IH hrun hl2 hc' hm hq (agree.refl w))⟩
    -- what follows one that does not
    have afterElse : m ≠ 0 → ∀ {fr : Fr} {O : Hps} {nx : Nat} {η : Env} {a : Act} {w : World}, runD M ops.toList rest fr O nx K → Models M η fr O nx a w → agree wc w →
        SS (killsOf (.take i m rest)) wc (l.setIfInBounds i true) w ∧ wpH M.fence M.P .any ops Q (SS (killsOf (.take i m rest)) wc) rest.depth (l.setIfInBounds i true) a w := by
      intro h0 fr O nx η a w hrun hm hag
      rw [killsOf_quiet h0]
      exact ⟨fun _ => hag, IH hrun hl2 hc' hm hq hag⟩
    have quiet1 : m = 1 → Region.free .any ops l i = true ∧ ∀ k ∈ killsOf rest, k ≠ i := by
      intro h1; subst h1
      simp only [Bool.and_eq_true, List.all_eq_true, bne_iff_ne] at hl1
      exact ⟨hl1.1.2, hl1.2⟩
    have quiet2 : m = 2 → Region.free .any ops l i = true ∧ ∀ k ∈ killsOf rest, k ≠ i ∧ ((masks ops.toList []).getD k 0).testBit i = true := by
      intro h1; subst h1
      simp only [Bool.and_eq_true, List.all_eq_true, bne_iff_ne] at hl1
      exact ⟨hl1.1.2, hl1.2⟩
    have alone0 : m = 0 → Region.ready .any ops l = [i] := by intro h1; subst h1; exact beq_iff_eq.1 hl1
    have alone3 : 3 ≤ m → Region.ready .any ops l = [i] := by
      intro h1
      match m, h1, hl1 with
      | m + 3, _, hl1 => exact beq_iff_eq.1 hl1
    -- it is passed over
    have skip : ∀ {fr' : Fr}, Models M η fr' O nx a w → Region.wanted o (yielded ops a.tmps) ≠ true → (match dstOk M.C.N o.dst with | true => putK o.dst undefS fr' fun fr => runD M ops.toList rest fr O nx K | false => STOP "slot") →
        wpH M.fence M.P .any ops Q (SS (killsOf (.take i m rest)) wc) (Plan.take i m rest).depth l a w := by
      intro fr' hm' hw h
      split at h
      case h_2 => exact h.out.elim
      rename_i hd
      obtain ⟨fr2, h1, h2⟩ := models_put hm' hd (denNone η) h
      have hwf : Region.wanted o (yielded ops a.tmps) = false := by simpa using hw
      have op : ∀ {K' : Act → World → Prop}, K' (a.put o.dst undef) w → wpOpIn M.fence 0 M.P ops Q i K' a w := by
        intro K' hk
        unfold wpOpIn
        simp only [ho]
        rw [if_neg hw]; exact ⟨fun f _ => M.all f, hk⟩
      refine modes (fun h0 => alone (alone0 h0) hag (op (afterKill h0 h1 h2))) (fun h0 => ?_) (fun h0 => ?_) (fun h0 => alone (alone3 h0) hag (op (afterElse (by omega) h1 h2 hag)))
      · have hn : m ≠ 0 := by omega
        have := (afterElse hn h1 h2 hag).2
        rw [killsOf_quiet hn] at this ⊢
        exact quiet_first hQ hs ho hready (quiet1 h0).1 (quiet1 h0).2 hc (N := fun _ => True) (fun _ _ _ _ _ => trivial) (.inr ⟨hwf, rfl⟩) hag this
      · have hn : m ≠ 0 := by omega
        have := (afterElse hn h1 h2 hag).2
        rw [killsOf_quiet hn] at this ⊢
        exact quiet_first hQ hs ho hready (quiet2 h0).1 (fun k hk => ((quiet2 h0).2 k hk).1) hc (N := fun _ => True) (fun _ _ _ _ _ => trivial) (.inr ⟨hwf, rfl⟩) hag this
    -- it is carried out
    have go : ∀ {fr' : Fr}, Models M η fr' O nx a w → Region.wanted o (yielded ops a.tmps) = true → (carry M m o fr' O nx fun v O nx => putK o.dst v fr' fun fr => runD M ops.toList rest fr O nx K) →
        wpH M.fence M.P .any ops Q (SS (killsOf (.take i m rest)) wc) (Plan.take i m rest).depth l a w := by
      intro fr' hm' hw h
      have op : ∀ {K' : Act → World → Prop}, o.wpIn M.fence 0 M.P a w K' Q → wpOpIn M.fence 0 M.P ops Q i K' a w := by
        intro K' hk
        unfold wpOpIn
        simp only [ho]
        rw [if_pos hw]; exact hk
      refine modes (fun h0 => ?_) (fun h0 => ?_) (fun h0 => ?_) (fun h0 => ?_)
      · have h : stepO M o (lookF fr') O nx fun v O nx => putK o.dst v fr' fun fr => runD M ops.toList rest fr O nx K := by subst h0; exact h
        refine alone (alone0 h0) hag (op (stepO_wp hT hm' (fun x sv hx => lookF_den hm'.frame hx) h fun u v O' nx' η' w' hd hp hH hv hk => ?_))
        obtain ⟨fr2, h1, h2⟩ := hm'.put hd hp hH hv hk
        exact afterKill h0 h1 h2
      · have h : stepQ M.C.N (cxBlind M.C) o fr' nx fun v => putK o.dst v fr' fun fr => runD M ops.toList rest fr O nx K := by subst h0; exact h
        obtain ⟨hd, u, v, hy, hv, hk⟩ := stepQ_yields (P := M.P) (C' := cxBlind M.C) ⟨hT.und, hT.info, hT.zero, hT.zsh, hT.flat, hT.key⟩ (N := fun _ => True) (w := w) hm'.frame (fun w' _ => HeapOK.blind (M := M) hm'.heap.len w') trivial h
        obtain ⟨fr2, h1, h2⟩ := models_put hm' hd hv hk
        have hn : m ≠ 0 := by omega
        have := (afterElse hn h1 h2 hag).2
        rw [killsOf_quiet hn] at this ⊢
        exact quiet_first hQ hs ho hready (quiet1 h0).1 (quiet1 h0).2 hc (N := fun _ => True) (fun _ _ _ _ _ => trivial) (.inl ⟨hw, fun w' h => hy w' h⟩) hag this
      · have h : stepQ M.C.N (cxRead M.C O) o fr' nx fun v => putK o.dst v fr' fun fr => runD M ops.toList rest fr O nx K := by subst h0; exact h
        obtain ⟨hd, u, v, hy, hv, hk⟩ := stepQ_yields (P := M.P) (C' := cxRead M.C O) hT (N := agree w) hm'.frame (fun w' h => hm'.heap.read h) (agree.refl w) h
        obtain ⟨fr2, h1, h2⟩ := models_put hm' hd hv hk
        have hn : m ≠ 0 := by omega
        have := IH h1 hl2 hc' h2 hq (agree.refl w)
        rw [killsOf_quiet hn]
        refine wpH_mono (S' := SS (killsOf rest) w) (l0 := l) (fun l' w' _ hS hk => hag.trans (hS hk)) _ _ _ _ (fun _ h => h) ?_
        refine quiet_first hQ hs ho hready (quiet2 h0).1 (fun k hk => ((quiet2 h0).2 k hk).1) hc (N := agree w) (fun l' w' hcl hun hS => hS fun k hk => ?_) (.inl ⟨hw, fun w' h => hy w' h⟩) (agree.refl w) this
        cases hlk : l'.getD k false with
        | false => rfl
        | true =>
          have := waits_closed hcl k ((quiet2 h0).2 k hk).2 hlk
          rw [getD_false_of_true hun] at this; cases this
      · have h : ADD M o fr' O nx fun v O nx => putK o.dst v fr' fun fr => runD M ops.toList rest fr O nx K := by
          match m, h0, h with
          | m + 3, _, h => exact h
        have hm2 : Models (shMx M O η w) η fr' [] nx a w := ⟨hm'.heap.read (agree.refl w), hm'.size, hm'.nds, hm'.defers, hm'.ro, hm'.frame⟩
        refine alone (alone3 h0) hag (op (stepO_wp (M := shMx M O η w) hT hm2 (fun x sv hx => lookF_den hm'.frame hx) (h.out η w) fun u v O2 nx2 η' w' hd hp hH hv hk => ?_))
        obtain ⟨hJ, hag2⟩ := hm'.heap.join hH
        obtain ⟨fr2, h1, h2⟩ := hm'.put hd hp hJ hv hk
        exact afterElse (by omega) h1 h2 (hag.trans hag2)
    split at h
    · rename_i hg
      exact go hm (wanted_none hg) h
    · rename_i j want hg
      split at h
      · exact h.out.elim
      rename_i s hsl
      split at h
      · rename_i b hb
        have hbv := denBool (hm.frame s _ hb)
        have hy := yielded_of hsl hbv
        cases b with
        | true =>
          have h := h.t rfl
          have hm' : Models M η ((s, .bool true) :: fr) O nx a w := hm.know hb rfl rfl hbv
          cases want with
          | true => exact go hm' ((wanted_some hg).2 hy) h
          | false => exact skip hm' (fun hw => by rw [wanted_some hg, hy] at hw; cases hw) h
        | false =>
          have h := h.f rfl
          have hm' : Models M η ((s, .bool false) :: fr) O nx a w := hm.know hb rfl rfl hbv
          cases want with
          | false => exact go hm' ((wanted_some hg).2 hy) h
          | true => exact skip hm' (fun hw => by rw [wanted_some hg, hy] at hw; cases hw) h
      · rename_i hb
        have hbv := hm.frame s _ hb
        simp only [Den, DenL] at hbv
        obtain ⟨vs, hbv, rfl⟩ := hbv
        exact skip hm (fun hw => by rw [wanted_some hg] at hw; exact yielded_not hsl (by rw [hbv]; simp) hw) h
      · exact h.out.elim
  | .fork i mi j mj p q, fr, O, nx, K, h, l, hl, hc, η, a, w, hm, hq, wc, hag => by
    simp only [stepsOK, Bool.and_eq_true, beq_iff_eq] at hl
    obtain ⟨⟨⟨⟨⟨hr, hmi⟩, hmj⟩, hdep⟩, hlp⟩, hlq⟩ := hl
    unfold runD at h
    have hi : i ∈ Region.ready .any ops l := by rw [hr]; simp
    have hj : j ∈ Region.ready .any ops l := by rw [hr]; simp
    refine ⟨fun h0 => (by rw [hr] at h0; cases h0), fun x hx => ?_⟩
    rw [hr] at hx
    rcases List.mem_cons.1 hx with rfl | hx
    · exact arm hT hm hag hc hmi hi (fun h0 => by subst h0; exact killIf_self) (fun k hk => killIf_mem (killIf_mem (List.mem_append_left _ hk))) rfl (fun hk hm' hag => runD_sound hT hQ hs p hk hlp (hc.set hi) hm' hq hag) h.a
    · have hx := List.mem_singleton.1 hx
      subst hx
      exact arm hT hm hag hc hmj hj (fun h0 => by subst h0; exact killIf_mem killIf_self) (fun k hk => killIf_mem (killIf_mem (List.mem_append_right _ hk))) hdep.symm (fun hk hm' hag => runD_sound hT hQ hs q hk hlq (hc.set hj) hm' hq hag) h.b
  | .fork3 i mi j mj k mk p q r, fr, O, nx, K, h, l, hl, hc, η, a, w, hm, hq, wc, hag => by
    simp only [stepsOK, Bool.and_eq_true, beq_iff_eq] at hl
    obtain ⟨⟨⟨⟨⟨⟨⟨⟨hr, hmi⟩, hmj⟩, hmk⟩, hdep⟩, hdep2⟩, hlp⟩, hlq⟩, hlr⟩ := hl
    unfold runD at h
    have hi : i ∈ Region.ready .any ops l := by rw [hr]; simp
    have hj : j ∈ Region.ready .any ops l := by rw [hr]; simp
    have hk' : k ∈ Region.ready .any ops l := by rw [hr]; simp
    refine ⟨fun h0 => (by rw [hr] at h0; cases h0), fun x hx => ?_⟩
    rw [hr] at hx
    rcases List.mem_cons.1 hx with rfl | hx
    · exact arm hT hm hag hc hmi hi (fun h0 => by subst h0; exact killIf_self) (fun k hk => killIf_mem (killIf_mem (killIf_mem (List.mem_append_left _ hk)))) rfl (fun hk hm' hag => runD_sound hT hQ hs p hk hlp (hc.set hi) hm' hq hag) h.a
    · rcases List.mem_cons.1 hx with rfl | hx
      · exact arm hT hm hag hc hmj hj (fun h0 => by subst h0; exact killIf_mem killIf_self) (fun k hk => killIf_mem (killIf_mem (killIf_mem (List.mem_append_right _ (List.mem_append_left _ hk))))) hdep.symm (fun hk hm' hag => runD_sound hT hQ hs q hk hlq (hc.set hj) hm' hq hag) h.b.a
      · have hx := List.mem_singleton.1 hx
        subst hx
        exact arm hT hm hag hc hmk hk' (fun h0 => by subst h0; exact killIf_mem (killIf_mem killIf_self)) (fun k hk => killIf_mem (killIf_mem (killIf_mem (List.mem_append_right _ (List.mem_append_right _ hk))))) hdep2.symm (fun hk hm' hag => runD_sound hT hQ hs r hk hlr (hc.set hk') hm' hq hag) h.b.b
/-- A region whose order is drawn: it is walked in one order. -/
theorem DRAWN.of {M : Mx} (hT : TabOK M.P M.C.T) (hP : M.P.follows .mixedOrders = true) {id : Nat} {ops : Array Oper} {fr : Fr} {O : Hps} {nx : Nat} {Q : Post} (steps : Plan) (hord : orderOK ops steps = true)
    (h : runD M ops.toList steps fr O nx fun fr O nx => Q .normal fr O nx) : DRAWN M id ops fr O nx Q := by
  simp only [orderOK, Bool.and_eq_true, beq_iff_eq] at hord
  obtain ⟨⟨hs, hlen⟩, hord⟩ := hord
  refine ⟨fun η a w hm => wpIn_region_any hP (wpAny_of_wpH (S := SS (killsOf steps) { w with drawn := w.drawn + 1 }) _ _ _ _ ?_)⟩
  have hm' : Models M η fr O nx a { w with drawn := w.drawn + 1 } := ⟨hm.heap.drawn (Nat.le_succ _), hm.size, hm.nds, hm.defers, hm.ro, hm.frame⟩
  have hc0 : Closed .any ops (Array.replicate ops.size false) := by
    refine ⟨by simp, fun j o hj hl => ?_⟩
    rcases Nat.lt_or_ge j ops.size with h' | h'
    · simp [h'] at hl
    · simp [h'] at hl
  have key := runD_sound (Q := liftQ M Q) hT (fun c a w hq => hq) hs steps h hord hc0 hm' (fun η fr O nx a w hm hq => ⟨η, fr, O, nx, hm, hq⟩) (agree.refl _)
  rw [hlen] at key
  exact key
end
end Go.Sx
/- What the engine knows of the types of this program. Made by gen_tab.py. Conditions: none. -/
set_option maxRecDepth 100000
namespace Go.Proofs.YtjbbkimodgffiaaGreatDoor
open Go.Sx
def tabSh (t : TypeId) : Sh := match Nat.ble t 248 with | true => (match Nat.ble t 123 with | true => (match Nat.ble t 61 with | true => (match Nat.ble t 30 with | true => (match Nat.ble t 14 with | true => (match Nat.ble t 6 with | true => (match Nat.ble t 2 with | true => (match Nat.ble t 0 with | true => .plain | false => (match Nat.ble t 1 with | true => .func | false => .int .i64)) | false => (match Nat.ble t 4 with | true => (match Nat.ble t 3 with | true => .int .i64 | false => .bool) | false => (match Nat.ble t 5 with | true => .int .u8 | false => .int .u8))) | false => (match Nat.ble t 10 with | true => (match Nat.ble t 8 with | true => (match Nat.ble t 7 with | true => .struct [(0, 2), (1, 3), (2, 4), (3, 6)] | false => .struct [(0, 2), (1, 3), (2, 4), (3, 6)]) | false => (match Nat.ble t 9 with | true => .str | false => .str)) | false => (match Nat.ble t 12 with | true => (match Nat.ble t 11 with | true => .str | false => .int .u64) | false => (match Nat.ble t 13 with | true => .struct [(0, 9), (1, 12)] | false => .struct [(0, 9), (1, 12)])))) | false => (match Nat.ble t 22 with | true => (match Nat.ble t 18 with | true => (match Nat.ble t 16 with | true => (match Nat.ble t 15 with | true => .ptr 235 | false => .ptr 238) | false => (match Nat.ble t 17 with | true => .ptr 247 | false => .struct [(0, 17)])) | false => (match Nat.ble t 20 with | true => (match Nat.ble t 19 with | true => .struct [(0, 17)] | false => .iface) | false => (match Nat.ble t 21 with | true => .int .i32 | false => .slice 30))) | false => (match Nat.ble t 26 with | true => (match Nat.ble t 24 with | true => (match Nat.ble t 23 with | true => .slice 42 | false => .func) | false => (match Nat.ble t 25 with | true => .func | false => .func)) | false => (match Nat.ble t 28 with | true => (match Nat.ble t 27 with | true => .struct [(0, 3), (1, 9), (2, 9), (3, 9)] | false => .struct [(0, 3), (1, 9), (2, 9), (3, 9)]) | false => (match Nat.ble t 29 with | true => .struct [(0, 28), (4, 28), (8, 28), (12, 28)] | false => .struct [(0, 28), (4, 28), (8, 28), (12, 28)]))))) | false => (match Nat.ble t 45 with | true => (match Nat.ble t 37 with | true => (match Nat.ble t 33 with | true => (match Nat.ble t 31 with | true => .plain | false => (match Nat.ble t 32 with | true => .func | false => .plain)) | false => (match Nat.ble t 35 with | true => (match Nat.ble t 34 with | true => .func | false => .plain) | false => (match Nat.ble t 36 with | true => .func | false => .int .i64))) | false => (match Nat.ble t 41 with | true => (match Nat.ble t 39 with | true => (match Nat.ble t 38 with | true => .plain | false => .func) | false => (match Nat.ble t 40 with | true => .func | false => .struct [(0, 3), (1, 30), (17, 30), (33, 30)])) | false => (match Nat.ble t 43 with | true => (match Nat.ble t 42 with | true => .struct [(0, 3), (1, 30), (17, 30), (33, 30)] | false => .func) | false => (match Nat.ble t 44 with | true => .plain | false => .func)))) | false => (match Nat.ble t 53 with | true => (match Nat.ble t 49 with | true => (match Nat.ble t 47 with | true => (match Nat.ble t 46 with | true => .func | false => .func) | false => (match Nat.ble t 48 with | true => .func | false => .func)) | false => (match Nat.ble t 51 with | true => (match Nat.ble t 50 with | true => .func | false => .func) | false => (match Nat.ble t 52 with | true => .func | false => .slice 28))) | false => (match Nat.ble t 57 with | true => (match Nat.ble t 55 with | true => (match Nat.ble t 54 with | true => .func | false => .func) | false => (match Nat.ble t 56 with | true => .func | false => .func)) | false => (match Nat.ble t 59 with | true => (match Nat.ble t 58 with | true => .func | false => .func) | false => (match Nat.ble t 60 with | true => .plain | false => .func)))))) | false => (match Nat.ble t 92 with | true => (match Nat.ble t 76 with | true => (match Nat.ble t 68 with | true => (match Nat.ble t 64 with | true => (match Nat.ble t 62 with | true => .func | false => (match Nat.ble t 63 with | true => .plain | false => .func)) | false => (match Nat.ble t 66 with | true => (match Nat.ble t 65 with | true => .func | false => .func) | false => (match Nat.ble t 67 with | true => .ptr 72 | false => .func))) | false => (match Nat.ble t 72 with | true => (match Nat.ble t 70 with | true => (match Nat.ble t 69 with | true => .map 30 3 | false => .map 105 22) | false => (match Nat.ble t 71 with | true => .struct [(0, 22), (1, 23), (2, 69), (3, 70)] | false => .struct [(0, 22), (1, 23), (2, 69), (3, 70)])) | false => (match Nat.ble t 74 with | true => (match Nat.ble t 73 with | true => .plain | false => .func) | false => (match Nat.ble t 75 with | true => .func | false => .plain)))) | false => (match Nat.ble t 84 with | true => (match Nat.ble t 80 with | true => (match Nat.ble t 78 with | true => (match Nat.ble t 77 with | true => .func | false => .func) | false => (match Nat.ble t 79 with | true => .func | false => .func)) | false => (match Nat.ble t 82 with | true => (match Nat.ble t 81 with | true => .plain | false => .func) | false => (match Nat.ble t 83 with | true => .map 3 3 | false => .func))) | false => (match Nat.ble t 88 with | true => (match Nat.ble t 86 with | true => (match Nat.ble t 85 with | true => .func | false => .func) | false => (match Nat.ble t 87 with | true => .func | false => .func)) | false => (match Nat.ble t 90 with | true => (match Nat.ble t 89 with | true => .func | false => .func) | false => (match Nat.ble t 91 with | true => .func | false => .func))))) | false => (match Nat.ble t 107 with | true => (match Nat.ble t 99 with | true => (match Nat.ble t 95 with | true => (match Nat.ble t 93 with | true => .func | false => (match Nat.ble t 94 with | true => .func | false => .func)) | false => (match Nat.ble t 97 with | true => (match Nat.ble t 96 with | true => .func | false => .func) | false => (match Nat.ble t 98 with | true => .func | false => .func))) | false => (match Nat.ble t 103 with | true => (match Nat.ble t 101 with | true => (match Nat.ble t 100 with | true => .func | false => .array 12 100) | false => (match Nat.ble t 102 with | true => .func | false => .func)) | false => (match Nat.ble t 105 with | true => (match Nat.ble t 104 with | true => .struct [(0, 28), (4, 28), (8, 28), (12, 28)] | false => .struct [(0, 28), (4, 28), (8, 28), (12, 28)]) | false => (match Nat.ble t 106 with | true => .array 3 105 | false => .func)))) | false => (match Nat.ble t 115 with | true => (match Nat.ble t 111 with | true => (match Nat.ble t 109 with | true => (match Nat.ble t 108 with | true => .func | false => .func) | false => (match Nat.ble t 110 with | true => .slice 3 | false => .func)) | false => (match Nat.ble t 113 with | true => (match Nat.ble t 112 with | true => .array 6 3 | false => .func) | false => (match Nat.ble t 114 with | true => .slice 37 | false => .slice 22))) | false => (match Nat.ble t 119 with | true => (match Nat.ble t 117 with | true => (match Nat.ble t 116 with | true => .func | false => .func) | false => (match Nat.ble t 118 with | true => .func | false => .func)) | false => (match Nat.ble t 121 with | true => (match Nat.ble t 120 with | true => .func | false => .func) | false => (match Nat.ble t 122 with | true => .func | false => .ptr 28))))))) | false => (match Nat.ble t 185 with | true => (match Nat.ble t 154 with | true => (match Nat.ble t 138 with | true => (match Nat.ble t 130 with | true => (match Nat.ble t 126 with | true => (match Nat.ble t 124 with | true => .array 4 123 | false => (match Nat.ble t 125 with | true => .func | false => .ptr 30)) | false => (match Nat.ble t 128 with | true => (match Nat.ble t 127 with | true => .array 4 28 | false => .func) | false => (match Nat.ble t 129 with | true => .func | false => .func))) | false => (match Nat.ble t 134 with | true => (match Nat.ble t 132 with | true => (match Nat.ble t 131 with | true => .func | false => .func) | false => (match Nat.ble t 133 with | true => .func | false => .func)) | false => (match Nat.ble t 136 with | true => (match Nat.ble t 135 with | true => .func | false => .int .u64) | false => (match Nat.ble t 137 with | true => .func | false => .func)))) | false => (match Nat.ble t 146 with | true => (match Nat.ble t 142 with | true => (match Nat.ble t 140 with | true => (match Nat.ble t 139 with | true => .func | false => .func) | false => (match Nat.ble t 141 with | true => .func | false => .plain)) | false => (match Nat.ble t 144 with | true => (match Nat.ble t 143 with | true => .func | false => .func) | false => (match Nat.ble t 145 with | true => .slice 9 | false => .struct [(0, 9), (1, 9), (2, 9), (3, 9), (4, 145), (5, 145), (6, 9)]))) | false => (match Nat.ble t 150 with | true => (match Nat.ble t 148 with | true => (match Nat.ble t 147 with | true => .struct [(0, 9), (1, 9), (2, 9), (3, 9), (4, 145), (5, 145), (6, 9)] | false => .plain) | false => (match Nat.ble t 149 with | true => .func | false => .func)) | false => (match Nat.ble t 152 with | true => (match Nat.ble t 151 with | true => .int .i64 | false => .plain) | false => (match Nat.ble t 153 with | true => .func | false => .func))))) | false => (match Nat.ble t 169 with | true => (match Nat.ble t 161 with | true => (match Nat.ble t 157 with | true => (match Nat.ble t 155 with | true => .func | false => (match Nat.ble t 156 with | true => .func | false => .func)) | false => (match Nat.ble t 159 with | true => (match Nat.ble t 158 with | true => .int .u32 | false => .func) | false => (match Nat.ble t 160 with | true => .int .u64 | false => .func))) | false => (match Nat.ble t 165 with | true => (match Nat.ble t 163 with | true => (match Nat.ble t 162 with | true => .func | false => .plain) | false => (match Nat.ble t 164 with | true => .func | false => .func)) | false => (match Nat.ble t 167 with | true => (match Nat.ble t 166 with | true => .func | false => .func) | false => (match Nat.ble t 168 with | true => .func | false => .func)))) | false => (match Nat.ble t 177 with | true => (match Nat.ble t 173 with | true => (match Nat.ble t 171 with | true => (match Nat.ble t 170 with | true => .func | false => .func) | false => (match Nat.ble t 172 with | true => .ptr 175 | false => .func)) | false => (match Nat.ble t 175 with | true => (match Nat.ble t 174 with | true => .struct [(0, 145)] | false => .struct [(0, 145)]) | false => (match Nat.ble t 176 with | true => .func | false => .ptr 147))) | false => (match Nat.ble t 181 with | true => (match Nat.ble t 179 with | true => (match Nat.ble t 178 with | true => .func | false => .func) | false => (match Nat.ble t 180 with | true => .func | false => .func)) | false => (match Nat.ble t 183 with | true => (match Nat.ble t 182 with | true => .int .u64 | false => .func) | false => (match Nat.ble t 184 with | true => .func | false => .func)))))) | false => (match Nat.ble t 216 with | true => (match Nat.ble t 200 with | true => (match Nat.ble t 192 with | true => (match Nat.ble t 188 with | true => (match Nat.ble t 186 with | true => .ptr 3 | false => (match Nat.ble t 187 with | true => .func | false => .func)) | false => (match Nat.ble t 190 with | true => (match Nat.ble t 189 with | true => .func | false => .func) | false => (match Nat.ble t 191 with | true => .plain | false => .func))) | false => (match Nat.ble t 196 with | true => (match Nat.ble t 194 with | true => (match Nat.ble t 193 with | true => .ptr 196 | false => .func) | false => (match Nat.ble t 195 with | true => .struct [(0, 145), (1, 147)] | false => .struct [(0, 145), (1, 147)])) | false => (match Nat.ble t 198 with | true => (match Nat.ble t 197 with | true => .func | false => .plain) | false => (match Nat.ble t 199 with | true => .func | false => .slice 5)))) | false => (match Nat.ble t 208 with | true => (match Nat.ble t 204 with | true => (match Nat.ble t 202 with | true => (match Nat.ble t 201 with | true => .func | false => .func) | false => (match Nat.ble t 203 with | true => .func | false => .array 28 3)) | false => (match Nat.ble t 206 with | true => (match Nat.ble t 205 with | true => .func | false => .func) | false => (match Nat.ble t 207 with | true => .ptr 182 | false => .func))) | false => (match Nat.ble t 212 with | true => (match Nat.ble t 210 with | true => (match Nat.ble t 209 with | true => .func | false => .func) | false => (match Nat.ble t 211 with | true => .plain | false => .func)) | false => (match Nat.ble t 214 with | true => (match Nat.ble t 213 with | true => .func | false => .func) | false => (match Nat.ble t 215 with | true => .func | false => .func))))) | false => (match Nat.ble t 232 with | true => (match Nat.ble t 224 with | true => (match Nat.ble t 220 with | true => (match Nat.ble t 218 with | true => (match Nat.ble t 217 with | true => .func | false => .array 5 3) | false => (match Nat.ble t 219 with | true => .func | false => .func)) | false => (match Nat.ble t 222 with | true => (match Nat.ble t 221 with | true => .array 5 21 | false => .func) | false => (match Nat.ble t 223 with | true => .func | false => .func))) | false => (match Nat.ble t 228 with | true => (match Nat.ble t 226 with | true => (match Nat.ble t 225 with | true => .func | false => .array 24 21) | false => (match Nat.ble t 227 with | true => .func | false => .array 256 5)) | false => (match Nat.ble t 230 with | true => (match Nat.ble t 229 with | true => .struct [(0, 5), (1, 5)] | false => .struct [(0, 5), (1, 5)]) | false => (match Nat.ble t 231 with | true => .array 16 230 | false => .plain)))) | false => (match Nat.ble t 240 with | true => (match Nat.ble t 236 with | true => (match Nat.ble t 234 with | true => (match Nat.ble t 233 with | true => .func | false => .struct [(0, 17), (1, 17), (2, 17), (3, 9)]) | false => (match Nat.ble t 235 with | true => .struct [(0, 17), (1, 17), (2, 17), (3, 9)] | false => .array 0 16)) | false => (match Nat.ble t 238 with | true => (match Nat.ble t 237 with | true => .struct [(0, 236)] | false => .struct [(0, 236)]) | false => (match Nat.ble t 239 with | true => .func | false => .int .u8))) | false => (match Nat.ble t 244 with | true => (match Nat.ble t 242 with | true => (match Nat.ble t 241 with | true => .int .u8 | false => .func) | false => (match Nat.ble t 243 with | true => .ptr 5 | false => .int .i32)) | false => (match Nat.ble t 246 with | true => (match Nat.ble t 245 with | true => .int .i32 | false => .struct [(0, 12), (1, 12), (2, 158), (3, 240), (4, 5), (5, 5), (6, 241), (7, 242), (8, 243), (9, 244), (10, 245)]) | false => (match Nat.ble t 247 with | true => .struct [(0, 12), (1, 12), (2, 158), (3, 240), (4, 5), (5, 5), (6, 241), (7, 242), (8, 243), (9, 244), (10, 245)] | false => .plain)))))))) | false => .other
def tabSize (t : TypeId) : Nat := match Nat.ble t 248 with | true => (match Nat.ble t 123 with | true => (match Nat.ble t 61 with | true => (match Nat.ble t 30 with | true => (match Nat.ble t 14 with | true => (match Nat.ble t 6 with | true => (match Nat.ble t 2 with | true => (match Nat.ble t 0 with | true => 1 | false => (match Nat.ble t 1 with | true => 1 | false => 1)) | false => (match Nat.ble t 4 with | true => (match Nat.ble t 3 with | true => 1 | false => 1) | false => (match Nat.ble t 5 with | true => 1 | false => 1))) | false => (match Nat.ble t 10 with | true => (match Nat.ble t 8 with | true => (match Nat.ble t 7 with | true => 4 | false => 4) | false => (match Nat.ble t 9 with | true => 1 | false => 1)) | false => (match Nat.ble t 12 with | true => (match Nat.ble t 11 with | true => 1 | false => 1) | false => (match Nat.ble t 13 with | true => 2 | false => 2)))) | false => (match Nat.ble t 22 with | true => (match Nat.ble t 18 with | true => (match Nat.ble t 16 with | true => (match Nat.ble t 15 with | true => 1 | false => 1) | false => (match Nat.ble t 17 with | true => 1 | false => 1)) | false => (match Nat.ble t 20 with | true => (match Nat.ble t 19 with | true => 1 | false => 1) | false => (match Nat.ble t 21 with | true => 1 | false => 1))) | false => (match Nat.ble t 26 with | true => (match Nat.ble t 24 with | true => (match Nat.ble t 23 with | true => 1 | false => 1) | false => (match Nat.ble t 25 with | true => 1 | false => 1)) | false => (match Nat.ble t 28 with | true => (match Nat.ble t 27 with | true => 4 | false => 4) | false => (match Nat.ble t 29 with | true => 16 | false => 16))))) | false => (match Nat.ble t 45 with | true => (match Nat.ble t 37 with | true => (match Nat.ble t 33 with | true => (match Nat.ble t 31 with | true => 1 | false => (match Nat.ble t 32 with | true => 1 | false => 1)) | false => (match Nat.ble t 35 with | true => (match Nat.ble t 34 with | true => 1 | false => 1) | false => (match Nat.ble t 36 with | true => 1 | false => 1))) | false => (match Nat.ble t 41 with | true => (match Nat.ble t 39 with | true => (match Nat.ble t 38 with | true => 1 | false => 1) | false => (match Nat.ble t 40 with | true => 1 | false => 49)) | false => (match Nat.ble t 43 with | true => (match Nat.ble t 42 with | true => 49 | false => 1) | false => (match Nat.ble t 44 with | true => 1 | false => 1)))) | false => (match Nat.ble t 53 with | true => (match Nat.ble t 49 with | true => (match Nat.ble t 47 with | true => (match Nat.ble t 46 with | true => 1 | false => 1) | false => (match Nat.ble t 48 with | true => 1 | false => 1)) | false => (match Nat.ble t 51 with | true => (match Nat.ble t 50 with | true => 1 | false => 1) | false => (match Nat.ble t 52 with | true => 1 | false => 1))) | false => (match Nat.ble t 57 with | true => (match Nat.ble t 55 with | true => (match Nat.ble t 54 with | true => 1 | false => 1) | false => (match Nat.ble t 56 with | true => 1 | false => 1)) | false => (match Nat.ble t 59 with | true => (match Nat.ble t 58 with | true => 1 | false => 1) | false => (match Nat.ble t 60 with | true => 1 | false => 1)))))) | false => (match Nat.ble t 92 with | true => (match Nat.ble t 76 with | true => (match Nat.ble t 68 with | true => (match Nat.ble t 64 with | true => (match Nat.ble t 62 with | true => 1 | false => (match Nat.ble t 63 with | true => 1 | false => 1)) | false => (match Nat.ble t 66 with | true => (match Nat.ble t 65 with | true => 1 | false => 1) | false => (match Nat.ble t 67 with | true => 1 | false => 1))) | false => (match Nat.ble t 72 with | true => (match Nat.ble t 70 with | true => (match Nat.ble t 69 with | true => 1 | false => 1) | false => (match Nat.ble t 71 with | true => 4 | false => 4)) | false => (match Nat.ble t 74 with | true => (match Nat.ble t 73 with | true => 1 | false => 1) | false => (match Nat.ble t 75 with | true => 1 | false => 1)))) | false => (match Nat.ble t 84 with | true => (match Nat.ble t 80 with | true => (match Nat.ble t 78 with | true => (match Nat.ble t 77 with | true => 1 | false => 1) | false => (match Nat.ble t 79 with | true => 1 | false => 1)) | false => (match Nat.ble t 82 with | true => (match Nat.ble t 81 with | true => 1 | false => 1) | false => (match Nat.ble t 83 with | true => 1 | false => 1))) | false => (match Nat.ble t 88 with | true => (match Nat.ble t 86 with | true => (match Nat.ble t 85 with | true => 1 | false => 1) | false => (match Nat.ble t 87 with | true => 1 | false => 1)) | false => (match Nat.ble t 90 with | true => (match Nat.ble t 89 with | true => 1 | false => 1) | false => (match Nat.ble t 91 with | true => 1 | false => 1))))) | false => (match Nat.ble t 107 with | true => (match Nat.ble t 99 with | true => (match Nat.ble t 95 with | true => (match Nat.ble t 93 with | true => 1 | false => (match Nat.ble t 94 with | true => 1 | false => 1)) | false => (match Nat.ble t 97 with | true => (match Nat.ble t 96 with | true => 1 | false => 1) | false => (match Nat.ble t 98 with | true => 1 | false => 1))) | false => (match Nat.ble t 103 with | true => (match Nat.ble t 101 with | true => (match Nat.ble t 100 with | true => 1 | false => 12) | false => (match Nat.ble t 102 with | true => 1 | false => 1)) | false => (match Nat.ble t 105 with | true => (match Nat.ble t 104 with | true => 16 | false => 16) | false => (match Nat.ble t 106 with | true => 48 | false => 1)))) | false => (match Nat.ble t 115 with | true => (match Nat.ble t 111 with | true => (match Nat.ble t 109 with | true => (match Nat.ble t 108 with | true => 1 | false => 1) | false => (match Nat.ble t 110 with | true => 1 | false => 1)) | false => (match Nat.ble t 113 with | true => (match Nat.ble t 112 with | true => 6 | false => 1) | false => (match Nat.ble t 114 with | true => 1 | false => 1))) | false => (match Nat.ble t 119 with | true => (match Nat.ble t 117 with | true => (match Nat.ble t 116 with | true => 1 | false => 1) | false => (match Nat.ble t 118 with | true => 1 | false => 1)) | false => (match Nat.ble t 121 with | true => (match Nat.ble t 120 with | true => 1 | false => 1) | false => (match Nat.ble t 122 with | true => 1 | false => 1))))))) | false => (match Nat.ble t 185 with | true => (match Nat.ble t 154 with | true => (match Nat.ble t 138 with | true => (match Nat.ble t 130 with | true => (match Nat.ble t 126 with | true => (match Nat.ble t 124 with | true => 4 | false => (match Nat.ble t 125 with | true => 1 | false => 1)) | false => (match Nat.ble t 128 with | true => (match Nat.ble t 127 with | true => 16 | false => 1) | false => (match Nat.ble t 129 with | true => 1 | false => 1))) | false => (match Nat.ble t 134 with | true => (match Nat.ble t 132 with | true => (match Nat.ble t 131 with | true => 1 | false => 1) | false => (match Nat.ble t 133 with | true => 1 | false => 1)) | false => (match Nat.ble t 136 with | true => (match Nat.ble t 135 with | true => 1 | false => 1) | false => (match Nat.ble t 137 with | true => 1 | false => 1)))) | false => (match Nat.ble t 146 with | true => (match Nat.ble t 142 with | true => (match Nat.ble t 140 with | true => (match Nat.ble t 139 with | true => 1 | false => 1) | false => (match Nat.ble t 141 with | true => 1 | false => 1)) | false => (match Nat.ble t 144 with | true => (match Nat.ble t 143 with | true => 1 | false => 1) | false => (match Nat.ble t 145 with | true => 1 | false => 7))) | false => (match Nat.ble t 150 with | true => (match Nat.ble t 148 with | true => (match Nat.ble t 147 with | true => 7 | false => 1) | false => (match Nat.ble t 149 with | true => 1 | false => 1)) | false => (match Nat.ble t 152 with | true => (match Nat.ble t 151 with | true => 1 | false => 1) | false => (match Nat.ble t 153 with | true => 1 | false => 1))))) | false => (match Nat.ble t 169 with | true => (match Nat.ble t 161 with | true => (match Nat.ble t 157 with | true => (match Nat.ble t 155 with | true => 1 | false => (match Nat.ble t 156 with | true => 1 | false => 1)) | false => (match Nat.ble t 159 with | true => (match Nat.ble t 158 with | true => 1 | false => 1) | false => (match Nat.ble t 160 with | true => 1 | false => 1))) | false => (match Nat.ble t 165 with | true => (match Nat.ble t 163 with | true => (match Nat.ble t 162 with | true => 1 | false => 1) | false => (match Nat.ble t 164 with | true => 1 | false => 1)) | false => (match Nat.ble t 167 with | true => (match Nat.ble t 166 with | true => 1 | false => 1) | false => (match Nat.ble t 168 with | true => 1 | false => 1)))) | false => (match Nat.ble t 177 with | true => (match Nat.ble t 173 with | true => (match Nat.ble t 171 with | true => (match Nat.ble t 170 with | true => 1 | false => 1) | false => (match Nat.ble t 172 with | true => 1 | false => 1)) | false => (match Nat.ble t 175 with | true => (match Nat.ble t 174 with | true => 1 | false => 1) | false => (match Nat.ble t 176 with | true => 1 | false => 1))) | false => (match Nat.ble t 181 with | true => (match Nat.ble t 179 with | true => (match Nat.ble t 178 with | true => 1 | false => 1) | false => (match Nat.ble t 180 with | true => 1 | false => 1)) | false => (match Nat.ble t 183 with | true => (match Nat.ble t 182 with | true => 1 | false => 1) | false => (match Nat.ble t 184 with | true => 1 | false => 1)))))) | false => (match Nat.ble t 216 with | true => (match Nat.ble t 200 with | true => (match Nat.ble t 192 with | true => (match Nat.ble t 188 with | true => (match Nat.ble t 186 with | true => 1 | false => (match Nat.ble t 187 with | true => 1 | false => 1)) | false => (match Nat.ble t 190 with | true => (match Nat.ble t 189 with | true => 1 | false => 1) | false => (match Nat.ble t 191 with | true => 1 | false => 1))) | false => (match Nat.ble t 196 with | true => (match Nat.ble t 194 with | true => (match Nat.ble t 193 with | true => 1 | false => 1) | false => (match Nat.ble t 195 with | true => 8 | false => 8)) | false => (match Nat.ble t 198 with | true => (match Nat.ble t 197 with | true => 1 | false => 1) | false => (match Nat.ble t 199 with | true => 1 | false => 1)))) | false => (match Nat.ble t 208 with | true => (match Nat.ble t 204 with | true => (match Nat.ble t 202 with | true => (match Nat.ble t 201 with | true => 1 | false => 1) | false => (match Nat.ble t 203 with | true => 1 | false => 28)) | false => (match Nat.ble t 206 with | true => (match Nat.ble t 205 with | true => 1 | false => 1) | false => (match Nat.ble t 207 with | true => 1 | false => 1))) | false => (match Nat.ble t 212 with | true => (match Nat.ble t 210 with | true => (match Nat.ble t 209 with | true => 1 | false => 1) | false => (match Nat.ble t 211 with | true => 1 | false => 1)) | false => (match Nat.ble t 214 with | true => (match Nat.ble t 213 with | true => 1 | false => 1) | false => (match Nat.ble t 215 with | true => 1 | false => 1))))) | false => (match Nat.ble t 232 with | true => (match Nat.ble t 224 with | true => (match Nat.ble t 220 with | true => (match Nat.ble t 218 with | true => (match Nat.ble t 217 with | true => 1 | false => 5) | false => (match Nat.ble t 219 with | true => 1 | false => 1)) | false => (match Nat.ble t 222 with | true => (match Nat.ble t 221 with | true => 5 | false => 1) | false => (match Nat.ble t 223 with | true => 1 | false => 1))) | false => (match Nat.ble t 228 with | true => (match Nat.ble t 226 with | true => (match Nat.ble t 225 with | true => 1 | false => 24) | false => (match Nat.ble t 227 with | true => 1 | false => 256)) | false => (match Nat.ble t 230 with | true => (match Nat.ble t 229 with | true => 2 | false => 2) | false => (match Nat.ble t 231 with | true => 32 | false => 1)))) | false => (match Nat.ble t 240 with | true => (match Nat.ble t 236 with | true => (match Nat.ble t 234 with | true => (match Nat.ble t 233 with | true => 1 | false => 4) | false => (match Nat.ble t 235 with | true => 4 | false => 0)) | false => (match Nat.ble t 238 with | true => (match Nat.ble t 237 with | true => 0 | false => 0) | false => (match Nat.ble t 239 with | true => 1 | false => 1))) | false => (match Nat.ble t 244 with | true => (match Nat.ble t 242 with | true => (match Nat.ble t 241 with | true => 1 | false => 1) | false => (match Nat.ble t 243 with | true => 1 | false => 1)) | false => (match Nat.ble t 246 with | true => (match Nat.ble t 245 with | true => 1 | false => 11) | false => (match Nat.ble t 247 with | true => 11 | false => 1)))))))) | false => 0
def tabZero (t : TypeId) : List SV := match Nat.ble t 248 with | true => (match Nat.ble t 123 with | true => (match Nat.ble t 61 with | true => (match Nat.ble t 30 with | true => (match Nat.ble t 14 with | true => (match Nat.ble t 6 with | true => (match Nat.ble t 2 with | true => (match Nat.ble t 0 with | true => [] | false => (match Nat.ble t 1 with | true => [.val .nilFunc] | false => [.int .i64 (0)])) | false => (match Nat.ble t 4 with | true => (match Nat.ble t 3 with | true => [.int .i64 (0)] | false => [.bool false]) | false => (match Nat.ble t 5 with | true => [.int .u8 (0)] | false => [.int .u8 (0)]))) | false => (match Nat.ble t 10 with | true => (match Nat.ble t 8 with | true => (match Nat.ble t 7 with | true => [.int .i64 (0), .int .i64 (0), .bool false, .int .u8 (0)] | false => [.int .i64 (0), .int .i64 (0), .bool false, .int .u8 (0)]) | false => (match Nat.ble t 9 with | true => [.str []] | false => [.str []])) | false => (match Nat.ble t 12 with | true => (match Nat.ble t 11 with | true => [.str []] | false => [.int .u64 (0)]) | false => (match Nat.ble t 13 with | true => [.str [], .int .u64 (0)] | false => [.str [], .int .u64 (0)])))) | false => (match Nat.ble t 22 with | true => (match Nat.ble t 18 with | true => (match Nat.ble t 16 with | true => (match Nat.ble t 15 with | true => [.val (.pointer none)] | false => [.val (.pointer none)]) | false => (match Nat.ble t 17 with | true => [.val (.pointer none)] | false => [.val (.pointer none)])) | false => (match Nat.ble t 20 with | true => (match Nat.ble t 19 with | true => [.val (.pointer none)] | false => [.val .nilIface]) | false => (match Nat.ble t 21 with | true => [.int .i32 (0)] | false => [.val (.slice none 0 0)]))) | false => (match Nat.ble t 26 with | true => (match Nat.ble t 24 with | true => (match Nat.ble t 23 with | true => [.val (.slice none 0 0)] | false => [.val .nilFunc]) | false => (match Nat.ble t 25 with | true => [.val .nilFunc] | false => [.val .nilFunc])) | false => (match Nat.ble t 28 with | true => (match Nat.ble t 27 with | true => [.int .i64 (0), .str [], .str [], .str []] | false => [.int .i64 (0), .str [], .str [], .str []]) | false => (match Nat.ble t 29 with | true => [.int .i64 (0), .str [], .str [], .str [], .int .i64 (0), .str [], .str [], .str [], .int .i64 (0), .str [], .str [], .str [], .int .i64 (0), .str [], .str [], .str []] | false => [.int .i64 (0), .str [], .str [], .str [], .int .i64 (0), .str [], .str [], .str [], .int .i64 (0), .str [], .str [], .str [], .int .i64 (0), .str [], .str [], .str []]))))) | false => (match Nat.ble t 45 with | true => (match Nat.ble t 37 with | true => (match Nat.ble t 33 with | true => (match Nat.ble t 31 with | true => [] | false => (match Nat.ble t 32 with | true => [.val .nilFunc] | false => [])) | false => (match Nat.ble t 35 with | true => (match Nat.ble t 34 with | true => [.val .nilFunc] | false => []) | false => (match Nat.ble t 36 with | true => [.val .nilFunc] | false => [.int .i64 (0)]))) | false => (match Nat.ble t 41 with | true => (match Nat.ble t 39 with | true => (match Nat.ble t 38 with | true => [] | false => [.val .nilFunc]) | false => (match Nat.ble t 40 with | true => [.val .nilFunc] | false => [.int .i64 (0), .int .i64 (0), .str [], .str [], .str [], .int .i64 (0), .str [], .str [], .str [], .int .i64 (0), .str [], .str [], .str [], .int .i64 (0), .str [], .str [], .str [], .int .i64 (0), .str [], .str [], .str [], .int .i64 (0), .str [], .str [], .str [], .int .i64 (0), .str [], .str [], .str [], .int .i64 (0), .str [], .str [], .str [], .int .i64 (0), .str [], .str [], .str [], .int .i64 (0), .str [], .str [], .str [], .int .i64 (0), .str [], .str [], .str [], .int .i64 (0), .str [], .str [], .str []])) | false => (match Nat.ble t 43 with | true => (match Nat.ble t 42 with | true => [.int .i64 (0), .int .i64 (0), .str [], .str [], .str [], .int .i64 (0), .str [], .str [], .str [], .int .i64 (0), .str [], .str [], .str [], .int .i64 (0), .str [], .str [], .str [], .int .i64 (0), .str [], .str [], .str [], .int .i64 (0), .str [], .str [], .str [], .int .i64 (0), .str [], .str [], .str [], .int .i64 (0), .str [], .str [], .str [], .int .i64 (0), .str [], .str [], .str [], .int .i64 (0), .str [], .str [], .str [], .int .i64 (0), .str [], .str [], .str [], .int .i64 (0), .str [], .str [], .str []] | false => [.val .nilFunc]) | false => (match Nat.ble t 44 with | true => [] | false => [.val .nilFunc])))) | false => (match Nat.ble t 53 with | true => (match Nat.ble t 49 with | true => (match Nat.ble t 47 with | true => (match Nat.ble t 46 with | true => [.val .nilFunc] | false => [.val .nilFunc]) | false => (match Nat.ble t 48 with | true => [.val .nilFunc] | false => [.val .nilFunc])) | false => (match Nat.ble t 51 with | true => (match Nat.ble t 50 with | true => [.val .nilFunc] | false => [.val .nilFunc]) | false => (match Nat.ble t 52 with | true => [.val .nilFunc] | false => [.val (.slice none 0 0)]))) | false => (match Nat.ble t 57 with | true => (match Nat.ble t 55 with | true => (match Nat.ble t 54 with | true => [.val .nilFunc] | false => [.val .nilFunc]) | false => (match Nat.ble t 56 with | true => [.val .nilFunc] | false => [.val .nilFunc])) | false => (match Nat.ble t 59 with | true => (match Nat.ble t 58 with | true => [.val .nilFunc] | false => [.val .nilFunc]) | false => (match Nat.ble t 60 with | true => [] | false => [.val .nilFunc])))))) | false => (match Nat.ble t 92 with | true => (match Nat.ble t 76 with | true => (match Nat.ble t 68 with | true => (match Nat.ble t 64 with | true => (match Nat.ble t 62 with | true => [.val .nilFunc] | false => (match Nat.ble t 63 with | true => [] | false => [.val .nilFunc])) | false => (match Nat.ble t 66 with | true => (match Nat.ble t 65 with | true => [.val .nilFunc] | false => [.val .nilFunc]) | false => (match Nat.ble t 67 with | true => [.val (.pointer none)] | false => [.val .nilFunc]))) | false => (match Nat.ble t 72 with | true => (match Nat.ble t 70 with | true => (match Nat.ble t 69 with | true => [.val (.map none)] | false => [.val (.map none)]) | false => (match Nat.ble t 71 with | true => [.val (.slice none 0 0), .val (.slice none 0 0), .val (.map none), .val (.map none)] | false => [.val (.slice none 0 0), .val (.slice none 0 0), .val (.map none), .val (.map none)])) | false => (match Nat.ble t 74 with | true => (match Nat.ble t 73 with | true => [] | false => [.val .nilFunc]) | false => (match Nat.ble t 75 with | true => [.val .nilFunc] | false => [])))) | false => (match Nat.ble t 84 with | true => (match Nat.ble t 80 with | true => (match Nat.ble t 78 with | true => (match Nat.ble t 77 with | true => [.val .nilFunc] | false => [.val .nilFunc]) | false => (match Nat.ble t 79 with | true => [.val .nilFunc] | false => [.val .nilFunc])) | false => (match Nat.ble t 82 with | true => (match Nat.ble t 81 with | true => [] | false => [.val .nilFunc]) | false => (match Nat.ble t 83 with | true => [.val (.map none)] | false => [.val .nilFunc]))) | false => (match Nat.ble t 88 with | true => (match Nat.ble t 86 with | true => (match Nat.ble t 85 with | true => [.val .nilFunc] | false => [.val .nilFunc]) | false => (match Nat.ble t 87 with | true => [.val .nilFunc] | false => [.val .nilFunc])) | false => (match Nat.ble t 90 with | true => (match Nat.ble t 89 with | true => [.val .nilFunc] | false => [.val .nilFunc]) | false => (match Nat.ble t 91 with | true => [.val .nilFunc] | false => [.val .nilFunc]))))) | false => (match Nat.ble t 107 with | true => (match Nat.ble t 99 with | true => (match Nat.ble t 95 with | true => (match Nat.ble t 93 with | true => [.val .nilFunc] | false => (match Nat.ble t 94 with | true => [.val .nilFunc] | false => [.val .nilFunc])) | false => (match Nat.ble t 97 with | true => (match Nat.ble t 96 with | true => [.val .nilFunc] | false => [.val .nilFunc]) | false => (match Nat.ble t 98 with | true => [.val .nilFunc] | false => [.val .nilFunc]))) | false => (match Nat.ble t 103 with | true => (match Nat.ble t 101 with | true => (match Nat.ble t 100 with | true => [.val .nilFunc] | false => [.val .nilFunc, .val .nilFunc, .val .nilFunc, .val .nilFunc, .val .nilFunc, .val .nilFunc, .val .nilFunc, .val .nilFunc, .val .nilFunc, .val .nilFunc, .val .nilFunc, .val .nilFunc]) | false => (match Nat.ble t 102 with | true => [.val .nilFunc] | false => [.val .nilFunc])) | false => (match Nat.ble t 105 with | true => (match Nat.ble t 104 with | true => [.int .i64 (0), .str [], .str [], .str [], .int .i64 (0), .str [], .str [], .str [], .int .i64 (0), .str [], .str [], .str [], .int .i64 (0), .str [], .str [], .str []] | false => [.int .i64 (0), .str [], .str [], .str [], .int .i64 (0), .str [], .str [], .str [], .int .i64 (0), .str [], .str [], .str [], .int .i64 (0), .str [], .str [], .str []]) | false => (match Nat.ble t 106 with | true => [.int .i64 (0), .str [], .str [], .str [], .int .i64 (0), .str [], .str [], .str [], .int .i64 (0), .str [], .str [], .str [], .int .i64 (0), .str [], .str [], .str [], .int .i64 (0), .str [], .str [], .str [], .int .i64 (0), .str [], .str [], .str [], .int .i64 (0), .str [], .str [], .str [], .int .i64 (0), .str [], .str [], .str [], .int .i64 (0), .str [], .str [], .str [], .int .i64 (0), .str [], .str [], .str [], .int .i64 (0), .str [], .str [], .str [], .int .i64 (0), .str [], .str [], .str []] | false => [.val .nilFunc])))) | false => (match Nat.ble t 115 with | true => (match Nat.ble t 111 with | true => (match Nat.ble t 109 with | true => (match Nat.ble t 108 with | true => [.val .nilFunc] | false => [.val .nilFunc]) | false => (match Nat.ble t 110 with | true => [.val (.slice none 0 0)] | false => [.val .nilFunc])) | false => (match Nat.ble t 113 with | true => (match Nat.ble t 112 with | true => [.int .i64 (0), .int .i64 (0), .int .i64 (0), .int .i64 (0), .int .i64 (0), .int .i64 (0)] | false => [.val .nilFunc]) | false => (match Nat.ble t 114 with | true => [.val (.slice none 0 0)] | false => [.val (.slice none 0 0)]))) | false => (match Nat.ble t 119 with | true => (match Nat.ble t 117 with | true => (match Nat.ble t 116 with | true => [.val .nilFunc] | false => [.val .nilFunc]) | false => (match Nat.ble t 118 with | true => [.val .nilFunc] | false => [.val .nilFunc])) | false => (match Nat.ble t 121 with | true => (match Nat.ble t 120 with | true => [.val .nilFunc] | false => [.val .nilFunc]) | false => (match Nat.ble t 122 with | true => [.val .nilFunc] | false => [.val (.pointer none)]))))))) | false => (match Nat.ble t 185 with | true => (match Nat.ble t 154 with | true => (match Nat.ble t 138 with | true => (match Nat.ble t 130 with | true => (match Nat.ble t 126 with | true => (match Nat.ble t 124 with | true => [.val (.pointer none), .val (.pointer none), .val (.pointer none), .val (.pointer none)] | false => (match Nat.ble t 125 with | true => [.val .nilFunc] | false => [.val (.pointer none)])) | false => (match Nat.ble t 128 with | true => (match Nat.ble t 127 with | true => [.int .i64 (0), .str [], .str [], .str [], .int .i64 (0), .str [], .str [], .str [], .int .i64 (0), .str [], .str [], .str [], .int .i64 (0), .str [], .str [], .str []] | false => [.val .nilFunc]) | false => (match Nat.ble t 129 with | true => [.val .nilFunc] | false => [.val .nilFunc]))) | false => (match Nat.ble t 134 with | true => (match Nat.ble t 132 with | true => (match Nat.ble t 131 with | true => [.val .nilFunc] | false => [.val .nilFunc]) | false => (match Nat.ble t 133 with | true => [.val .nilFunc] | false => [.val .nilFunc])) | false => (match Nat.ble t 136 with | true => (match Nat.ble t 135 with | true => [.val .nilFunc] | false => [.int .u64 (0)]) | false => (match Nat.ble t 137 with | true => [.val .nilFunc] | false => [.val .nilFunc])))) | false => (match Nat.ble t 146 with | true => (match Nat.ble t 142 with | true => (match Nat.ble t 140 with | true => (match Nat.ble t 139 with | true => [.val .nilFunc] | false => [.val .nilFunc]) | false => (match Nat.ble t 141 with | true => [.val .nilFunc] | false => [])) | false => (match Nat.ble t 144 with | true => (match Nat.ble t 143 with | true => [.val .nilFunc] | false => [.val .nilFunc]) | false => (match Nat.ble t 145 with | true => [.val (.slice none 0 0)] | false => [.str [], .str [], .str [], .str [], .val (.slice none 0 0), .val (.slice none 0 0), .str []]))) | false => (match Nat.ble t 150 with | true => (match Nat.ble t 148 with | true => (match Nat.ble t 147 with | true => [.str [], .str [], .str [], .str [], .val (.slice none 0 0), .val (.slice none 0 0), .str []] | false => []) | false => (match Nat.ble t 149 with | true => [.val .nilFunc] | false => [.val .nilFunc])) | false => (match Nat.ble t 152 with | true => (match Nat.ble t 151 with | true => [.int .i64 (0)] | false => []) | false => (match Nat.ble t 153 with | true => [.val .nilFunc] | false => [.val .nilFunc]))))) | false => (match Nat.ble t 169 with | true => (match Nat.ble t 161 with | true => (match Nat.ble t 157 with | true => (match Nat.ble t 155 with | true => [.val .nilFunc] | false => (match Nat.ble t 156 with | true => [.val .nilFunc] | false => [.val .nilFunc])) | false => (match Nat.ble t 159 with | true => (match Nat.ble t 158 with | true => [.int .u32 (0)] | false => [.val .nilFunc]) | false => (match Nat.ble t 160 with | true => [.int .u64 (0)] | false => [.val .nilFunc]))) | false => (match Nat.ble t 165 with | true => (match Nat.ble t 163 with | true => (match Nat.ble t 162 with | true => [.val .nilFunc] | false => []) | false => (match Nat.ble t 164 with | true => [.val .nilFunc] | false => [.val .nilFunc])) | false => (match Nat.ble t 167 with | true => (match Nat.ble t 166 with | true => [.val .nilFunc] | false => [.val .nilFunc]) | false => (match Nat.ble t 168 with | true => [.val .nilFunc] | false => [.val .nilFunc])))) | false => (match Nat.ble t 177 with | true => (match Nat.ble t 173 with | true => (match Nat.ble t 171 with | true => (match Nat.ble t 170 with | true => [.val .nilFunc] | false => [.val .nilFunc]) | false => (match Nat.ble t 172 with | true => [.val (.pointer none)] | false => [.val .nilFunc])) | false => (match Nat.ble t 175 with | true => (match Nat.ble t 174 with | true => [.val (.slice none 0 0)] | false => [.val (.slice none 0 0)]) | false => (match Nat.ble t 176 with | true => [.val .nilFunc] | false => [.val (.pointer none)]))) | false => (match Nat.ble t 181 with | true => (match Nat.ble t 179 with | true => (match Nat.ble t 178 with | true => [.val .nilFunc] | false => [.val .nilFunc]) | false => (match Nat.ble t 180 with | true => [.val .nilFunc] | false => [.val .nilFunc])) | false => (match Nat.ble t 183 with | true => (match Nat.ble t 182 with | true => [.int .u64 (0)] | false => [.val .nilFunc]) | false => (match Nat.ble t 184 with | true => [.val .nilFunc] | false => [.val .nilFunc])))))) | false => (match Nat.ble t 216 with | true => (match Nat.ble t 200 with | true => (match Nat.ble t 192 with | true => (match Nat.ble t 188 with | true => (match Nat.ble t 186 with | true => [.val (.pointer none)] | false => (match Nat.ble t 187 with | true => [.val .nilFunc] | false => [.val .nilFunc])) | false => (match Nat.ble t 190 with | true => (match Nat.ble t 189 with | true => [.val .nilFunc] | false => [.val .nilFunc]) | false => (match Nat.ble t 191 with | true => [] | false => [.val .nilFunc]))) | false => (match Nat.ble t 196 with | true => (match Nat.ble t 194 with | true => (match Nat.ble t 193 with | true => [.val (.pointer none)] | false => [.val .nilFunc]) | false => (match Nat.ble t 195 with | true => [.val (.slice none 0 0), .str [], .str [], .str [], .str [], .val (.slice none 0 0), .val (.slice none 0 0), .str []] | false => [.val (.slice none 0 0), .str [], .str [], .str [], .str [], .val (.slice none 0 0), .val (.slice none 0 0), .str []])) | false => (match Nat.ble t 198 with | true => (match Nat.ble t 197 with | true => [.val .nilFunc] | false => []) | false => (match Nat.ble t 199 with | true => [.val .nilFunc] | false => [.val (.slice none 0 0)])))) | false => (match Nat.ble t 208 with | true => (match Nat.ble t 204 with | true => (match Nat.ble t 202 with | true => (match Nat.ble t 201 with | true => [.val .nilFunc] | false => [.val .nilFunc]) | false => (match Nat.ble t 203 with | true => [.val .nilFunc] | false => [.int .i64 (0), .int .i64 (0), .int .i64 (0), .int .i64 (0), .int .i64 (0), .int .i64 (0), .int .i64 (0), .int .i64 (0), .int .i64 (0), .int .i64 (0), .int .i64 (0), .int .i64 (0), .int .i64 (0), .int .i64 (0), .int .i64 (0), .int .i64 (0), .int .i64 (0), .int .i64 (0), .int .i64 (0), .int .i64 (0), .int .i64 (0), .int .i64 (0), .int .i64 (0), .int .i64 (0), .int .i64 (0), .int .i64 (0), .int .i64 (0), .int .i64 (0)])) | false => (match Nat.ble t 206 with | true => (match Nat.ble t 205 with | true => [.val .nilFunc] | false => [.val .nilFunc]) | false => (match Nat.ble t 207 with | true => [.val (.pointer none)] | false => [.val .nilFunc]))) | false => (match Nat.ble t 212 with | true => (match Nat.ble t 210 with | true => (match Nat.ble t 209 with | true => [.val .nilFunc] | false => [.val .nilFunc]) | false => (match Nat.ble t 211 with | true => [] | false => [.val .nilFunc])) | false => (match Nat.ble t 214 with | true => (match Nat.ble t 213 with | true => [.val .nilFunc] | false => [.val .nilFunc]) | false => (match Nat.ble t 215 with | true => [.val .nilFunc] | false => [.val .nilFunc]))))) | false => (match Nat.ble t 232 with | true => (match Nat.ble t 224 with | true => (match Nat.ble t 220 with | true => (match Nat.ble t 218 with | true => (match Nat.ble t 217 with | true => [.val .nilFunc] | false => [.int .i64 (0), .int .i64 (0), .int .i64 (0), .int .i64 (0), .int .i64 (0)]) | false => (match Nat.ble t 219 with | true => [.val .nilFunc] | false => [.val .nilFunc])) | false => (match Nat.ble t 222 with | true => (match Nat.ble t 221 with | true => [.int .i32 (0), .int .i32 (0), .int .i32 (0), .int .i32 (0), .int .i32 (0)] | false => [.val .nilFunc]) | false => (match Nat.ble t 223 with | true => [.val .nilFunc] | false => [.val .nilFunc]))) | false => (match Nat.ble t 228 with | true => (match Nat.ble t 226 with | true => (match Nat.ble t 225 with | true => [.val .nilFunc] | false => [.int .i32 (0), .int .i32 (0), .int .i32 (0), .int .i32 (0), .int .i32 (0), .int .i32 (0), .int .i32 (0), .int .i32 (0), .int .i32 (0), .int .i32 (0), .int .i32 (0), .int .i32 (0), .int .i32 (0), .int .i32 (0), .int .i32 (0), .int .i32 (0), .int .i32 (0), .int .i32 (0), .int .i32 (0), .int .i32 (0), .int .i32 (0), .int .i32 (0), .int .i32 (0), .int .i32 (0)]) | false => (match Nat.ble t 227 with | true => [.val .nilFunc] | false => [])) | false => (match Nat.ble t 230 with | true => (match Nat.ble t 229 with | true => [.int .u8 (0), .int .u8 (0)] | false => [.int .u8 (0), .int .u8 (0)]) | false => (match Nat.ble t 231 with | true => [.int .u8 (0), .int .u8 (0), .int .u8 (0), .int .u8 (0), .int .u8 (0), .int .u8 (0), .int .u8 (0), .int .u8 (0), .int .u8 (0), .int .u8 (0), .int .u8 (0), .int .u8 (0), .int .u8 (0), .int .u8 (0), .int .u8 (0), .int .u8 (0), .int .u8 (0), .int .u8 (0), .int .u8 (0), .int .u8 (0), .int .u8 (0), .int .u8 (0), .int .u8 (0), .int .u8 (0), .int .u8 (0), .int .u8 (0), .int .u8 (0), .int .u8 (0), .int .u8 (0), .int .u8 (0), .int .u8 (0), .int .u8 (0)] | false => [])))) | false => (match Nat.ble t 240 with | true => (match Nat.ble t 236 with | true => (match Nat.ble t 234 with | true => (match Nat.ble t 233 with | true => [.val .nilFunc] | false => [.val (.pointer none), .val (.pointer none), .val (.pointer none), .str []]) | false => (match Nat.ble t 235 with | true => [.val (.pointer none), .val (.pointer none), .val (.pointer none), .str []] | false => [])) | false => (match Nat.ble t 238 with | true => (match Nat.ble t 237 with | true => [] | false => []) | false => (match Nat.ble t 239 with | true => [.val .nilFunc] | false => [.int .u8 (0)]))) | false => (match Nat.ble t 244 with | true => (match Nat.ble t 242 with | true => (match Nat.ble t 241 with | true => [.int .u8 (0)] | false => [.val .nilFunc]) | false => (match Nat.ble t 243 with | true => [.val (.pointer none)] | false => [.int .i32 (0)])) | false => (match Nat.ble t 246 with | true => (match Nat.ble t 245 with | true => [.int .i32 (0)] | false => [.int .u64 (0), .int .u64 (0), .int .u32 (0), .int .u8 (0), .int .u8 (0), .int .u8 (0), .int .u8 (0), .val .nilFunc, .val (.pointer none), .int .i32 (0), .int .i32 (0)]) | false => (match Nat.ble t 247 with | true => [.int .u64 (0), .int .u64 (0), .int .u32 (0), .int .u8 (0), .int .u8 (0), .int .u8 (0), .int .u8 (0), .val .nilFunc, .val (.pointer none), .int .i32 (0), .int .i32 (0)] | false => [.val (.pointer none)])))))))) | false => []
def tabBytes (t : TypeId) : Nat := match Nat.ble t 248 with | true => (match Nat.ble t 123 with | true => (match Nat.ble t 61 with | true => (match Nat.ble t 30 with | true => (match Nat.ble t 14 with | true => (match Nat.ble t 6 with | true => (match Nat.ble t 2 with | true => (match Nat.ble t 0 with | true => 0 | false => (match Nat.ble t 1 with | true => 8 | false => 8)) | false => (match Nat.ble t 4 with | true => (match Nat.ble t 3 with | true => 8 | false => 1) | false => (match Nat.ble t 5 with | true => 1 | false => 1))) | false => (match Nat.ble t 10 with | true => (match Nat.ble t 8 with | true => (match Nat.ble t 7 with | true => 24 | false => 24) | false => (match Nat.ble t 9 with | true => 16 | false => 16)) | false => (match Nat.ble t 12 with | true => (match Nat.ble t 11 with | true => 16 | false => 8) | false => (match Nat.ble t 13 with | true => 24 | false => 24)))) | false => (match Nat.ble t 22 with | true => (match Nat.ble t 18 with | true => (match Nat.ble t 16 with | true => (match Nat.ble t 15 with | true => 8 | false => 8) | false => (match Nat.ble t 17 with | true => 8 | false => 8)) | false => (match Nat.ble t 20 with | true => (match Nat.ble t 19 with | true => 8 | false => 16) | false => (match Nat.ble t 21 with | true => 4 | false => 24))) | false => (match Nat.ble t 26 with | true => (match Nat.ble t 24 with | true => (match Nat.ble t 23 with | true => 24 | false => 8) | false => (match Nat.ble t 25 with | true => 8 | false => 8)) | false => (match Nat.ble t 28 with | true => (match Nat.ble t 27 with | true => 56 | false => 56) | false => (match Nat.ble t 29 with | true => 224 | false => 224))))) | false => (match Nat.ble t 45 with | true => (match Nat.ble t 37 with | true => (match Nat.ble t 33 with | true => (match Nat.ble t 31 with | true => 0 | false => (match Nat.ble t 32 with | true => 8 | false => 0)) | false => (match Nat.ble t 35 with | true => (match Nat.ble t 34 with | true => 8 | false => 0) | false => (match Nat.ble t 36 with | true => 8 | false => 8))) | false => (match Nat.ble t 41 with | true => (match Nat.ble t 39 with | true => (match Nat.ble t 38 with | true => 0 | false => 8) | false => (match Nat.ble t 40 with | true => 8 | false => 680)) | false => (match Nat.ble t 43 with | true => (match Nat.ble t 42 with | true => 680 | false => 8) | false => (match Nat.ble t 44 with | true => 0 | false => 8)))) | false => (match Nat.ble t 53 with | true => (match Nat.ble t 49 with | true => (match Nat.ble t 47 with | true => (match Nat.ble t 46 with | true => 8 | false => 8) | false => (match Nat.ble t 48 with | true => 8 | false => 8)) | false => (match Nat.ble t 51 with | true => (match Nat.ble t 50 with | true => 8 | false => 8) | false => (match Nat.ble t 52 with | true => 8 | false => 24))) | false => (match Nat.ble t 57 with | true => (match Nat.ble t 55 with | true => (match Nat.ble t 54 with | true => 8 | false => 8) | false => (match Nat.ble t 56 with | true => 8 | false => 8)) | false => (match Nat.ble t 59 with | true => (match Nat.ble t 58 with | true => 8 | false => 8) | false => (match Nat.ble t 60 with | true => 0 | false => 8)))))) | false => (match Nat.ble t 92 with | true => (match Nat.ble t 76 with | true => (match Nat.ble t 68 with | true => (match Nat.ble t 64 with | true => (match Nat.ble t 62 with | true => 8 | false => (match Nat.ble t 63 with | true => 0 | false => 8)) | false => (match Nat.ble t 66 with | true => (match Nat.ble t 65 with | true => 8 | false => 8) | false => (match Nat.ble t 67 with | true => 8 | false => 8))) | false => (match Nat.ble t 72 with | true => (match Nat.ble t 70 with | true => (match Nat.ble t 69 with | true => 8 | false => 8) | false => (match Nat.ble t 71 with | true => 64 | false => 64)) | false => (match Nat.ble t 74 with | true => (match Nat.ble t 73 with | true => 0 | false => 8) | false => (match Nat.ble t 75 with | true => 8 | false => 0)))) | false => (match Nat.ble t 84 with | true => (match Nat.ble t 80 with | true => (match Nat.ble t 78 with | true => (match Nat.ble t 77 with | true => 8 | false => 8) | false => (match Nat.ble t 79 with | true => 8 | false => 8)) | false => (match Nat.ble t 82 with | true => (match Nat.ble t 81 with | true => 0 | false => 8) | false => (match Nat.ble t 83 with | true => 8 | false => 8))) | false => (match Nat.ble t 88 with | true => (match Nat.ble t 86 with | true => (match Nat.ble t 85 with | true => 8 | false => 8) | false => (match Nat.ble t 87 with | true => 8 | false => 8)) | false => (match Nat.ble t 90 with | true => (match Nat.ble t 89 with | true => 8 | false => 8) | false => (match Nat.ble t 91 with | true => 8 | false => 8))))) | false => (match Nat.ble t 107 with | true => (match Nat.ble t 99 with | true => (match Nat.ble t 95 with | true => (match Nat.ble t 93 with | true => 8 | false => (match Nat.ble t 94 with | true => 8 | false => 8)) | false => (match Nat.ble t 97 with | true => (match Nat.ble t 96 with | true => 8 | false => 8) | false => (match Nat.ble t 98 with | true => 8 | false => 8))) | false => (match Nat.ble t 103 with | true => (match Nat.ble t 101 with | true => (match Nat.ble t 100 with | true => 8 | false => 96) | false => (match Nat.ble t 102 with | true => 8 | false => 8)) | false => (match Nat.ble t 105 with | true => (match Nat.ble t 104 with | true => 224 | false => 224) | false => (match Nat.ble t 106 with | true => 672 | false => 8)))) | false => (match Nat.ble t 115 with | true => (match Nat.ble t 111 with | true => (match Nat.ble t 109 with | true => (match Nat.ble t 108 with | true => 8 | false => 8) | false => (match Nat.ble t 110 with | true => 24 | false => 8)) | false => (match Nat.ble t 113 with | true => (match Nat.ble t 112 with | true => 48 | false => 8) | false => (match Nat.ble t 114 with | true => 24 | false => 24))) | false => (match Nat.ble t 119 with | true => (match Nat.ble t 117 with | true => (match Nat.ble t 116 with | true => 8 | false => 8) | false => (match Nat.ble t 118 with | true => 8 | false => 8)) | false => (match Nat.ble t 121 with | true => (match Nat.ble t 120 with | true => 8 | false => 8) | false => (match Nat.ble t 122 with | true => 8 | false => 8))))))) | false => (match Nat.ble t 185 with | true => (match Nat.ble t 154 with | true => (match Nat.ble t 138 with | true => (match Nat.ble t 130 with | true => (match Nat.ble t 126 with | true => (match Nat.ble t 124 with | true => 32 | false => (match Nat.ble t 125 with | true => 8 | false => 8)) | false => (match Nat.ble t 128 with | true => (match Nat.ble t 127 with | true => 224 | false => 8) | false => (match Nat.ble t 129 with | true => 8 | false => 8))) | false => (match Nat.ble t 134 with | true => (match Nat.ble t 132 with | true => (match Nat.ble t 131 with | true => 8 | false => 8) | false => (match Nat.ble t 133 with | true => 8 | false => 8)) | false => (match Nat.ble t 136 with | true => (match Nat.ble t 135 with | true => 8 | false => 8) | false => (match Nat.ble t 137 with | true => 8 | false => 8)))) | false => (match Nat.ble t 146 with | true => (match Nat.ble t 142 with | true => (match Nat.ble t 140 with | true => (match Nat.ble t 139 with | true => 8 | false => 8) | false => (match Nat.ble t 141 with | true => 8 | false => 0)) | false => (match Nat.ble t 144 with | true => (match Nat.ble t 143 with | true => 8 | false => 8) | false => (match Nat.ble t 145 with | true => 24 | false => 128))) | false => (match Nat.ble t 150 with | true => (match Nat.ble t 148 with | true => (match Nat.ble t 147 with | true => 128 | false => 0) | false => (match Nat.ble t 149 with | true => 8 | false => 8)) | false => (match Nat.ble t 152 with | true => (match Nat.ble t 151 with | true => 8 | false => 0) | false => (match Nat.ble t 153 with | true => 8 | false => 8))))) | false => (match Nat.ble t 169 with | true => (match Nat.ble t 161 with | true => (match Nat.ble t 157 with | true => (match Nat.ble t 155 with | true => 8 | false => (match Nat.ble t 156 with | true => 8 | false => 8)) | false => (match Nat.ble t 159 with | true => (match Nat.ble t 158 with | true => 4 | false => 8) | false => (match Nat.ble t 160 with | true => 8 | false => 8))) | false => (match Nat.ble t 165 with | true => (match Nat.ble t 163 with | true => (match Nat.ble t 162 with | true => 8 | false => 0) | false => (match Nat.ble t 164 with | true => 8 | false => 8)) | false => (match Nat.ble t 167 with | true => (match Nat.ble t 166 with | true => 8 | false => 8) | false => (match Nat.ble t 168 with | true => 8 | false => 8)))) | false => (match Nat.ble t 177 with | true => (match Nat.ble t 173 with | true => (match Nat.ble t 171 with | true => (match Nat.ble t 170 with | true => 8 | false => 8) | false => (match Nat.ble t 172 with | true => 8 | false => 8)) | false => (match Nat.ble t 175 with | true => (match Nat.ble t 174 with | true => 24 | false => 24) | false => (match Nat.ble t 176 with | true => 8 | false => 8))) | false => (match Nat.ble t 181 with | true => (match Nat.ble t 179 with | true => (match Nat.ble t 178 with | true => 8 | false => 8) | false => (match Nat.ble t 180 with | true => 8 | false => 8)) | false => (match Nat.ble t 183 with | true => (match Nat.ble t 182 with | true => 8 | false => 8) | false => (match Nat.ble t 184 with | true => 8 | false => 8)))))) | false => (match Nat.ble t 216 with | true => (match Nat.ble t 200 with | true => (match Nat.ble t 192 with | true => (match Nat.ble t 188 with | true => (match Nat.ble t 186 with | true => 8 | false => (match Nat.ble t 187 with | true => 8 | false => 8)) | false => (match Nat.ble t 190 with | true => (match Nat.ble t 189 with | true => 8 | false => 8) | false => (match Nat.ble t 191 with | true => 0 | false => 8))) | false => (match Nat.ble t 196 with | true => (match Nat.ble t 194 with | true => (match Nat.ble t 193 with | true => 8 | false => 8) | false => (match Nat.ble t 195 with | true => 152 | false => 152)) | false => (match Nat.ble t 198 with | true => (match Nat.ble t 197 with | true => 8 | false => 0) | false => (match Nat.ble t 199 with | true => 8 | false => 24)))) | false => (match Nat.ble t 208 with | true => (match Nat.ble t 204 with | true => (match Nat.ble t 202 with | true => (match Nat.ble t 201 with | true => 8 | false => 8) | false => (match Nat.ble t 203 with | true => 8 | false => 224)) | false => (match Nat.ble t 206 with | true => (match Nat.ble t 205 with | true => 8 | false => 8) | false => (match Nat.ble t 207 with | true => 8 | false => 8))) | false => (match Nat.ble t 212 with | true => (match Nat.ble t 210 with | true => (match Nat.ble t 209 with | true => 8 | false => 8) | false => (match Nat.ble t 211 with | true => 0 | false => 8)) | false => (match Nat.ble t 214 with | true => (match Nat.ble t 213 with | true => 8 | false => 8) | false => (match Nat.ble t 215 with | true => 8 | false => 8))))) | false => (match Nat.ble t 232 with | true => (match Nat.ble t 224 with | true => (match Nat.ble t 220 with | true => (match Nat.ble t 218 with | true => (match Nat.ble t 217 with | true => 8 | false => 40) | false => (match Nat.ble t 219 with | true => 8 | false => 8)) | false => (match Nat.ble t 222 with | true => (match Nat.ble t 221 with | true => 20 | false => 8) | false => (match Nat.ble t 223 with | true => 8 | false => 8))) | false => (match Nat.ble t 228 with | true => (match Nat.ble t 226 with | true => (match Nat.ble t 225 with | true => 8 | false => 96) | false => (match Nat.ble t 227 with | true => 8 | false => 256)) | false => (match Nat.ble t 230 with | true => (match Nat.ble t 229 with | true => 2 | false => 2) | false => (match Nat.ble t 231 with | true => 32 | false => 0)))) | false => (match Nat.ble t 240 with | true => (match Nat.ble t 236 with | true => (match Nat.ble t 234 with | true => (match Nat.ble t 233 with | true => 8 | false => 40) | false => (match Nat.ble t 235 with | true => 40 | false => 0)) | false => (match Nat.ble t 238 with | true => (match Nat.ble t 237 with | true => 0 | false => 0) | false => (match Nat.ble t 239 with | true => 8 | false => 1))) | false => (match Nat.ble t 244 with | true => (match Nat.ble t 242 with | true => (match Nat.ble t 241 with | true => 1 | false => 8) | false => (match Nat.ble t 243 with | true => 8 | false => 4)) | false => (match Nat.ble t 246 with | true => (match Nat.ble t 245 with | true => 4 | false => 48) | false => (match Nat.ble t 247 with | true => 48 | false => 8)))))))) | false => 0
def tabFlat (t : TypeId) : Option (List CK) := match Nat.ble t 248 with | true => (match Nat.ble t 123 with | true => (match Nat.ble t 61 with | true => (match Nat.ble t 30 with | true => (match Nat.ble t 14 with | true => (match Nat.ble t 6 with | true => (match Nat.ble t 2 with | true => (match Nat.ble t 0 with | true => none | false => (match Nat.ble t 1 with | true => none | false => none)) | false => (match Nat.ble t 4 with | true => (match Nat.ble t 3 with | true => none | false => none) | false => (match Nat.ble t 5 with | true => none | false => none))) | false => (match Nat.ble t 10 with | true => (match Nat.ble t 8 with | true => (match Nat.ble t 7 with | true => none | false => none) | false => (match Nat.ble t 9 with | true => none | false => none)) | false => (match Nat.ble t 12 with | true => (match Nat.ble t 11 with | true => none | false => none) | false => (match Nat.ble t 13 with | true => none | false => none)))) | false => (match Nat.ble t 22 with | true => (match Nat.ble t 18 with | true => (match Nat.ble t 16 with | true => (match Nat.ble t 15 with | true => none | false => none) | false => (match Nat.ble t 17 with | true => none | false => none)) | false => (match Nat.ble t 20 with | true => (match Nat.ble t 19 with | true => none | false => none) | false => (match Nat.ble t 21 with | true => none | false => none))) | false => (match Nat.ble t 26 with | true => (match Nat.ble t 24 with | true => (match Nat.ble t 23 with | true => none | false => none) | false => (match Nat.ble t 25 with | true => none | false => none)) | false => (match Nat.ble t 28 with | true => (match Nat.ble t 27 with | true => none | false => some [.int .i64, .str, .str, .str]) | false => (match Nat.ble t 29 with | true => none | false => some [.int .i64, .str, .str, .str, .int .i64, .str, .str, .str, .int .i64, .str, .str, .str, .int .i64, .str, .str, .str]))))) | false => (match Nat.ble t 45 with | true => (match Nat.ble t 37 with | true => (match Nat.ble t 33 with | true => (match Nat.ble t 31 with | true => none | false => (match Nat.ble t 32 with | true => none | false => none)) | false => (match Nat.ble t 35 with | true => (match Nat.ble t 34 with | true => none | false => none) | false => (match Nat.ble t 36 with | true => none | false => none))) | false => (match Nat.ble t 41 with | true => (match Nat.ble t 39 with | true => (match Nat.ble t 38 with | true => none | false => none) | false => (match Nat.ble t 40 with | true => none | false => none)) | false => (match Nat.ble t 43 with | true => (match Nat.ble t 42 with | true => some [.int .i64, .int .i64, .str, .str, .str, .int .i64, .str, .str, .str, .int .i64, .str, .str, .str, .int .i64, .str, .str, .str, .int .i64, .str, .str, .str, .int .i64, .str, .str, .str, .int .i64, .str, .str, .str, .int .i64, .str, .str, .str, .int .i64, .str, .str, .str, .int .i64, .str, .str, .str, .int .i64, .str, .str, .str, .int .i64, .str, .str, .str] | false => none) | false => (match Nat.ble t 44 with | true => none | false => none)))) | false => (match Nat.ble t 53 with | true => (match Nat.ble t 49 with | true => (match Nat.ble t 47 with | true => (match Nat.ble t 46 with | true => none | false => none) | false => (match Nat.ble t 48 with | true => none | false => none)) | false => (match Nat.ble t 51 with | true => (match Nat.ble t 50 with | true => none | false => none) | false => (match Nat.ble t 52 with | true => none | false => none))) | false => (match Nat.ble t 57 with | true => (match Nat.ble t 55 with | true => (match Nat.ble t 54 with | true => none | false => none) | false => (match Nat.ble t 56 with | true => none | false => none)) | false => (match Nat.ble t 59 with | true => (match Nat.ble t 58 with | true => none | false => none) | false => (match Nat.ble t 60 with | true => none | false => none)))))) | false => (match Nat.ble t 92 with | true => (match Nat.ble t 76 with | true => (match Nat.ble t 68 with | true => (match Nat.ble t 64 with | true => (match Nat.ble t 62 with | true => none | false => (match Nat.ble t 63 with | true => none | false => none)) | false => (match Nat.ble t 66 with | true => (match Nat.ble t 65 with | true => none | false => none) | false => (match Nat.ble t 67 with | true => none | false => none))) | false => (match Nat.ble t 72 with | true => (match Nat.ble t 70 with | true => (match Nat.ble t 69 with | true => none | false => none) | false => (match Nat.ble t 71 with | true => none | false => none)) | false => (match Nat.ble t 74 with | true => (match Nat.ble t 73 with | true => none | false => none) | false => (match Nat.ble t 75 with | true => none | false => none)))) | false => (match Nat.ble t 84 with | true => (match Nat.ble t 80 with | true => (match Nat.ble t 78 with | true => (match Nat.ble t 77 with | true => none | false => none) | false => (match Nat.ble t 79 with | true => none | false => none)) | false => (match Nat.ble t 82 with | true => (match Nat.ble t 81 with | true => none | false => none) | false => (match Nat.ble t 83 with | true => none | false => none))) | false => (match Nat.ble t 88 with | true => (match Nat.ble t 86 with | true => (match Nat.ble t 85 with | true => none | false => none) | false => (match Nat.ble t 87 with | true => none | false => none)) | false => (match Nat.ble t 90 with | true => (match Nat.ble t 89 with | true => none | false => none) | false => (match Nat.ble t 91 with | true => none | false => none))))) | false => (match Nat.ble t 107 with | true => (match Nat.ble t 99 with | true => (match Nat.ble t 95 with | true => (match Nat.ble t 93 with | true => none | false => (match Nat.ble t 94 with | true => none | false => none)) | false => (match Nat.ble t 97 with | true => (match Nat.ble t 96 with | true => none | false => none) | false => (match Nat.ble t 98 with | true => none | false => none))) | false => (match Nat.ble t 103 with | true => (match Nat.ble t 101 with | true => (match Nat.ble t 100 with | true => none | false => none) | false => (match Nat.ble t 102 with | true => none | false => none)) | false => (match Nat.ble t 105 with | true => (match Nat.ble t 104 with | true => none | false => some [.int .i64, .str, .str, .str, .int .i64, .str, .str, .str, .int .i64, .str, .str, .str, .int .i64, .str, .str, .str]) | false => (match Nat.ble t 106 with | true => some [.int .i64, .str, .str, .str, .int .i64, .str, .str, .str, .int .i64, .str, .str, .str, .int .i64, .str, .str, .str, .int .i64, .str, .str, .str, .int .i64, .str, .str, .str, .int .i64, .str, .str, .str, .int .i64, .str, .str, .str, .int .i64, .str, .str, .str, .int .i64, .str, .str, .str, .int .i64, .str, .str, .str, .int .i64, .str, .str, .str] | false => none)))) | false => (match Nat.ble t 115 with | true => (match Nat.ble t 111 with | true => (match Nat.ble t 109 with | true => (match Nat.ble t 108 with | true => none | false => none) | false => (match Nat.ble t 110 with | true => none | false => none)) | false => (match Nat.ble t 113 with | true => (match Nat.ble t 112 with | true => some [.int .i64, .int .i64, .int .i64, .int .i64, .int .i64, .int .i64] | false => none) | false => (match Nat.ble t 114 with | true => none | false => none))) | false => (match Nat.ble t 119 with | true => (match Nat.ble t 117 with | true => (match Nat.ble t 116 with | true => none | false => none) | false => (match Nat.ble t 118 with | true => none | false => none)) | false => (match Nat.ble t 121 with | true => (match Nat.ble t 120 with | true => none | false => none) | false => (match Nat.ble t 122 with | true => none | false => none))))))) | false => (match Nat.ble t 185 with | true => (match Nat.ble t 154 with | true => (match Nat.ble t 138 with | true => (match Nat.ble t 130 with | true => (match Nat.ble t 126 with | true => (match Nat.ble t 124 with | true => none | false => (match Nat.ble t 125 with | true => none | false => none)) | false => (match Nat.ble t 128 with | true => (match Nat.ble t 127 with | true => some [.int .i64, .str, .str, .str, .int .i64, .str, .str, .str, .int .i64, .str, .str, .str, .int .i64, .str, .str, .str] | false => none) | false => (match Nat.ble t 129 with | true => none | false => none))) | false => (match Nat.ble t 134 with | true => (match Nat.ble t 132 with | true => (match Nat.ble t 131 with | true => none | false => none) | false => (match Nat.ble t 133 with | true => none | false => none)) | false => (match Nat.ble t 136 with | true => (match Nat.ble t 135 with | true => none | false => none) | false => (match Nat.ble t 137 with | true => none | false => none)))) | false => (match Nat.ble t 146 with | true => (match Nat.ble t 142 with | true => (match Nat.ble t 140 with | true => (match Nat.ble t 139 with | true => none | false => none) | false => (match Nat.ble t 141 with | true => none | false => none)) | false => (match Nat.ble t 144 with | true => (match Nat.ble t 143 with | true => none | false => none) | false => (match Nat.ble t 145 with | true => none | false => none))) | false => (match Nat.ble t 150 with | true => (match Nat.ble t 148 with | true => (match Nat.ble t 147 with | true => none | false => none) | false => (match Nat.ble t 149 with | true => none | false => none)) | false => (match Nat.ble t 152 with | true => (match Nat.ble t 151 with | true => none | false => none) | false => (match Nat.ble t 153 with | true => none | false => none))))) | false => (match Nat.ble t 169 with | true => (match Nat.ble t 161 with | true => (match Nat.ble t 157 with | true => (match Nat.ble t 155 with | true => none | false => (match Nat.ble t 156 with | true => none | false => none)) | false => (match Nat.ble t 159 with | true => (match Nat.ble t 158 with | true => none | false => none) | false => (match Nat.ble t 160 with | true => none | false => none))) | false => (match Nat.ble t 165 with | true => (match Nat.ble t 163 with | true => (match Nat.ble t 162 with | true => none | false => none) | false => (match Nat.ble t 164 with | true => none | false => none)) | false => (match Nat.ble t 167 with | true => (match Nat.ble t 166 with | true => none | false => none) | false => (match Nat.ble t 168 with | true => none | false => none)))) | false => (match Nat.ble t 177 with | true => (match Nat.ble t 173 with | true => (match Nat.ble t 171 with | true => (match Nat.ble t 170 with | true => none | false => none) | false => (match Nat.ble t 172 with | true => none | false => none)) | false => (match Nat.ble t 175 with | true => (match Nat.ble t 174 with | true => none | false => none) | false => (match Nat.ble t 176 with | true => none | false => none))) | false => (match Nat.ble t 181 with | true => (match Nat.ble t 179 with | true => (match Nat.ble t 178 with | true => none | false => none) | false => (match Nat.ble t 180 with | true => none | false => none)) | false => (match Nat.ble t 183 with | true => (match Nat.ble t 182 with | true => none | false => none) | false => (match Nat.ble t 184 with | true => none | false => none)))))) | false => (match Nat.ble t 216 with | true => (match Nat.ble t 200 with | true => (match Nat.ble t 192 with | true => (match Nat.ble t 188 with | true => (match Nat.ble t 186 with | true => none | false => (match Nat.ble t 187 with | true => none | false => none)) | false => (match Nat.ble t 190 with | true => (match Nat.ble t 189 with | true => none | false => none) | false => (match Nat.ble t 191 with | true => none | false => none))) | false => (match Nat.ble t 196 with | true => (match Nat.ble t 194 with | true => (match Nat.ble t 193 with | true => none | false => none) | false => (match Nat.ble t 195 with | true => none | false => none)) | false => (match Nat.ble t 198 with | true => (match Nat.ble t 197 with | true => none | false => none) | false => (match Nat.ble t 199 with | true => none | false => none)))) | false => (match Nat.ble t 208 with | true => (match Nat.ble t 204 with | true => (match Nat.ble t 202 with | true => (match Nat.ble t 201 with | true => none | false => none) | false => (match Nat.ble t 203 with | true => none | false => some [.int .i64, .int .i64, .int .i64, .int .i64, .int .i64, .int .i64, .int .i64, .int .i64, .int .i64, .int .i64, .int .i64, .int .i64, .int .i64, .int .i64, .int .i64, .int .i64, .int .i64, .int .i64, .int .i64, .int .i64, .int .i64, .int .i64, .int .i64, .int .i64, .int .i64, .int .i64, .int .i64, .int .i64])) | false => (match Nat.ble t 206 with | true => (match Nat.ble t 205 with | true => none | false => none) | false => (match Nat.ble t 207 with | true => none | false => none))) | false => (match Nat.ble t 212 with | true => (match Nat.ble t 210 with | true => (match Nat.ble t 209 with | true => none | false => none) | false => (match Nat.ble t 211 with | true => none | false => none)) | false => (match Nat.ble t 214 with | true => (match Nat.ble t 213 with | true => none | false => none) | false => (match Nat.ble t 215 with | true => none | false => none))))) | false => (match Nat.ble t 232 with | true => (match Nat.ble t 224 with | true => (match Nat.ble t 220 with | true => (match Nat.ble t 218 with | true => (match Nat.ble t 217 with | true => none | false => some [.int .i64, .int .i64, .int .i64, .int .i64, .int .i64]) | false => (match Nat.ble t 219 with | true => none | false => none)) | false => (match Nat.ble t 222 with | true => (match Nat.ble t 221 with | true => some [.int .i32, .int .i32, .int .i32, .int .i32, .int .i32] | false => none) | false => (match Nat.ble t 223 with | true => none | false => none))) | false => (match Nat.ble t 228 with | true => (match Nat.ble t 226 with | true => (match Nat.ble t 225 with | true => none | false => some [.int .i32, .int .i32, .int .i32, .int .i32, .int .i32, .int .i32, .int .i32, .int .i32, .int .i32, .int .i32, .int .i32, .int .i32, .int .i32, .int .i32, .int .i32, .int .i32, .int .i32, .int .i32, .int .i32, .int .i32, .int .i32, .int .i32, .int .i32, .int .i32]) | false => (match Nat.ble t 227 with | true => none | false => none)) | false => (match Nat.ble t 230 with | true => (match Nat.ble t 229 with | true => none | false => some [.int .u8, .int .u8]) | false => (match Nat.ble t 231 with | true => some [.int .u8, .int .u8, .int .u8, .int .u8, .int .u8, .int .u8, .int .u8, .int .u8, .int .u8, .int .u8, .int .u8, .int .u8, .int .u8, .int .u8, .int .u8, .int .u8, .int .u8, .int .u8, .int .u8, .int .u8, .int .u8, .int .u8, .int .u8, .int .u8, .int .u8, .int .u8, .int .u8, .int .u8, .int .u8, .int .u8, .int .u8, .int .u8] | false => none)))) | false => (match Nat.ble t 240 with | true => (match Nat.ble t 236 with | true => (match Nat.ble t 234 with | true => (match Nat.ble t 233 with | true => none | false => none) | false => (match Nat.ble t 235 with | true => none | false => none)) | false => (match Nat.ble t 238 with | true => (match Nat.ble t 237 with | true => none | false => none) | false => (match Nat.ble t 239 with | true => none | false => none))) | false => (match Nat.ble t 244 with | true => (match Nat.ble t 242 with | true => (match Nat.ble t 241 with | true => none | false => none) | false => (match Nat.ble t 243 with | true => none | false => none)) | false => (match Nat.ble t 246 with | true => (match Nat.ble t 245 with | true => none | false => none) | false => (match Nat.ble t 247 with | true => none | false => none)))))))) | false => none
def tabKey (t : TypeId) : Option (Bool × List CK) := match Nat.ble t 248 with | true => (match Nat.ble t 123 with | true => (match Nat.ble t 61 with | true => (match Nat.ble t 30 with | true => (match Nat.ble t 14 with | true => (match Nat.ble t 6 with | true => (match Nat.ble t 2 with | true => (match Nat.ble t 0 with | true => none | false => (match Nat.ble t 1 with | true => none | false => none)) | false => (match Nat.ble t 4 with | true => (match Nat.ble t 3 with | true => some (false, [.int .i64]) | false => none) | false => (match Nat.ble t 5 with | true => none | false => none))) | false => (match Nat.ble t 10 with | true => (match Nat.ble t 8 with | true => (match Nat.ble t 7 with | true => none | false => none) | false => (match Nat.ble t 9 with | true => none | false => none)) | false => (match Nat.ble t 12 with | true => (match Nat.ble t 11 with | true => none | false => none) | false => (match Nat.ble t 13 with | true => none | false => none)))) | false => (match Nat.ble t 22 with | true => (match Nat.ble t 18 with | true => (match Nat.ble t 16 with | true => (match Nat.ble t 15 with | true => none | false => none) | false => (match Nat.ble t 17 with | true => none | false => none)) | false => (match Nat.ble t 20 with | true => (match Nat.ble t 19 with | true => none | false => none) | false => (match Nat.ble t 21 with | true => none | false => none))) | false => (match Nat.ble t 26 with | true => (match Nat.ble t 24 with | true => (match Nat.ble t 23 with | true => none | false => none) | false => (match Nat.ble t 25 with | true => none | false => none)) | false => (match Nat.ble t 28 with | true => (match Nat.ble t 27 with | true => none | false => none) | false => (match Nat.ble t 29 with | true => none | false => some (true, [.int .i64, .str, .str, .str, .int .i64, .str, .str, .str, .int .i64, .str, .str, .str, .int .i64, .str, .str, .str])))))) | false => (match Nat.ble t 45 with | true => (match Nat.ble t 37 with | true => (match Nat.ble t 33 with | true => (match Nat.ble t 31 with | true => none | false => (match Nat.ble t 32 with | true => none | false => none)) | false => (match Nat.ble t 35 with | true => (match Nat.ble t 34 with | true => none | false => none) | false => (match Nat.ble t 36 with | true => none | false => none))) | false => (match Nat.ble t 41 with | true => (match Nat.ble t 39 with | true => (match Nat.ble t 38 with | true => none | false => none) | false => (match Nat.ble t 40 with | true => none | false => none)) | false => (match Nat.ble t 43 with | true => (match Nat.ble t 42 with | true => none | false => none) | false => (match Nat.ble t 44 with | true => none | false => none)))) | false => (match Nat.ble t 53 with | true => (match Nat.ble t 49 with | true => (match Nat.ble t 47 with | true => (match Nat.ble t 46 with | true => none | false => none) | false => (match Nat.ble t 48 with | true => none | false => none)) | false => (match Nat.ble t 51 with | true => (match Nat.ble t 50 with | true => none | false => none) | false => (match Nat.ble t 52 with | true => none | false => none))) | false => (match Nat.ble t 57 with | true => (match Nat.ble t 55 with | true => (match Nat.ble t 54 with | true => none | false => none) | false => (match Nat.ble t 56 with | true => none | false => none)) | false => (match Nat.ble t 59 with | true => (match Nat.ble t 58 with | true => none | false => none) | false => (match Nat.ble t 60 with | true => none | false => none)))))) | false => (match Nat.ble t 92 with | true => (match Nat.ble t 76 with | true => (match Nat.ble t 68 with | true => (match Nat.ble t 64 with | true => (match Nat.ble t 62 with | true => none | false => (match Nat.ble t 63 with | true => none | false => none)) | false => (match Nat.ble t 66 with | true => (match Nat.ble t 65 with | true => none | false => none) | false => (match Nat.ble t 67 with | true => none | false => none))) | false => (match Nat.ble t 72 with | true => (match Nat.ble t 70 with | true => (match Nat.ble t 69 with | true => none | false => none) | false => (match Nat.ble t 71 with | true => none | false => none)) | false => (match Nat.ble t 74 with | true => (match Nat.ble t 73 with | true => none | false => none) | false => (match Nat.ble t 75 with | true => none | false => none)))) | false => (match Nat.ble t 84 with | true => (match Nat.ble t 80 with | true => (match Nat.ble t 78 with | true => (match Nat.ble t 77 with | true => none | false => none) | false => (match Nat.ble t 79 with | true => none | false => none)) | false => (match Nat.ble t 82 with | true => (match Nat.ble t 81 with | true => none | false => none) | false => (match Nat.ble t 83 with | true => none | false => none))) | false => (match Nat.ble t 88 with | true => (match Nat.ble t 86 with | true => (match Nat.ble t 85 with | true => none | false => none) | false => (match Nat.ble t 87 with | true => none | false => none)) | false => (match Nat.ble t 90 with | true => (match Nat.ble t 89 with | true => none | false => none) | false => (match Nat.ble t 91 with | true => none | false => none))))) | false => (match Nat.ble t 107 with | true => (match Nat.ble t 99 with | true => (match Nat.ble t 95 with | true => (match Nat.ble t 93 with | true => none | false => (match Nat.ble t 94 with | true => none | false => none)) | false => (match Nat.ble t 97 with | true => (match Nat.ble t 96 with | true => none | false => none) | false => (match Nat.ble t 98 with | true => none | false => none))) | false => (match Nat.ble t 103 with | true => (match Nat.ble t 101 with | true => (match Nat.ble t 100 with | true => none | false => none) | false => (match Nat.ble t 102 with | true => none | false => none)) | false => (match Nat.ble t 105 with | true => (match Nat.ble t 104 with | true => none | false => some (true, [.int .i64, .str, .str, .str, .int .i64, .str, .str, .str, .int .i64, .str, .str, .str, .int .i64, .str, .str, .str])) | false => (match Nat.ble t 106 with | true => none | false => none)))) | false => (match Nat.ble t 115 with | true => (match Nat.ble t 111 with | true => (match Nat.ble t 109 with | true => (match Nat.ble t 108 with | true => none | false => none) | false => (match Nat.ble t 110 with | true => none | false => none)) | false => (match Nat.ble t 113 with | true => (match Nat.ble t 112 with | true => none | false => none) | false => (match Nat.ble t 114 with | true => none | false => none))) | false => (match Nat.ble t 119 with | true => (match Nat.ble t 117 with | true => (match Nat.ble t 116 with | true => none | false => none) | false => (match Nat.ble t 118 with | true => none | false => none)) | false => (match Nat.ble t 121 with | true => (match Nat.ble t 120 with | true => none | false => none) | false => (match Nat.ble t 122 with | true => none | false => none))))))) | false => (match Nat.ble t 185 with | true => (match Nat.ble t 154 with | true => (match Nat.ble t 138 with | true => (match Nat.ble t 130 with | true => (match Nat.ble t 126 with | true => (match Nat.ble t 124 with | true => none | false => (match Nat.ble t 125 with | true => none | false => none)) | false => (match Nat.ble t 128 with | true => (match Nat.ble t 127 with | true => none | false => none) | false => (match Nat.ble t 129 with | true => none | false => none))) | false => (match Nat.ble t 134 with | true => (match Nat.ble t 132 with | true => (match Nat.ble t 131 with | true => none | false => none) | false => (match Nat.ble t 133 with | true => none | false => none)) | false => (match Nat.ble t 136 with | true => (match Nat.ble t 135 with | true => none | false => none) | false => (match Nat.ble t 137 with | true => none | false => none)))) | false => (match Nat.ble t 146 with | true => (match Nat.ble t 142 with | true => (match Nat.ble t 140 with | true => (match Nat.ble t 139 with | true => none | false => none) | false => (match Nat.ble t 141 with | true => none | false => none)) | false => (match Nat.ble t 144 with | true => (match Nat.ble t 143 with | true => none | false => none) | false => (match Nat.ble t 145 with | true => none | false => none))) | false => (match Nat.ble t 150 with | true => (match Nat.ble t 148 with | true => (match Nat.ble t 147 with | true => none | false => none) | false => (match Nat.ble t 149 with | true => none | false => none)) | false => (match Nat.ble t 152 with | true => (match Nat.ble t 151 with | true => none | false => none) | false => (match Nat.ble t 153 with | true => none | false => none))))) | false => (match Nat.ble t 169 with | true => (match Nat.ble t 161 with | true => (match Nat.ble t 157 with | true => (match Nat.ble t 155 with | true => none | false => (match Nat.ble t 156 with | true => none | false => none)) | false => (match Nat.ble t 159 with | true => (match Nat.ble t 158 with | true => none | false => none) | false => (match Nat.ble t 160 with | true => none | false => none))) | false => (match Nat.ble t 165 with | true => (match Nat.ble t 163 with | true => (match Nat.ble t 162 with | true => none | false => none) | false => (match Nat.ble t 164 with | true => none | false => none)) | false => (match Nat.ble t 167 with | true => (match Nat.ble t 166 with | true => none | false => none) | false => (match Nat.ble t 168 with | true => none | false => none)))) | false => (match Nat.ble t 177 with | true => (match Nat.ble t 173 with | true => (match Nat.ble t 171 with | true => (match Nat.ble t 170 with | true => none | false => none) | false => (match Nat.ble t 172 with | true => none | false => none)) | false => (match Nat.ble t 175 with | true => (match Nat.ble t 174 with | true => none | false => none) | false => (match Nat.ble t 176 with | true => none | false => none))) | false => (match Nat.ble t 181 with | true => (match Nat.ble t 179 with | true => (match Nat.ble t 178 with | true => none | false => none) | false => (match Nat.ble t 180 with | true => none | false => none)) | false => (match Nat.ble t 183 with | true => (match Nat.ble t 182 with | true => none | false => none) | false => (match Nat.ble t 184 with | true => none | false => none)))))) | false => (match Nat.ble t 216 with | true => (match Nat.ble t 200 with | true => (match Nat.ble t 192 with | true => (match Nat.ble t 188 with | true => (match Nat.ble t 186 with | true => none | false => (match Nat.ble t 187 with | true => none | false => none)) | false => (match Nat.ble t 190 with | true => (match Nat.ble t 189 with | true => none | false => none) | false => (match Nat.ble t 191 with | true => none | false => none))) | false => (match Nat.ble t 196 with | true => (match Nat.ble t 194 with | true => (match Nat.ble t 193 with | true => none | false => none) | false => (match Nat.ble t 195 with | true => none | false => none)) | false => (match Nat.ble t 198 with | true => (match Nat.ble t 197 with | true => none | false => none) | false => (match Nat.ble t 199 with | true => none | false => none)))) | false => (match Nat.ble t 208 with | true => (match Nat.ble t 204 with | true => (match Nat.ble t 202 with | true => (match Nat.ble t 201 with | true => none | false => none) | false => (match Nat.ble t 203 with | true => none | false => none)) | false => (match Nat.ble t 206 with | true => (match Nat.ble t 205 with | true => none | false => none) | false => (match Nat.ble t 207 with | true => none | false => none))) | false => (match Nat.ble t 212 with | true => (match Nat.ble t 210 with | true => (match Nat.ble t 209 with | true => none | false => none) | false => (match Nat.ble t 211 with | true => none | false => none)) | false => (match Nat.ble t 214 with | true => (match Nat.ble t 213 with | true => none | false => none) | false => (match Nat.ble t 215 with | true => none | false => none))))) | false => (match Nat.ble t 232 with | true => (match Nat.ble t 224 with | true => (match Nat.ble t 220 with | true => (match Nat.ble t 218 with | true => (match Nat.ble t 217 with | true => none | false => none) | false => (match Nat.ble t 219 with | true => none | false => none)) | false => (match Nat.ble t 222 with | true => (match Nat.ble t 221 with | true => none | false => none) | false => (match Nat.ble t 223 with | true => none | false => none))) | false => (match Nat.ble t 228 with | true => (match Nat.ble t 226 with | true => (match Nat.ble t 225 with | true => none | false => none) | false => (match Nat.ble t 227 with | true => none | false => none)) | false => (match Nat.ble t 230 with | true => (match Nat.ble t 229 with | true => none | false => none) | false => (match Nat.ble t 231 with | true => none | false => none)))) | false => (match Nat.ble t 240 with | true => (match Nat.ble t 236 with | true => (match Nat.ble t 234 with | true => (match Nat.ble t 233 with | true => none | false => none) | false => (match Nat.ble t 235 with | true => none | false => none)) | false => (match Nat.ble t 238 with | true => (match Nat.ble t 237 with | true => none | false => none) | false => (match Nat.ble t 239 with | true => none | false => none))) | false => (match Nat.ble t 244 with | true => (match Nat.ble t 242 with | true => (match Nat.ble t 241 with | true => none | false => none) | false => (match Nat.ble t 243 with | true => none | false => none)) | false => (match Nat.ble t 246 with | true => (match Nat.ble t 245 with | true => none | false => none) | false => (match Nat.ble t 247 with | true => none | false => none)))))))) | false => none
def basesTableInts : List Int := [192, 214, 216, 246, 248, 767, 880, 893, 895, 8191, 8204, 8205, 8304, 8591, 11264, 12271, 12289, 55295, 63744, 64975, 65008, 65533, 65536, 983039]
def basesTableRows : List (List SV) := basesTableInts.map fun x => [.int .i32 x]
def tab : Tab := { sh := tabSh, size := tabSize, zero := tabZero, bytes := tabBytes, flat := tabFlat, key := tabKey, globs := [(1, .rows 1 basesTableRows)] }
theorem tabOK : TabOK Tryz.prog tab := by
  refine tabOK_of 249 (by kernel_rfl) (fun t ht => ?_)
  have h : Nat.ble t 248 = false := by
    cases e : Nat.ble t 248
    · rfl
    · have := Nat.le_of_ble_eq_true e; omega
  exact ⟨by simp only [tab, tabSh, h], by simp only [tab, tabZero, h], by simp only [tab, tabFlat, h], by simp only [tab, tabKey, h]⟩
theorem mixed : Tryz.prog.follows .mixedOrders = true := by kernel_rfl
end Go.Proofs.YtjbbkimodgffiaaGreatDoor
/- What comes in, told to the engine; package variables; from a contract to a row's walk. Conditions: none. -/
set_option linter.unusedVariables false
set_option linter.unusedSimpArgs false
namespace Go.Sx
open Go
/-- A contract about what came in to be looked at, as a call. -/
theorem Does.callsS {P : Program} {T : Tab} {g : FuncId} {args : List SV} {r : SV} {vs : List Value} {w : World} {η0 : Env} {S : Hps} {k : Nat} (hk : η0.length = k) (sp : Does P T g k args [] S (ValK k r)) (eg : ∀ args w, (callFunc g args).run P w = .ok (.enter g args) w) (hd : DenL η0 args vs)
    (hs : ∀ p ∈ S, HpSat η0 w false (.loc p.1) p.2) (he : ∀ (i : Nat) (e : Ent), η0[i]? = some (some e) → e.g < w.heap.size)
    (hg : ∀ g h, lkp g T.globs = some h → HpSat [] w false (.glob g) h ∧ g < w.heap.size) :
    Calls P g ⟨vs⟩ w fun e w' => ∃ v η', e = .returned v ∧ Den η' r v ∧ FrW w w' fun _ => False := by
  have hmem : ∀ {S : Hps} {i : Nat} {h : Hp}, lkpB (.loc i) (shB S) = some h → (i, h) ∈ S := by
    intro S
    induction S with
    | nil => intro i h hh; simp [shB, lkpB] at hh
    | cons p S ih =>
      intro i h hh
      obtain ⟨j, h'⟩ := p
      simp only [shB, List.map_cons, lkpB, blkEq] at hh
      cases hb : Nat.beq i j with
      | true =>
        rw [hb] at hh
        have := beq_eq hb
        subst this
        injection hh with hh
        subst hh
        exact List.mem_cons_self ..
      | false =>
        rw [hb] at hh
        exact List.mem_cons_of_mem _ (ih hh)
  have hpl : ∀ g h, lkp g T.globs = some h → plainH h = true := by
    intro g h hh
    have := lkp_mem hh
    exact List.all_eq_true.1 T.gplain _ this
  have H : HeapOK ⟨P, ⟨T, 0, shB S, none⟩, w, fun _ => False, η0⟩ η0 w [] k := ⟨List.prefix_rfl, hk, ⟨fun i h hi => by simp [lkp] at hi, fun i j h h' n hi => by simp [lkp] at hi⟩, FrW.refl _ _, fun b h hb => by
    cases b with
    | loc i =>
      exact ⟨hs _ (hmem hb), fun n f => ⟨(hs _ (hmem hb)).feet_lt f, fun h => h⟩⟩
    | glob g =>
      obtain ⟨h1, h2⟩ := hg g h hb
      exact ⟨h1.plain (hpl g h hb), fun n f => ⟨(h1.plain (η' := η0) (hpl g h hb)).feet_lt f, fun h => h⟩⟩⟩
  have hF : (fun _ => False : Nat → Prop) = blocksOf η0 w [] := by
    funext n; simp [blocksOf, lkp]
  rcases sp.out ⟨P, ⟨T, 0, shB S, none⟩, w, fun _ => False, η0⟩ vs rfl rfl hF rfl H hd with ⟨g', h1, h2⟩ | ⟨v, w', h1, _⟩
  · rw [eg] at h1
    injection h1 with h1 _
    injection h1 with h1 _
    subst h1
    refine h2.mono fun e w' hee => ?_
    obtain ⟨v, rfl, r', O', nx', η', ⟨rfl, rfl, rfl⟩, _, h4, h5⟩ := hee
    exact ⟨v, η', rfl, h5, h4.fr⟩
  · rw [eg] at h1; cases h1
end Go.Sx
namespace Go.Our
open Go.RowKit Go.ChangeShapes Go.WideShapes Go.ChangeAt Go.Sx
section
variable {H : Type} {enc : TypeId × Value → H} {P : Program} {w : World}
/-- A slice that came in: what the engine may say of it. -/
def SliceIn (w : World) (v : Value) (es : Nat) (rs : List (List SV)) (en : Option Ent) : Prop :=
  (∀ x, en = some x → x.g < w.heap.size) ∧ ∀ (η : Env) (i : Nat), η[i]? = some en → Den η (.sl (.loc i) 0 es rs.length none) v ∧ HpSat η w false (.loc i) (.rows es rs)
theorem cell_of_cells {base : Nat} {a : Addr} {n : Nat} {cs : List Value} (h : w.cells? base a n = some cs) : cs.length = n ∧ ∀ j, j < n → w.cell? (a.add j) = cs[j]? := ⟨(World.cells?_some h).2.1, (World.cells?_some h).2.2⟩
theorem slice_in {α : Type} {t e : TypeId} {es : Nat} {v : Value} {d : DataW H} {p : List MemPlace} {r : Reach} {b0 : Nat} (cellsL : α → List Value) (dat : α → DataW H) (row : α → List SV) (hes : 0 < es)
    (hlen : ∀ a, (cellsL a).length = es ∧ (row a).length = es) (hrow : ∀ (η : Env) (a : α) (j : Nat) (sv : SV), (row a)[j]? = some sv → ∃ u, (cellsL a)[j]? = some u ∧ u.oneCell' = true ∧ Den η sv u)
    (ht : P.underlying t = some (.slice e)) (hc : P.cellsOf e = es) (el : ∀ fuel cs (x : DataW H × List MemPlace), DataW.trod enc P w 0 (fun _ => true) true fuel e cs = some x → ∃ a : α, cs = cellsL a ∧ x = (dat a, []))
    (ho : Value.okWide P w r b0 t v) (h : DataW.Trod enc P w 0 (fun _ => true) true t v d p) :
    ∃ (l : List α) (en : Option Ent), SliceIn w v es (l.map row) en ∧ ((l = [] ∧ d = .nil) ∨ ∃ z : List α, d = .slice (l.map dat) (z.map dat)) := by
  obtain ⟨fuel, hf⟩ := h
  obtain ⟨a0, l0, c0, rfl⟩ := okWide_slice ht ho
  have hcells : (Value.slice a0 l0 c0).cells.toList = [Value.slice a0 l0 c0] := rfl
  rw [hcells] at hf
  rcases DataW.trod_slice ht hf with ⟨hcs, hx⟩ | ⟨a, len, cap, elems, rest, n, _, hcs, hx, hb, hl, hm, hlen2, hel, hsp, hns⟩
  · injection hcs with hcs _
    injection hx with hx _
    injection hcs with h1 h2 h3
    subst h1 h2 h3 hx
    refine ⟨[], none, ⟨fun x hx => (by cases hx), fun η i hi => ?_⟩, .inl ⟨rfl, rfl⟩⟩
    refine ⟨?_, ?_⟩
    · unfold Den; exact .inl ⟨hi, rfl, rfl⟩
    · unfold HpSat; exact .inl ⟨hi, rfl⟩
  · injection hcs with hcs _
    injection hx with hx _
    injection hcs with h1 h2 h3
    subst h1 h2 h3
    simp only [Value.okWide, ht, Cell.okWide, Cell.ok] at ho
    obtain ⟨_, _, _, hspot, rw', cl, hsh, _⟩ := ho
    obtain ⟨ab, ao, asp⟩ := a
    simp only at hspot hsh
    subst hspot
    obtain ⟨arr, T, fz, hheap⟩ : ∃ arr T fz, w.heap[ab]? = some (.cells arr T fz) := by
      unfold World.shape? at hsh
      split at hsh
      · rename_i c e' f' hh; exact ⟨_, _, _, hh⟩
      · cases hsh
    -- each element
    have each : ∀ (i : Nat) y, (elems ++ rest)[i]? = some y → ∃ x : α, y = (dat x, []) ∧ ∀ j, j < es → w.cell? ⟨ab, ao + i * es + j, none⟩ = (cellsL x)[j]? := by
      intro i y hy
      have hb' : (w.cells? 0 ((⟨ab, ao, none⟩ : Addr).add (i * P.cellsOf e)) (P.cellsOf e)).bind (DataW.trod enc P w 0 (fun _ => true) true n e) = some y := by
        by_cases hi : i < l0
        · rw [hel i hi, ← hy, List.getElem?_append_left (by omega)]
        · obtain ⟨hrl, hr⟩ := hsp rfl
          have hlt := (List.getElem?_eq_some_iff.1 hy).1
          simp only [List.length_append] at hlt
          have := hr (i - l0) (by omega)
          rw [show l0 + (i - l0) = i by omega] at this
          rw [this, ← hy, List.getElem?_append_right (by omega), hlen2]
      obtain ⟨cs', hcs', hy'⟩ := Option.bind_eq_some_iff.1 hb'
      obtain ⟨x, rfl, rfl⟩ := el _ _ _ hy'
      refine ⟨x, rfl, fun j hj => ?_⟩
      rw [hc] at hcs'
      rw [← (cell_of_cells hcs').2 j hj]
      congr 1
      unfold Addr.add
      split <;> split <;> simp_all <;> omega
    have list : ∀ (ys : List (DataW H × List MemPlace)) (k : Nat), (∀ i y, ys[i]? = some y → (elems ++ rest)[k + i]? = some y) → ∃ xs : List α, ys.map (·.1) = xs.map dat ∧ xs.length = ys.length ∧ ∀ (i : Nat) x, xs[i]? = some x → ∀ j, j < es → w.cell? ⟨ab, ao + (k + i) * es + j, none⟩ = (cellsL x)[j]? := by
      intro ys
      induction ys with
      | nil => intro k _; exact ⟨[], rfl, rfl, fun i x hx => by simp at hx⟩
      | cons y ys ih =>
        intro k hk
        obtain ⟨x, hx1, hx2⟩ := each (k + 0) y (hk 0 y rfl)
        obtain ⟨xs, h1, h2, h3⟩ := ih (k + 1) fun i y' hy' => by rw [show k + 1 + i = k + (i + 1) by omega]; exact hk (i + 1) y' (by simpa using hy')
        refine ⟨x :: xs, by simp [h1, hx1], by simp [h2], fun i z hz j hj => ?_⟩
        cases i with
        | zero => simp at hz; subst hz; exact hx2 j hj
        | succ i => simp at hz; rw [show k + (i + 1) = k + 1 + i by omega]; exact h3 i z hz j hj
    obtain ⟨xs, h1, h2, h3⟩ := list elems 0 fun i y hy => by rw [Nat.zero_add, List.getElem?_append_left (List.getElem?_eq_some_iff.1 hy).1]; exact hy
    obtain ⟨zs, h4, _, _⟩ := list rest elems.length fun i y hy => by rw [List.getElem?_append_right (by omega)]; simpa using hy
    refine ⟨xs, some ⟨ab, ao, c0⟩, ⟨fun x hx => ?_, fun η i hi => ⟨?_, ?_⟩⟩, .inr ⟨zs, by rw [hx, h1, h4]⟩⟩
    · injection hx with hx; subst hx; exact (Array.getElem?_eq_some_iff.1 hheap).1
    · simp only [Den, Env.get]
      refine .inr ⟨⟨ab, ao, c0⟩, ao, hi, ?_, ?_, Nat.le_refl _, fun _ => by simp⟩
      · simp only [Option.getD_none, Nat.sub_zero, List.length_map, h2, hlen2]
      · simp only [Option.getD_none, List.length_map, h2, hlen2]; omega
    · simp only [HpSat, Env.get]
      refine .inr ⟨⟨ab, ao, c0⟩, arr, T, fz, hi, hheap, fun h => (by cases h), fun k rw1 hk => ?_⟩
      rw [List.getElem?_map] at hk
      obtain ⟨x, hx, rfl⟩ := Option.map_eq_some_iff.1 hk
      refine ⟨(hlen x).2, fun j sv hj => ?_⟩
      obtain ⟨u, hu1, hu2, hu3⟩ := hrow η x j sv hj
      have hj2 : j < es := by rw [← (hlen x).2]; exact (List.getElem?_eq_some_iff.1 hj).1
      have := h3 k x hx j hj2
      rw [Nat.zero_add, hu1] at this
      unfold World.cell? at this
      simp only [hheap] at this
      exact ⟨u, by simpa using this, hu2, hu3⟩
end
theorem SliceIn.den {α : Type} {W : World} {v : Value} {es : Nat} {l : List α} {row : α → List SV} {en : Option Ent} (h : SliceIn W v es (l.map row) en) {η : Env} {i : Nat} (hi : η[i]? = some en) : Den η (.sl (.loc i) 0 es l.length none) v := by
  have := (h.2 η i hi).1; rwa [List.length_map] at this
theorem SliceIn.sat {W : World} {v : Value} {es : Nat} {rs : List (List SV)} {en : Option Ent} (h : SliceIn W v es rs en) {η : Env} {i : Nat} (hi : η[i]? = some en) : HpSat η W false (.loc i) (.rows es rs) := (h.2 η i hi).2
end Go.Our
namespace Go.Proofs.YtjbbkimodgffiaaGreatDoor
open Go.RowKit Go.Our Go.ChangeShapes Go.WideShapes Go.ChangeAt Go.Sx
/-- What the walk takes for granted of the package variables. -/
abbrev GlobOK (W : World) : Prop := ∀ g h, lkp g tab.globs = some h → HpSat [] W false (.glob g) h ∧ g < W.heap.size
/-- A law that answers true, whatever came in. -/
theorem law_callsS {g : FuncId} {args : List SV} {vs : List Value} {W : World} {η0 : Env} {S : Hps} {k : Nat} (hk : η0.length = k) (sp : Does Tryz.prog tab g k args [] S (ValK k (.bool true))) (eg : ∀ args w, (callFunc g args).run Tryz.prog w = .ok (.enter g args) w) (hd : DenL η0 args vs)
    (hs : ∀ p ∈ S, HpSat η0 W false (.loc p.1) p.2) (he : ∀ (i : Nat) (e : Ent), η0[i]? = some (some e) → e.g < W.heap.size) (hg : GlobOK W) :
    Calls Tryz.prog g ⟨vs⟩ W fun e W' => e = .returned (.bool true) ∧ Below W.heap.size W W' := by
  refine (sp.callsS hk eg hd hs he hg).mono fun e W' ⟨v, η', he, hv, hf⟩ => ?_
  simp only [Den] at hv
  subst hv
  exact ⟨he, hf.os, hf.tape, hf.output, hf.size, fun k hk => hf.block k hk fun h => h⟩
theorem law_calls2 {g : FuncId} {args : List SV} {vs : List Value} {W : World} {v v' : Value} {es es' : Nat} {rs rs' : List (List SV)} {en en' : Option Ent} (h : SliceIn W v es rs en) (h' : SliceIn W v' es' rs' en') (sp : Does Tryz.prog tab g 2 args [] [(0, .rows es rs), (1, .rows es' rs')] (ValK 2 (.bool true))) (eg : ∀ args w, (callFunc g args).run Tryz.prog w = .ok (.enter g args) w) (hd : DenL [en, en'] args vs) (hg : GlobOK W) :
    Calls Tryz.prog g ⟨vs⟩ W fun e W' => e = .returned (.bool true) ∧ Below W.heap.size W W' := by
  refine law_callsS (η0 := [en, en']) rfl sp eg hd (fun p hp => ?_) (fun i e hi => ?_) hg
  · rcases List.mem_cons.1 hp with rfl | hp
    · exact h.sat rfl
    · have hp := List.mem_singleton.1 hp
      subst hp; exact h'.sat rfl
  · match i, hi with
    | 0, hi => injection hi with hi; exact h.1 e hi
    | 1, hi => injection hi with hi; exact h'.1 e hi
end Go.Proofs.YtjbbkimodgffiaaGreatDoor
