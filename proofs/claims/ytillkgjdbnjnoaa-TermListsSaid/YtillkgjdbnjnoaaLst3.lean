/- Part 3 of the texts that the last one leans on: SxRange, Sets1, Sets2, SortS, ListS, Sets3, Sets6, ListM, SxKeep, Fits7, Terms7, RTerms7. Conditions: as each part says. -/
import Derived.RangeFuncNested
import Derived.Shelf.Sort.Plain
import Derived.Shelf.Slices.In.SortNone
import Derived.Test.YtillkgjdbnjnoaaLst2
/- Calls walked in place, in the caller's own heap; ranges over functions, the function's walk and the rounds in one. Conditions: none. -/
set_option linter.unusedVariables false
set_option linter.unusedSimpArgs false
namespace Go.Sx
open Go
/-- The same, in another frame, and with these names for what lay there. -/
def Mx.at (M : Mx) (N : Nat) (ro : Option (Nat × Nat)) (η : Env) : Mx := ⟨M.P, ⟨M.C.T, N, M.C.S, ro⟩, M.w0, M.F, η⟩
/-- What stands at the end of a function that is walked in place. -/
def endI (M : Mx) (res : List ResultVar) (K : SV → Hps → Nat → Prop) : Post
  | .normal, fr, O, nx => offGo fr O fun O => retGo M.C fr O res fun vs => K (oneOf vs) O nx
  | .ret, fr, O, nx => offGo fr O fun O => retGo M.C fr O res fun vs => K (oneOf vs) O nx
  | .exit _, _, _, _ => STOP "exit"
/-- The arguments of a round in the slots of what is yielded. -/
def putAK : List Nat → List SV → Fr → (Fr → Prop) → Prop
  | [], ags, fr, K => match ags with
    | [] => match isDfs (lkp DS fr) with
      | true => STOP "round"
      | false => K fr
    | _ :: _ => STOP "round"
  | p :: ps, ags, fr, K => match ags with
    | a :: ags => putAK ps ags ((p, a) :: fr) K
    | [] => STOP "round"
/-- A round's end. -/
def roundB (j : Nat) (K : SV → Hps → Nat → Prop) : Post := fun e fr O nx => match lkp j O with
  | some h => match h with
    | .lp st li fr0 => match st with
      | .busy => match e with
        | .normal => setKK j (.lp .ready li fr0) O fun O => K (.bool true) O nx
        | .ret => setKK j (.lp (.left none) li fr0) O fun O => K (.bool false) O nx
        | .exit id => setKK j (.lp (.left (some id)) li fr0) O fun O => K (.bool false) O nx
      | _ => STOP "record"
    | _ => STOP "record"
  | none => STOP "record"
/-- The body of a round, behind the assignments. -/
def roundA (M : Mx) (j : Nat) (body : Code) (K : SV → Hps → Nat → Prop) : Post := fun e fr O nx => match e with
  | .normal => match lkp j O with
    | some h => match h with
      | .lp st li fr0 => match st with
        | .ready => setKK j (.lp .busy li fr0) O fun O => run M body fr O nx (roundB j K)
        | _ => STOP "record"
      | _ => STOP "record"
    | none => STOP "record"
  | _ => STOP "assignment"
/-- A frame without the calls that are put off. -/
def noDS : Fr → (Fr → Prop) → Prop
  | [], K => K []
  | (t, v) :: r, K => match Nat.beq t DS with
    | true => noDS r K
    | false => noDS r fun r => K ((t, v) :: r)
/-- The frame behind a loop: the place for what its rounds put off is marked. -/
def addDS (fr : Fr) (d : Nat) (K : Fr → Prop) : Prop := match lkp DS fr with
  | some v => match v with
    | .dfs l => K ((DS, .dfs (.ptr (.loc d) 0 0 0 :: l)) :: fr)
    | _ => K ((DS, .dfs [.ptr (.loc d) 0 0 0]) :: fr)
  | none => K ((DS, .dfs [.ptr (.loc d) 0 0 0]) :: fr)
/-- Behind the function that was ranged over: ags the rounds have left the loop. -/
def rangeK (j : Nat) (frK : (Fr → Prop) → Prop) (Q : Post) : SV → Hps → Nat → Prop := fun _ O nx => match lkp j O with
  | some h => match h with
    | .lp st _ _ => match st with
      | .ready => delKK j O fun O => frK fun fr => Q .normal fr O nx
      | .busy => STOP "record"
      | .left jump => match jump with
        | none => delKK j O fun O => frK fun fr => Q .ret fr O nx
        | some id => delKK j O fun O => frK fun fr => Q (.exit id) fr O nx
    | _ => STOP "record"
  | none => STOP "record"
section
variable {M : Mx} {η : Env} {w : World} {O : Hps} {nx : Nat}
theorem SOK.longer (h : SOK M) {η : Env} (hp : M.η0 <+: η) {N : Nat} {ro : Option (Nat × Nat)} : SOK (M.at N ro η) := by
  intro b hh hb
  have hb' : lkS M.C b = some hh := by cases b <;> exact hb
  obtain ⟨h1, h2⟩ := h b hh hb'
  obtain ⟨x, hx, _⟩ := h1.lt
  exact ⟨h1.mono hp, fun k f => h2 k (feet.less hp hx f)⟩
theorem HeapOK.at (H : HeapOK M η w O nx) {N : Nat} {ro : Option (Nat × Nat)} : HeapOK (M.at N ro η) η w O nx := ⟨List.prefix_rfl, H.len, H.own, H.fr, H.sok.longer H.pre⟩
theorem HeapOK.back {η0 : Env} {N : Nat} {ro : Option (Nat × Nat)} (H : HeapOK (M.at N ro η0) η w O nx) (hp : M.η0 <+: η0) (hs : SOK M) : HeapOK M η w O nx := ⟨hp.trans H.pre, H.len, H.own, H.fr, hs⟩
/-- What a function does, by the walk of its body in the caller's own heap. -/
theorem calls_of_run (hT : TabOK M.P M.C.T) {g : FuncId} {fn : Func} {c : Code} (hf : M.P.funcs[g]? = some fn) (hb : fn.body = some c) (N : Nat) (hN : fn.ntmps = N) (hND : N ≤ DS) {args : List SV} (hlen : args.length ≤ N) {res : List ResultVar} (hres : fn.results = res.toArray)
    {K : SV → Hps → Nat → Prop} {vs : List Value} (H : HeapOK M η w O nx) (hd : DenL η args vs) (h : run (M.at N none η) c (argFr 0 args) O nx (endI (M.at N none η) res K))
    {R : Ending → World → Prop} (hR : ∀ v r w' O' nx' η', η <+: η' → HeapOK M η' w' O' nx' → Den η' r v → K r O' nx' → R (.returned v) w') : Calls M.P g ⟨vs⟩ w R := by
  have hl := denL_len hd
  refine callsIn_wide (n := 0) |>.1 (callsIn_of_wp_marks hf hb trivial ?_)
  have hm : Models (M.at N none η) η (argFr 0 args) O nx { tmps := ⟨vs⟩ ++ Array.replicate (fn.ntmps - (Array.mk vs).size) undef, defers := [] } w := by
    refine ⟨H.at, ?_, hND, argFr_nd (Nat.le_trans hlen hND), (fun l j h => by cases h), ?_⟩
    · simp only [Array.size_append, Array.size_replicate, hN, List.size_toArray]
      show vs.length + (N - vs.length) = N
      omega
    · intro t sv ht
      obtain ⟨v, _, h1, h2⟩ := argFr_ok hd ht
      have hlt := (List.getElem?_eq_some_iff.1 h1).1
      simp only [Nat.sub_zero] at h1 hlt
      rw [Array.getD_eq_getD_getElem?, Array.getElem?_append_left (by simpa using hlt)]
      have : (Array.mk vs)[t]? = some v := by simpa using h1
      rw [this]; exact h2
  refine Code.wpIn_mono ?_ (run_sound (M := M.at N none η) hT c h η _ w hm)
  have fin : ∀ {η1 : Env} {fr1 : Fr} {O1 : Hps} {nx1 : Nat} {a : Act} {w1 : World}, Models (M.at N none η) η1 fr1 O1 nx1 a w1 → (offGo fr1 O1 fun O1 => retGo (M.at N none η).C fr1 O1 res fun vs => K (oneOf vs) O1 nx1) →
      LeavesInM Fence.wide 0 M.P fn a.tmps R a.defers .returning w1 := by
    intro η1 fr1 O1 nx1 a w1 hm1 hr
    exact end_sound (M := M.at N none η) hT hres hm1 hr fun w2 O2 v r H2 hd2 hk => hR v r w2 O2 nx1 η1 H2.pre (H2.back H.pre H.sok) hd2 hk
  intro e a w hq
  cases e with
  | normal => obtain ⟨η1, fr1, O1, nx1, hm1, hq⟩ := hq; exact fin hm1 hq
  | ret => obtain ⟨η1, fr1, O1, nx1, hm1, hq⟩ := hq; exact fin hm1 hq
  | exit id => obtain ⟨η1, fr1, O1, nx1, hm1, hq⟩ := hq; exact hq.out.elim
  | goto l => exact hq.elim
  | panic ch => exact hq.elim
  | outgrown => exact hq.elim
/-! ### Rounds -/
def setAll : List Nat → List Value → Array Value → Array Value
  | p :: ps, v :: vs, t => setAll ps vs (t.setIfInBounds p v)
  | _, _, t => t
theorem foldl_setAll : ∀ (ps : List Nat) (vs : List Value) (t : Array Value), ((ps.toArray.zip ⟨vs⟩).foldl (fun tmps (p : Nat × Value) => tmps.setIfInBounds p.1 p.2) t) = setAll ps vs t := by
  intro ps vs t
  have h1 : (ps.toArray.zip ⟨vs⟩ : Array (Nat × Value)) = (ps.zip vs).toArray := by simp
  rw [h1, ← Array.foldl_toList]
  simp only
  induction ps generalizing vs t with
  | nil => simp [setAll]
  | cons p ps ih =>
    cases vs with
    | nil => simp [setAll]
    | cons v vs =>
      simp only [List.zip_cons_cons, List.foldl_cons, setAll]
      exact ih vs (t.setIfInBounds p v) (by simp)
theorem setAll_size : ∀ (ps : List Nat) (vs : List Value) (t : Array Value), (setAll ps vs t).size = t.size
  | [], vs, t => by simp [setAll]
  | p :: ps, [], t => by simp [setAll]
  | p :: ps, v :: vs, t => by simp only [setAll]; rw [setAll_size ps vs]; simp
theorem putAK_ok {η : Env} : ∀ {ps : List Nat} {ags : List SV} {fr : Fr} {K : Fr → Prop} {vs : List Value} {t : Array Value}, putAK ps ags fr K → DenL η ags vs → TmpsOK η t fr → (∀ p ∈ ps, p < t.size) → ∃ fr', K fr' ∧ isDfs (lkp DS fr') = false ∧ TmpsOK η (setAll ps vs t) fr' ∧ vs.length = ps.length
  | [], ags, fr, K, vs, t, h, hd, ht, hp => by
    simp only [putAK] at h
    split at h
    · split at h
      · exact h.out.elim
      · rename_i hn
        simp only [DenL] at hd
        subst hd
        exact ⟨fr, h, hn, ht, rfl⟩
    · exact h.out.elim
  | p :: ps, ags, fr, K, vs, t, h, hd, ht, hp => by
    simp only [putAK] at h
    split at h
    · rename_i a ags
      simp only [DenL] at hd
      obtain ⟨u, us, rfl, h1, h2⟩ := hd
      have hpt := hp p (List.mem_cons_self ..)
      obtain ⟨fr', h3, h4, h5, h6⟩ := putAK_ok (t := t.setIfInBounds p u) h h2 (fun s sv hs => by
        rw [lkp_cons] at hs
        split at hs
        · rename_i e; subst e; injection hs with hs; subst hs
          simpa [Array.getD_eq_getD_getElem?, Array.getElem?_setIfInBounds, hpt] using h1
        · rename_i e
          rw [Array.getD_eq_getD_getElem?, Array.getElem?_setIfInBounds, if_neg (Ne.symm e), ← Array.getD_eq_getD_getElem?]
          exact ht s sv hs) (fun q hq => by rw [Array.size_setIfInBounds]; exact hp q (List.mem_cons_of_mem _ hq))
      exact ⟨fr', h3, h4, h5, by simp [h6]⟩
    · exact h.out.elim
/-- The record is turned. -/
theorem HeapOK.record (H : HeapOK M η w O nx) {j : Nat} {st st' : LpS} {li : LpI} {fr0 : Fr} (hj : lkp j O = some (.lp st li fr0)) {e : Ent} (he : η[j]? = some (some e)) :
    ∃ r, w.heap[e.g]? = some (.loop r) ∧ r.state = st.state ∧ r.pending = st.jump ∧ ∀ r' : Loop, r'.state = st'.state → r'.pending = st'.jump → r'.params = r.params → r'.assign = r.assign → r'.body = r.body → r'.tmps = r.tmps → HeapOK M η (w.putObj e.g (.loop r')) (setK j (.lp st' li fr0) O) nx := by
  have hs := (H.own.1 j _ hj).1
  simp only [HpSat] at hs
  obtain ⟨e', r, h1, h2, h3, h4, h5, h6, h7, h8, h9, h10⟩ := hs
  have h1' : η[j]? = some (some e') := h1
  rw [he] at h1'
  injection h1' with h1'
  injection h1' with h1'
  subst h1'
  have hlt := (Array.getElem?_eq_some_iff.1 h3).1
  refine ⟨r, h3, h4, h5, fun r' q1 q2 q3 q4 q5 q6 => ?_⟩
  refine H.upd hj he (fun k hk => World.putObj_heap_other hk) World.putObj_size rfl rfl rfl ?_
  simp only [HpSat]
  exact ⟨e, r', h1, h2, World.putObj_heap_same hlt, q1, q2, by rw [q3]; exact h6, by rw [q4]; exact h7, by rw [q5]; exact h8, by rw [q6]; exact h9, by rw [q6]; exact h10⟩
/-- A round: the assignments and the body are walked in place, in the frame with which the loop was come to. -/
theorem YIELD.of (hT : TabOK M.P M.C.T) {j : Nat} {li : LpI} {fr0 : Fr} {args : List SV} {K : SV → Hps → Nat → Prop} (hj : lkp j O = some (.lp .ready li fr0)) (hps : li.ps.all (fun p => Nat.blt p li.N) = true) (hND : Nat.ble li.N DS = true)
    (h : ∀ (η1 : Env) (l : Nat), η1.length = nx → putAK li.ps args fr0 fun fr => run (M.at li.N (some (l, j)) η1) li.asg fr O nx (roundA (M.at li.N (some (l, j)) η1) j li.body K)) : YIELD M j args O nx K := by
  refine ⟨fun η w vs e H hd he => ?_⟩
  obtain ⟨r, hr, hst, hpe, _⟩ := H.record (st' := .ready) hj he
  have hs := (H.own.1 j _ hj).1
  simp only [HpSat] at hs
  obtain ⟨e', r', h1, h2, h3, h4, h5, h6, h7, h8, h9, h10⟩ := hs
  have h1' : η[j]? = some (some e') := h1
  rw [he] at h1'
  injection h1' with h1'
  injection h1' with h1'
  subst h1'
  rw [hr] at h3
  injection h3 with h3
  injection h3 with h3
  subst h3
  obtain ⟨fr, hrun, hnd, htm, hlen⟩ := putAK_ok (h η e.g H.len) hd h10 (fun p hp => by rw [h9]; simpa [Nat.blt_eq] using List.all_eq_true.1 hps p hp)
  have hpr : r.params = li.ps.toArray := by rw [← h6]
  refine ⟨r.fn, _, r.assign, r.body, run_yield hr (by rw [hpr]; simpa using hlen), ?_⟩
  rw [h7, h8]
  have hfold : ((r.params.zip ⟨vs⟩).foldl (fun tmps (x : Nat × Value) => tmps.setIfInBounds x.1 x.2) r.tmps) = setAll li.ps vs r.tmps := by rw [hpr]; exact foldl_setAll li.ps vs r.tmps
  have hfold' : ((r.params.zip ⟨vs⟩).foldl (fun tmps x => match x with | (t, a) => tmps.setIfInBounds t a) r.tmps) = setAll li.ps vs r.tmps := hfold
  rw [hfold']
  generalize hMr : M.at li.N (some (e.g, j)) η = Mr at hrun
  have hTr : TabOK Mr.P Mr.C.T := by subst hMr; exact hT
  have hPr : Mr.P = M.P := by subst hMr; rfl
  have hfr : Mr.fence = Fence.wide.inRound e.g := by subst hMr; rfl
  have hm : Models Mr η fr O nx { tmps := setAll li.ps vs r.tmps, defers := [] } w := by
    subst hMr
    refine ⟨H.at, by rw [setAll_size]; exact h9, Nat.le_of_ble_eq_true hND, (DfOK.no hnd).2 rfl, fun l' j' hl => ?_, htm⟩
    injection hl with hl
    injection hl with hl1 hl2
    subst hl1 hl2
    exact ⟨e, he, rfl⟩
  refine roundIn_of_wpIn trivial ?_
  rw [← hPr, ← hfr]
  refine Code.wpIn_mono ?_ (run_sound hTr li.asg hrun η _ w hm)
  intro ex a1 w1 hq
  cases ex with
  | exit id => obtain ⟨η1, fr1, O1, nx1, hm1, hq⟩ := hq; exact hq.out.elim
  | ret => obtain ⟨η1, fr1, O1, nx1, hm1, hq⟩ := hq; exact hq.out.elim
  | goto l => exact hq.elim
  | panic ch => exact hq.elim
  | outgrown => exact hq.elim
  | normal =>
    obtain ⟨η1, fr1, O1, nx1, hm1, hq⟩ := hq
    simp only [roundA] at hq
    split at hq
    case h_2 => exact hq.out.elim
    rename_i hh hj1
    split at hq
    case h_2 => exact hq.out.elim
    rename_i st1 li1 fr01
    split at hq
    case h_2 => exact hq.out.elim
    rw [setKK_iff] at hq
    obtain ⟨e1, he1, heg⟩ := hm1.ro e.g j (by subst hMr; rfl)
    obtain ⟨r1, hr1, hs1, hp1, hup1⟩ := hm1.heap.record (st' := .busy) hj1 he1
    rw [heg] at hr1 hup1
    refine ⟨_, run_beginRound hr1 hs1, ?_⟩
    have hm2 : Models Mr η1 fr1 (setK j (.lp .busy li1 fr01) O1) nx1 a1 (w1.putObj e.g (.loop { r1 with state := .busy })) := ⟨hup1 _ rfl hp1 rfl rfl rfl rfl, hm1.size, hm1.nds, hm1.defers, hm1.ro, hm1.frame⟩
    refine Code.wpIn_mono ?_ (run_sound hTr li.body hq η1 a1 _ hm2)
    -- the end of the round
    have fin : ∀ {ex : Ex} {η2 : Env} {fr2 : Fr} {O2 : Hps} {nx2 : Nat} {a2 : Act} {w2 : World} (jump : Option Code), Models Mr η2 fr2 O2 nx2 a2 w2 → roundB j K ex fr2 O2 nx2 → (match ex with | .normal => jump = none | .ret => jump = some .ret | .exit id => jump = some (.exit id)) →
        ∃ v w', (Instr.endRound e.g jump).run Mr.P w2 = .ok v w' ∧ ∃ v', Ending.returned v = .returned v' ∧ ∃ r O' nx' η', η <+: η' ∧ HeapOK M η' w' O' nx' ∧ Den η' r v' ∧ K r O' nx' := by
      intro ex η2 fr2 O2 nx2 a2 w2 jump hm2 hq hj'
      unfold roundB at hq
      split at hq
      case h_2 => exact hq.out.elim
      rename_i hh hj2
      split at hq
      case h_2 => exact hq.out.elim
      rename_i st2 li2 fr02
      split at hq
      case h_2 => exact hq.out.elim
      obtain ⟨e2, he2, heg2⟩ := hm2.ro e.g j (by subst hMr; rfl)
      have hpre : η <+: η2 := by have := hm2.heap.pre; subst hMr; exact this
      have back : ∀ {w' : World} {O' : Hps}, HeapOK Mr η2 w' O' nx2 → HeapOK M η2 w' O' nx2 := fun h => by subst hMr; exact h.back H.pre H.sok
      cases ex with
      | normal =>
        simp only at hj'
        subst hj'
        simp only [setKK_iff] at hq
        obtain ⟨r2, hr2, hs2, hp2, hup2⟩ := hm2.heap.record (st' := .ready) hj2 he2
        rw [heg2] at hr2 hup2
        exact ⟨_, _, run_endRound none hr2, _, rfl, .bool true, _, _, η2, hpre, back (hup2 _ rfl rfl rfl rfl rfl rfl), (by simp only [Den]; rfl), hq⟩
      | ret =>
        simp only at hj'
        subst hj'
        simp only [setKK_iff] at hq
        obtain ⟨r2, hr2, hs2, hp2, hup2⟩ := hm2.heap.record (st' := .left none) hj2 he2
        rw [heg2] at hr2 hup2
        exact ⟨_, _, run_endRound (some .ret) hr2, _, rfl, .bool false, _, _, η2, hpre, back (hup2 _ rfl rfl rfl rfl rfl rfl), (by simp only [Den]; rfl), hq⟩
      | exit id =>
        simp only at hj'
        subst hj'
        simp only [setKK_iff] at hq
        obtain ⟨r2, hr2, hs2, hp2, hup2⟩ := hm2.heap.record (st' := .left (some id)) hj2 he2
        rw [heg2] at hr2 hup2
        exact ⟨_, _, run_endRound (some (.exit id)) hr2, _, rfl, .bool false, _, _, η2, hpre, back (hup2 _ rfl rfl rfl rfl rfl rfl), (by simp only [Den]; rfl), hq⟩
    intro ex a2 w2 hq2
    cases ex with
    | normal => obtain ⟨η2, fr2, O2, nx2, hm2, hq2⟩ := hq2; exact fin none hm2 hq2 rfl
    | ret => obtain ⟨η2, fr2, O2, nx2, hm2, hq2⟩ := hq2; exact fin (some .ret) hm2 hq2 rfl
    | exit id => obtain ⟨η2, fr2, O2, nx2, hm2, hq2⟩ := hq2; exact fin (some (.exit id)) hm2 hq2 rfl
    | goto l => exact hq2.elim
    | panic ch => exact hq2.elim
    | outgrown => exact hq2.elim
/-! ### The statement -/
theorem noDS_ok {K : Fr → Prop} : ∀ {fr : Fr}, noDS fr K → ∃ fr0, K fr0 ∧ lkp DS fr0 = none ∧ ∀ t v, lkp t fr0 = some v → lkp t fr = some v
  | [], h => ⟨[], h, rfl, fun t v h => h⟩
  | (d, u) :: r, h => by
    unfold noDS at h
    split at h
    · rename_i e
      have e := beq_eq e
      obtain ⟨fr0, h1, h0, h2⟩ := noDS_ok h
      refine ⟨fr0, h1, h0, fun t v ht => ?_⟩
      rw [lkp_cons]
      split
      · rename_i e2
        rw [e2, e, h0] at ht; cases ht
      · exact h2 t v ht
    · rename_i e
      have e := ne_of_beq e
      obtain ⟨fr0, h1, h0, h2⟩ := noDS_ok h
      refine ⟨(d, u) :: fr0, h1, by rw [lkp_cons, if_neg (Ne.symm e)]; exact h0, fun t v ht => ?_⟩
      rw [lkp_cons] at ht ⊢
      split
      · rename_i e; rw [if_pos e] at ht; exact ht
      · rename_i e; rw [if_neg e] at ht; exact h2 t v ht
theorem range_core (hT : TabOK M.P M.C.T) {gf g : FuncId} {fn : Func} {c : Code} {cap : List SV} (hcall : ∀ args w, (callFunc gf args).run M.P w = .ok (.enter g args) w) (hf : M.P.funcs[g]? = some fn) (hb : fn.body = some c) (N : Nat) (hN : fn.ntmps = N) (hND : N ≤ DS) (hlen : cap.length + 1 ≤ N) (hres : fn.results = #[])
    {f : Operand} {Q : Post} {a a' : Act} {η1 : Env} {w1 : World} {O1 : Hps} {n1 j l : Nat} (hev : ∃ vs, a.eval f = .func (.func gf) #[] ⟨vs⟩ ∧ DenL η1 cap vs) (H1 : HeapOK M η1 w1 O1 n1) (hj : η1[j]? = some (some ⟨l, 0, 0⟩)) {frK : (Fr → Prop) → Prop}
    (hfrK : ∀ {K : Fr → Prop}, frK K → ∃ fr', K fr' ∧ ∀ η' w' O' nx', η1 <+: η' → HeapOK M η' w' O' nx' → Models M η' fr' O' nx' a' w')
    (h : run (M.at N none η1) c (argFr 0 (.yf (.loc j) :: cap)) O1 n1 (endI (M.at N none η1) [] (rangeK j frK Q))) :
    ∃ (d : Deferred) (w1' : World) (f' : FuncId) (args : Array Value) (w2 : World), (resolve a.eval (rangeCall f l) 0).run M.P w1 = .ok d w1' ∧ (∀ f', Target.leads M.P w1' d.target d.args = some f' → M.fence.fn f') ∧ (invoke d.target d.args).run M.P w1' = .ok (.enter f' args) w2 ∧
      (M.fence.depth.isSome = true → 1 ≤ 0) ∧ CallsIn M.fence (0 - 1) M.P f' args w2 (rangePost M.fence 0 M.P l (liftQ M Q) a') := by
  obtain ⟨vs, hv, hd⟩ := hev
  refine ⟨{ target := .fn (.func gf) ⟨vs⟩, args := #[.func (.yield l) #[] #[]] }, w1, g, #[.func (.yield l) #[] #[]] ++ ⟨vs⟩, w1, ?_, fun f' _ => M.all f', ?_, (fun h => by cases h), ?_⟩
  · simp only [resolve, hv]
    simp [go_sem]
  · simp [invoke, go_sem, hcall]
  · have hargs : (#[.func (.yield l) #[] #[]] ++ (⟨vs⟩ : Array Value)) = ⟨Value.func (.yield l) #[] #[] :: vs⟩ := by apply Array.ext'; simp
    rw [hargs]
    have hd1 : DenL η1 (.yf (.loc j) :: cap) (Value.func (.yield l) #[] #[] :: vs) := by
      simp only [DenL, Den]
      exact ⟨_, _, rfl, ⟨_, hj, rfl⟩, hd⟩
    refine callsIn_wide.2 (calls_of_run hT hf hb N hN hND (by simpa using hlen) (by simpa using hres) H1 hd1 h fun v r w' O' nx' η' hp H' hd' hk => ?_)
    unfold rangeK at hk
    split at hk
    case h_2 => exact hk.out.elim
    rename_i hh hj'
    split at hk
    case h_2 => exact hk.out.elim
    rename_i st li fr0
    have hje : η'[j]? = some (some ⟨l, 0, 0⟩) := Env.get_mono (b := .loc j) hp hj
    obtain ⟨r1, hr1, hs1, hp1, _⟩ := H'.record (st' := .ready) hj' hje
    obtain ⟨s1, p1, c1, c2, c3, c4, c5, c6⟩ := r1
    simp only at hr1 hs1 hp1
    subst hs1 hp1
    have hdrop : HeapOK M η' (w'.putObj l (.loop { state := .exhausted, pending := st.jump, fn := c1, tmps := c2, params := c3, assign := c4, body := c5, defers := c6 })) (delK j O') nx' := H'.drop hj' hje (fun k hk => World.putObj_heap_other hk) World.putObj_size rfl rfl rfl (Nat.le_refl _)
    split at hk
    · rw [delKK_iff] at hk
      obtain ⟨fr', h1, h2⟩ := hfrK hk
      exact ⟨_, _, run_endLoop hr1 (by simp [LpS.state]), ⟨η', fr', _, nx', h2 η' _ _ _ hp hdrop, h1⟩⟩
    · exact hk.out.elim
    · split at hk
      · rw [delKK_iff] at hk
        obtain ⟨fr', h1, h2⟩ := hfrK hk
        exact ⟨_, _, run_endLoop hr1 (by simp [LpS.state]), wpIn_ret ⟨η', fr', _, nx', h2 η' _ _ _ hp hdrop, h1⟩⟩
      · rw [delKK_iff] at hk
        obtain ⟨fr', h1, h2⟩ := hfrK hk
        exact ⟨_, _, run_endLoop hr1 (by simp [LpS.state]), wpIn_exit ⟨η', fr', _, nx', h2 η' _ _ _ hp hdrop, h1⟩⟩
theorem addDS_ok {fr : Fr} {d : Nat} {K : Fr → Prop} (h : addDS fr d K) : ∃ l, K ((DS, .dfs (.ptr (.loc d) 0 0 0 :: l)) :: fr) ∧ ∀ {η : Env} {ds : List Deferred}, DfOK η ds (lkp DS fr) → DfL η l ds := by
  unfold addDS at h
  split at h
  · rename_i v hv
    split at h
    · rename_i l
      exact ⟨l, h, fun hd => by rw [hv] at hd; exact hd⟩
    · rename_i hn
      refine ⟨[], h, fun hd => ?_⟩
      rw [hv] at hd
      have : isDfs (some v) = false := by cases v <;> first | rfl | exact (hn _ rfl).elim
      rw [DfOK.no this] at hd
      subst hd; rfl
  · rename_i hv
    refine ⟨[], h, fun hd => ?_⟩
    rw [hv] at hd
    have hd : _ = [] := hd
    subst hd; rfl
/-- A range over a function that stands in no round: it and its rounds are walked in one. -/
theorem RANGEF.of (hT : TabOK M.P M.C.T) {f : Operand} {ps : Array Tmp} {asg body : Code} {fr : Fr} {Q : Post} {gf g : FuncId} {cap : List SV} {fn : Func} {c : Code} (hcall : ∀ args w, (callFunc gf args).run M.P w = .ok (.enter g args) w) (hf : M.P.funcs[g]? = some fn) (hb : fn.body = some c) (N : Nat) (hN : fn.ntmps = N)
    (li : LpI) (hli : li = ⟨M.C.N, ps.toList, asg, body⟩) (hv : lookF fr f = some (.fn (.func gf) [] cap)) (hlen : Nat.ble (cap.length + 1) N = true) (hres : fn.results = #[]) (hro : M.C.ro = none)
    (h : noDS fr fun fr0 => ∀ η1 : Env, η1.length = nx + 2 → run (M.at N none η1) c (argFr 0 (.yf (.loc (nx + 1)) :: cap)) ((nx + 1, .lp .ready li fr0) :: (nx, .dfr) :: O) (nx + 2) (endI (M.at N none η1) [] (rangeK (nx + 1) (addDS fr nx) Q))) (hND : Nat.ble N DS = true := by rfl) : RANGEF M f ps asg body fr O nx Q := by
  obtain ⟨fr0, h, _, hfr0⟩ := noDS_ok h
  refine ⟨fun η a w hm => wpIn_rangeFunc fun fnid _ => ?_⟩
  have hround : M.fence.round = none := by simp [Mx.fence, hro]
  rw [hround]
  obtain ⟨rec, hrec⟩ : ∃ rec : Loop, rec = { state := .ready, pending := none, fn := fnid, tmps := a.tmps, params := ps, assign := asg, body, defers := w.heap.size } := ⟨_, rfl⟩
  have hl := hm.heap.len
  obtain ⟨η1, hη1⟩ : ∃ η1 : Env, η1 = η ++ [some ⟨w.heap.size, 0, 0⟩] := ⟨_, rfl⟩
  have H1 : HeapOK M η1 (w.alloc (.deferred (some []))) ((nx, .dfr) :: O) (nx + 1) := by
    rw [hη1]
    refine hm.heap.alloc (w' := w.alloc (.deferred (some []))) (o := .deferred (some [])) (h := .dfr) rfl rfl rfl rfl 0 0 ?_
    simp only [HpSat]
    exact ⟨⟨w.heap.size, 0, 0⟩, by simp [Env.get, ← hl], rfl, World.alloc_heap_new w _⟩
  have hl1 := H1.len
  obtain ⟨η2, hη2⟩ : ∃ η2 : Env, η2 = η1 ++ [some ⟨w.heap.size + 1, 0, 0⟩] := ⟨_, rfl⟩
  have hsz : (w.alloc (.deferred (some []))).heap.size = w.heap.size + 1 := World.size_alloc _ _
  have hpre : η <+: η2 := by rw [hη2, hη1, List.append_assoc]; exact List.prefix_append _ _
  have hj2 : η2[nx + 1]? = some (some ⟨w.heap.size + 1, 0, 0⟩) := by rw [hη2, ← hl1]; simp
  have hd2 : η2[nx]? = some (some ⟨w.heap.size, 0, 0⟩) := by
    rw [hη2, List.getElem?_append_left (by omega), hη1, ← hl]; simp
  have H2 : HeapOK M η2 ((w.alloc (.deferred (some []))).alloc (.loop rec)) ((nx + 1, .lp .ready li fr0) :: (nx, .dfr) :: O) (nx + 2) := by
    have := H1.alloc (w' := (w.alloc (.deferred (some []))).alloc (.loop rec)) (o := .loop rec) (h := .lp .ready li fr0) rfl rfl rfl rfl 0 0 (by
      rw [hsz, ← hη2]
      simp only [HpSat]
      refine ⟨_, rec, hj2, rfl, by rw [← hsz]; exact World.alloc_heap_new _ _, ?_⟩
      subst hrec hli
      exact ⟨rfl, rfl, rfl, rfl, rfl, hm.size, fun t sv ht => (hm.frame t sv (hfr0 t sv ht)).mono hpre⟩)
    rw [hsz, ← hη2] at this
    exact this
  have hev : ∃ vs, a.eval f = .func (.func gf) #[] ⟨vs⟩ ∧ DenL η2 cap vs := by
    have := lookF_den hm.frame hv
    simp only [Den, DenL] at this
    obtain ⟨us, vs, h1, rfl, h3⟩ := this
    exact ⟨vs, h1, h3.mono hpre⟩
  obtain ⟨d, w1', f', args, w2, q1, q2, q3, q4, q5⟩ := range_core (a' := { a with defers := [{ target := .collected w.heap.size, args := #[] }] ++ a.defers }) hT hcall hf hb N hN (Nat.le_of_ble_eq_true hND) (Nat.le_of_ble_eq_true hlen) hres hev H2 hj2 (frK := addDS fr nx) (fun {K} hk => by
    obtain ⟨l, h1, h2⟩ := addDS_ok hk
    refine ⟨_, h1, fun η' w' O' nx' hp H' => ⟨H', hm.size, hm.nds, ?_, ro_mono (hpre.trans hp) hm.ro, fun t sv ht => ?_⟩⟩
    · rw [lkp_cons, if_pos rfl]
      exact ⟨⟨w.heap.size, 0, 0⟩, a.defers, Env.get_mono (b := .loc nx) hp hd2, rfl, h2 (hm.defers.mono (hpre.trans hp))⟩
    · rw [lkp_cons] at ht
      split at ht
      · injection ht with ht; subst ht; simp only [Den]
      · exact (hm.frame t sv ht).mono (hpre.trans hp)) (h η2 H2.len)
  refine ⟨w.heap.size + 1, [{ target := .collected w.heap.size, args := #[] }], _, d, w1', f', args, w2, run_enterLoop_outer _ _ _ _ _, ?_, q2, q3, q4, q5⟩
  rw [hrec] at q1
  exact q1
end
theorem FIN.weak {M : Mx} {O O1 : Hps} {nx n1 : Nat} {r r1 : SV} {Q : SV → Hps → Nat → Prop} (h : ∀ η w v, HeapOK M η w O nx → Den η r v → ∃ η', η <+: η' ∧ HeapOK M η' w O1 n1 ∧ Den η' r1 v) (hf : FIN M O1 n1 r1 Q) : FIN M O nx r Q :=
  ⟨fun η w v H hd => let ⟨η1, h1, h2, h3⟩ := h η w v H hd; hf.out η1 w v h2 h3⟩
theorem FIN.nil {M : Mx} {O : Hps} {nx : Nat} {Q : SV → Hps → Nat → Prop} (es : Nat) (hf : FIN M ((nx, .rows es []) :: O) (nx + 1) (.sl (.loc nx) 0 es 0 none) Q) : FIN M O nx (.val (.slice none 0 0)) Q := by
  refine FIN.weak (fun η w v H hd => ?_) hf
  have hnew : (η ++ [none])[nx]? = some none := by rw [List.getElem?_append_right (by rw [H.len]; omega), H.len]; simp
  refine ⟨η ++ [none], List.prefix_append _ _, H.push none (fun _ _ => rfl) (Nat.le_refl _) rfl rfl rfl (Nat.le_refl _) (.inl ⟨hnew, rfl⟩) (fun k f => (feet.none (b := .loc nx) hnew f).elim) (fun k f => (feet.none (b := .loc nx) hnew f).elim), ?_⟩
  simp only [Den] at hd ⊢
  exact .inl ⟨hnew, hd.1, trivial⟩
theorem det_pos {b : Blk} {r es len : Nat} {lim : Option Nat} (h : 0 < len) : Det (.sl b r es len lim) := by
  intro η u u' h1 h2
  simp only [Den] at h1 h2
  rcases h1 with ⟨_, _, h0⟩ | ⟨e, o, g1, rfl, g3, g4, g5⟩
  · omega
  rcases h2 with ⟨_, _, h0⟩ | ⟨e', o', k1, rfl, k3, k4, k5⟩
  · omega
  rw [g1] at k1
  injection k1 with k1
  injection k1 with k1
  subst k1
  rw [g5 (.inl (by omega)), k5 (.inl (by omega))]
end Go.Sx
/- slices: Clone, Compact, Clip, SortFunc; term: sorted and Sort; walked. Conditions: none. -/
set_option linter.unusedVariables false
set_option linter.unusedSimpArgs false
set_option maxRecDepth 20000
namespace Go.Proofs.Ytillkgjdbnjnoaa
open Go.Sx Go.Our Go.Sort Go.Shelf
def plSets10 : Plan := (planOf [(0, 1), (1, 1), (2, 1), (4, 1), (5, 1), (6, 1), (7, 1), (3, 2), (8, 2), (9, 1)])
abbrev TmsOK (l : List Tm) : Prop := l.length * 224 ≤ 140737488351232
theorem mid_at {α : Type} (f : α → List SV) {C l : List α} {j : Nat} (h1 : C.length ≤ j) (h2 : j < l.length) : ((C ++ l.drop C.length).map f)[j]? = some (f l[j]) := by
  rw [List.getElem?_map, List.getElem?_append_right h1, List.getElem?_drop, show C.length + (j - C.length) = j by omega, List.getElem?_eq_getElem h2]; rfl
theorem mid_set {α : Type} (f : α → List SV) {C l : List α} (x : α) (h : C.length < l.length) : ((C ++ l.drop C.length).map f).set C.length (f x) = ((C ++ [x]) ++ l.drop (C ++ [x]).length).map f := by
  rw [rows_set, List.set_append_right _ _ (Nat.le_refl _), Nat.sub_self, List.drop_eq_getElem_cons h, List.set_cons_zero]
  simp
theorem mid_clear {α : Type} (f : α → List SV) {C l : List α} (z : α) (h : C.length ≤ l.length) : ((C ++ l.drop C.length).map f).take C.length ++ List.replicate (l.length - C.length) (f z) ++ ((C ++ l.drop C.length).map f).drop (C.length + (l.length - C.length)) = (C ++ List.replicate (l.length - C.length) z).map f := by
  have h1 : ((C ++ l.drop C.length).map f).length = l.length := by simp; omega
  rw [List.drop_of_length_le (l := (C ++ l.drop C.length).map f) (by omega), List.append_nil, List.map_append, List.map_append, List.map_replicate, List.take_append_of_le_length (by simp), List.take_of_length_le (by simp)]
theorem at_eq {rs : List (List SV)} {i j : Nat} {row : List SV} (h : rs[i]? = some row) (e : j = i) : rs[j]? = some row := e ▸ h
theorem cloneQ_does (l z : List Qd) (lim : Option Nat) (hl : l.length * 224 ≤ 140737488351232) : Does Try.prog tab 50 1 [.sl (.loc 0) 0 16 l.length lim] [] [(0, .rows 16 ((l ++ z).map qdRow))]
    (fun r O nx => r = .sl (.loc 1) 0 16 l.length none ∧ O = [(1, .rows 16 (l.map qdRow))] ∧ nx = 2) := by
  refine Does.enter tabOK (g := 50) (fn := Try.f50) Try.call50 Try.func50 rfl 8 rfl rfl [.tmp 2] rfl ?_
  intro w0 F η0 h0
  conv => whnf
  repeat' ((first | with_reducible refine IF.tt ?_ | with_reducible refine IF.ff ?_ | (rw [rows_take]; conv => whnf) | (refine NEED.mk (needApp 224 rfl rfl (by simp) (by simp) (by omega)) ?_; conv => whnf) | refine NEED.au ?_ | ((with_reducible apply GET.at); rfl) | ((with_reducible apply GETG.at); rfl) | ((with_reducible refine UNK.mk (fun h => ?_) ?_) <;> try (exfalso; omega)) | ((with_reducible refine IF.mk (fun h => ?_) (fun h => ?_)) <;> (try simp (disch := omega) only [hsB, hsC, lnB, wrap64, wrap32, simprocAttr] at h) <;> try (exfalso; omega))) <;> conv => whnf)
  · have : l = [] := List.length_eq_zero_iff.1 h
    subst this
    refine FIN.nil 16 ?_
    exact FIN.rows h0 1 16 0 rfl rfl rfl rfl ⟨rfl, rfl, rfl⟩
  · rw [Nat.zero_add]
    exact FIN.rows h0 2 16 l.length rfl rfl rfl (plainQds _) ⟨rfl, rfl, rfl⟩
theorem clipQ_does (l : List Qd) (n : Nat) (hn : n ≤ l.length) (hl : l.length * 224 ≤ 140737488351232) : Does Try.prog tab 52 1 [.sl (.loc 0) 0 16 n none] [(0, .rows 16 (l.map qdRow))] []
    (fun r O nx => r = .sl (.loc 0) 0 16 n (some n) ∧ O = [(0, .rows 16 (l.map qdRow))] ∧ nx = 1) := by
  refine Does.enter tabOK (g := 52) (fn := Try.f52) Try.call52 Try.func52 rfl 9 rfl rfl [.tmp 2] rfl ?_
  intro w0 F η0 h0
  conv => whnf
  repeat' ((first | with_reducible refine IF.tt ?_ | with_reducible refine IF.ff ?_ | (refine NEED.mk ⟨by omega, by omega, by omega⟩ ?_; conv => whnf) | refine NEED.au ?_ | ((with_reducible apply GET.at); rfl) | ((with_reducible apply GETG.at); rfl) | ((with_reducible refine UNK.mk (fun h => ?_) ?_) <;> try (exfalso; omega)) | ((with_reducible refine IF.mk (fun h => ?_) (fun h => ?_)) <;> (try simp (disch := omega) only [hsB, hsC, lnB, wrap64, wrap32, simprocAttr] at h) <;> try (exfalso; omega))) <;> conv => whnf)
  refine FIN.here h0 (rc := .sl (.loc 0) 0 16 n (some n)) (Oc := [(0, .rows 16 (l.map qdRow))]) (by simp) rfl (by first | rfl | (simp only [belowO, belowH, plainLL_below _ (plainQds _), Bool.and_self, Bool.and_true] <;> rfl)) ⟨rfl, trivial⟩ ⟨rfl, rfl, rfl⟩
theorem compactQ_does (l : List Qd) (hl : l.length * 224 ≤ 140737488351232) : Does Try.prog tab 53 1 [.sl (.loc 0) 0 16 l.length none] [(0, .rows 16 (l.map qdRow))] []
    (fun r O nx => r = .sl (.loc 0) 0 16 (compactM l).length none ∧ O = [(0, .rows 16 ((compactM l ++ List.replicate (l.length - (compactM l).length) zeroQd).map qdRow))] ∧ nx = 1) := by
  have fin : ∀ {m : Nat}, m = (compactM l).length → compactM l = l → (SV.sl (.loc 0) 0 16 l.length none = SV.sl (.loc 0) 0 16 (compactM l).length none) ∧ l.map qdRow = (compactM l ++ List.replicate (l.length - (compactM l).length) zeroQd).map qdRow := fun hm he => by
    rw [he]; simp
  refine Does.enter tabOK (g := 53) (fn := Try.f53) Try.call53 Try.func53 rfl 61 rfl rfl [.tmp 2] rfl ?_
  intro w0 F η0 h0
  conv => whnf
  refine IF.mk (fun h => ?_) (fun h => ?_)
  · have h : l.length < 2 := by simp at h; omega
    obtain ⟨f1, f2⟩ := fin rfl (compact_two h)
    conv => whnf
    rw [f1, f2]
    refine FIN.here h0 (rc := .sl (.loc 0) 0 16 (compactM l).length none) (Oc := [(0, .rows 16 ((compactM l ++ List.replicate (l.length - (compactM l).length) zeroQd).map qdRow))]) rfl rfl (by first | rfl | (simp only [belowO, belowH, plainLL_below _ (plainQds _), Bool.and_self, Bool.and_true] <;> rfl)) ⟨rfl, trivial⟩ ⟨rfl, rfl, rfl⟩
  have h2 : 2 ≤ l.length := by simp at h; omega
  clear h
  conv => whnf
  refine LOOP.go tabOK [0] (X := Nat) (fun k => 1 ≤ k ∧ k ≤ l.length ∧ compactM (l.take k) = l.take k) (fun k => [(3, .int .i64 (k : Int))]) (fun k => [(0, .rows 16 (l.map qdRow))]) 1 (fun k => l.length - k) 1 ⟨by omega, by omega, compact_one⟩ ?_
  conv => whnf
  refine ⟨by (refine GOES.cutting h0 rfl rfl rfl (by first | rfl | (simp only [belowO, belowH, plainLL_below _ (plainQds _), Bool.and_self, Bool.and_true] <;> rfl)) ?_ ?_ <;> (repeat' (first | (with_reducible rfl) | (exact sl_eq rfl (by first | (simp; done) | omega | (simp; omega))) | (exact congrArg (SV.int _) (by first | omega | (simp (disch := omega) only [lnB, wrap64, wrap32] <;> omega) | (simp; done) | (simp <;> omega))) | (exact congrArg (Hp.rows _) (by rfl)) | ((conv => whnf); refine ⟨?_, ?_⟩) | exact trivial | rfl))), ?_⟩
  rintro k ⟨hk1, hkl, hk⟩
  conv => whnf
  rcases Nat.lt_or_ge k l.length with hlt | hge
  · have hs := compact_succ hk1 hlt
    have hk' : (IntKind.i64.wrap ((k : Int) - 1)).toNat = k - 1 := by rw [wrap64 (by omega) (by omega)]; omega
    repeat' ((first | with_reducible refine IF.tt ?_ | with_reducible refine IF.ff ?_ | refine DRAWN.of (id := 6) tabOK mixed plSets10 (by kernel_rfl) ?_ | refine DRAWN.of (id := 11) tabOK mixed plSets10 (by kernel_rfl) ?_ | with_reducible refine ADD.mk (fun _ _ => ?_) | with_reducible refine NEED.mk (Det.of rfl) ?_ | refine NEED.mk (det_pos (by omega)) ?_ | with_reducible refine FORK.mk ?_ ?_ | (refine GET.at (row := qdRow (l[k]'(by omega))) (row_at0 (by omega) (by omega)) ?_; conv => whnf) | (refine GET.at (row := qdRow (l[k - 1]'(by omega))) (row_at0 (by omega) (by omega)) ?_; conv => whnf) | refine NEED.au ?_ | ((with_reducible apply GET.at); rfl) | ((with_reducible apply GETG.at); rfl) | ((with_reducible refine UNK.mk (fun h => ?_) ?_) <;> try (exfalso; omega)) | ((with_reducible refine IF.mk (fun h => ?_) (fun h => ?_)) <;> (try simp (disch := omega) only [hsB, hsC, lnB, wrap64, wrap32, simprocAttr] at h) <;> try (exfalso; omega))) <;> conv => whnf)
    · have heq : l[k] = l[k - 1] := Qd.ext' (by simp only [qdRow, Qd.row, List.cons.injEq, SV.int.injEq, SV.str.injEq, true_and, and_true]; exact h)
      rw [if_pos heq, hk] at hs
      have hs0 : (compactM (l.take (k + 1))).length = k := by rw [hs]; simp; omega
      clear h heq
      refine LOOP.go tabOK [0, 4] (X := Nat) (fun i => k + 1 ≤ i ∧ i ≤ l.length ∧ (compactM (l.take i)).length + 1 ≤ i ∧ k ≤ (compactM (l.take i)).length) (fun i => [(3, .int .i64 ((compactM (l.take i)).length : Int)), (5, .int .i64 ((i - k : Nat) : Int))]) (fun i => [(0, .rows 16 ((compactM (l.take i) ++ l.drop (compactM (l.take i)).length).map qdRow))]) 1 (fun i => l.length - i) (k + 1) ⟨by omega, by omega, by omega, by omega⟩ ?_
      conv => whnf
      refine ⟨by (refine GOES.cutting h0 rfl rfl rfl (by first | rfl | (simp only [belowO, belowH, plainLL_below _ (plainQds _), Bool.and_self, Bool.and_true] <;> rfl)) ?_ ?_ <;> (repeat' (first | (with_reducible rfl) | (exact sl_eq rfl (by first | (simp; done) | omega | (simp; omega))) | (exact congrArg (SV.int _) (by first | omega | (simp (disch := omega) only [lnB, wrap64, wrap32] <;> omega) | (simp; done) | (simp <;> omega))) | (exact congrArg (Hp.rows _) (by (rw [hs, List.length_take, Nat.min_eq_left hkl, List.take_append_drop]))) | ((conv => whnf); refine ⟨?_, ?_⟩) | exact trivial | rfl))), ?_⟩
      rintro i ⟨hi1, hi2, hi3, hi4⟩
      obtain ⟨C, hC⟩ : ∃ C, C = compactM (l.take i) := ⟨_, rfl⟩
      have hsi := fun h => compact_succ (l := l) (i := i) (by omega) h
      rw [← hC] at hi3 hi4 hsi
      dsimp only
      rw [← hC]
      conv => whnf
      rcases Nat.lt_or_ge i l.length with hil | hil
      · have hsi := hsi hil
        have hwr : IntKind.i64.wrap (((i - k : Nat) : Int) - 1) = ((i - 1 - k : Nat) : Int) := by rw [wrap64 (by omega) (by omega)]; omega
        have hg1 : ((C ++ l.drop C.length).map qdRow)[i]? = some (qdRow l[i]) := mid_at qdRow (by omega) hil
        have hg2 : ((C ++ l.drop C.length).map qdRow)[i - 1]? = some (qdRow (l[i - 1]'(by omega))) := mid_at qdRow (by omega) (by omega)
        have hg3 : ((C ++ l.drop C.length).map qdRow)[C.length]? = some (qdRow (l[C.length]'(by omega))) := mid_at qdRow (Nat.le_refl _) (by omega)
        repeat' ((first | with_reducible refine IF.tt ?_ | with_reducible refine IF.ff ?_ | refine DRAWN.of (id := 6) tabOK mixed plSets10 (by kernel_rfl) ?_ | refine DRAWN.of (id := 11) tabOK mixed plSets10 (by kernel_rfl) ?_ | with_reducible refine ADD.mk (fun _ _ => ?_) | with_reducible refine NEED.mk (Det.of rfl) ?_ | refine NEED.mk (det_pos (by omega)) ?_ | with_reducible refine FORK.mk ?_ ?_ | (refine GET.at (row := qdRow (l[i]'(by omega))) (at_eq hg1 (by omega)) ?_; conv => whnf) | (refine GET.at (row := qdRow (l[i - 1]'(by omega))) (at_eq hg2 (by rw [hwr]; omega)) ?_; conv => whnf) | (refine GET.at (row := qdRow (l[C.length]'(by omega))) (at_eq hg3 (by omega)) ?_; conv => whnf) | refine NEED.au ?_ | ((with_reducible apply GET.at); rfl) | ((with_reducible apply GETG.at); rfl) | ((with_reducible refine UNK.mk (fun h => ?_) ?_) <;> try (exfalso; omega)) | ((with_reducible refine IF.mk (fun h => ?_) (fun h => ?_)) <;> (try simp (disch := omega) only [hsB, hsC, lnB, wrap64, wrap32, simprocAttr] at h) <;> try (exfalso; omega))) <;> conv => whnf)
        · have hne : ¬ l[i] = l[i - 1]'(by omega) := fun he => by rw [he] at h; simp at h
          rw [if_neg hne] at hsi
          refine ⟨i + 1, ⟨by omega, by omega, by rw [hsi, List.length_append]; simp; omega, by rw [hsi, List.length_append]; simp; omega⟩, by omega, ?_⟩
          rw [hsi]
          conv => whnf
          (refine GOES.cutting h0 rfl rfl rfl (by first | rfl | (simp only [belowO, belowH, plainLL_below _ (plainQds _), Bool.and_self, Bool.and_true] <;> rfl)) ?_ ?_ <;> (repeat' (first | (with_reducible rfl) | (exact sl_eq rfl (by first | (simp; done) | omega | (simp; omega))) | (exact congrArg (SV.int _) (by first | omega | (simp (disch := omega) only [lnB, wrap64, wrap32] <;> omega) | (simp; done) | (simp <;> omega))) | (exact congrArg (Hp.rows _) (by (first | (simp only [Nat.zero_add, Int.toNat_natCast]; exact mid_set qdRow _ (by omega)) | rfl))) | ((conv => whnf); refine ⟨?_, ?_⟩) | exact trivial | rfl)))
        · have heq : l[i] = l[i - 1]'(by omega) := Qd.ext' (by simp only [qdRow, Qd.row, List.cons.injEq, SV.int.injEq, SV.str.injEq, true_and, and_true]; exact h)
          rw [if_pos heq] at hsi
          refine ⟨i + 1, ⟨by omega, by omega, by rw [hsi]; omega, by rw [hsi]; omega⟩, by omega, ?_⟩
          rw [hsi]
          conv => whnf
          (refine GOES.cutting h0 rfl rfl rfl (by first | rfl | (simp only [belowO, belowH, plainLL_below _ (plainQds _), Bool.and_self, Bool.and_true] <;> rfl)) ?_ ?_ <;> (repeat' (first | (with_reducible rfl) | (exact sl_eq rfl (by first | (simp; done) | omega | (simp; omega))) | (exact congrArg (SV.int _) (by first | omega | (simp (disch := omega) only [lnB, wrap64, wrap32] <;> omega) | (simp; done) | (simp <;> omega))) | (exact congrArg (Hp.rows _) (by rfl)) | ((conv => whnf); refine ⟨?_, ?_⟩) | exact trivial | rfl)))
      · have hCl : C = compactM l := by rw [hC, List.take_of_length_le hil]
        have hcl : C.length ≤ l.length := by omega
        repeat' ((first | with_reducible refine IF.tt ?_ | with_reducible refine IF.ff ?_ | (refine NEED.mk (by simp only [List.length_map, List.length_append, List.length_drop]; omega) ?_; conv => whnf) | (refine NEED.mk ⟨by omega, le_reach (by omega)⟩ ?_; conv => whnf) | refine NEED.au ?_ | ((with_reducible apply GET.at); rfl) | ((with_reducible apply GETG.at); rfl) | ((with_reducible refine UNK.mk (fun h => ?_) ?_) <;> try (exfalso; omega)) | ((with_reducible refine IF.mk (fun h => ?_) (fun h => ?_)) <;> (try simp (disch := omega) only [hsB, hsC, lnB, wrap64, wrap32, simprocAttr] at h) <;> try (exfalso; omega))) <;> conv => whnf)
        rw [← hCl]
        refine FIN.here h0 (rc := .sl (.loc 0) 0 16 C.length none) (Oc := [(0, .rows 16 ((C ++ List.replicate (l.length - C.length) zeroQd).map qdRow))]) (by simp) rfl (by first | rfl | (simp only [belowO, belowH, plainLL_below _ (plainQds _), Bool.and_self, Bool.and_true] <;> rfl)) ⟨?_, trivial⟩ ⟨rfl, rfl, rfl⟩
        refine congrArg (Hp.rows 16) ?_
        simp only [Nat.zero_add, Int.toNat_natCast]
        exact mid_clear qdRow zeroQd hcl
    · have hne : ¬ l[k] = l[k - 1] := fun he => by rw [he] at h; simp at h
      rw [if_neg hne, hk] at hs
      refine ⟨k + 1, ⟨by omega, by omega, by rw [hs, List.take_succ_eq_append_getElem hlt]⟩, by omega, ?_⟩
      conv => whnf
      (refine GOES.cutting h0 rfl rfl rfl (by first | rfl | (simp only [belowO, belowH, plainLL_below _ (plainQds _), Bool.and_self, Bool.and_true] <;> rfl)) ?_ ?_ <;> (repeat' (first | (with_reducible rfl) | (exact sl_eq rfl (by first | (simp; done) | omega | (simp; omega))) | (exact congrArg (SV.int _) (by first | omega | (simp (disch := omega) only [lnB, wrap64, wrap32] <;> omega) | (simp; done) | (simp <;> omega))) | (exact congrArg (Hp.rows _) (by rfl)) | ((conv => whnf); refine ⟨?_, ?_⟩) | exact trivial | rfl)))
  · have hkn : k = l.length := by omega
    rw [hkn, List.take_of_length_le (Nat.le_refl _)] at hk
    obtain ⟨f1, f2⟩ := fin rfl hk
    repeat' ((first | with_reducible refine IF.tt ?_ | with_reducible refine IF.ff ?_ | refine NEED.au ?_ | ((with_reducible apply GET.at); rfl) | ((with_reducible apply GETG.at); rfl) | ((with_reducible refine UNK.mk (fun h => ?_) ?_) <;> try (exfalso; omega)) | ((with_reducible refine IF.mk (fun h => ?_) (fun h => ?_)) <;> (try simp (disch := omega) only [hsB, hsC, lnB, wrap64, wrap32, simprocAttr] at h) <;> try (exfalso; omega))) <;> conv => whnf)
    rw [f1, f2]
    refine FIN.here h0 (rc := .sl (.loc 0) 0 16 (compactM l).length none) (Oc := [(0, .rows 16 ((compactM l ++ List.replicate (l.length - (compactM l).length) zeroQd).map qdRow))]) rfl rfl (by first | rfl | (simp only [belowO, belowH, plainLL_below _ (plainQds _), Bool.and_self, Bool.and_true] <;> rfl)) ⟨rfl, trivial⟩ ⟨rfl, rfl, rfl⟩
theorem cloneT_does (l z : List Tm) (lim : Option Nat) (hl : l.length * 56 ≤ 140737488351232) : Does Try.prog tab 59 1 [.sl (.loc 0) 0 4 l.length lim] [] [(0, .rows 4 ((l ++ z).map tmRow))]
    (fun r O nx => r = .sl (.loc 1) 0 4 l.length none ∧ O = [(1, .rows 4 (l.map tmRow))] ∧ nx = 2) := by
  refine Does.enter tabOK (g := 59) (fn := Try.f59) Try.call59 Try.func59 rfl 8 rfl rfl [.tmp 2] rfl ?_
  intro w0 F η0 h0
  conv => whnf
  repeat' ((first | with_reducible refine IF.tt ?_ | with_reducible refine IF.ff ?_ | (rw [rows_take]; conv => whnf) | (refine NEED.mk (needApp 56 rfl rfl (by simp) (by simp) (by omega)) ?_; conv => whnf) | refine NEED.au ?_ | ((with_reducible apply GET.at); rfl) | ((with_reducible apply GETG.at); rfl) | ((with_reducible refine UNK.mk (fun h => ?_) ?_) <;> try (exfalso; omega)) | ((with_reducible refine IF.mk (fun h => ?_) (fun h => ?_)) <;> (try simp (disch := omega) only [hsB, hsC, lnB, wrap64, wrap32, simprocAttr] at h) <;> try (exfalso; omega))) <;> conv => whnf)
  · have : l = [] := List.length_eq_zero_iff.1 h
    subst this
    refine FIN.nil 4 ?_
    exact FIN.rows h0 1 4 0 rfl rfl rfl rfl ⟨rfl, rfl, rfl⟩
  · rw [Nat.zero_add]
    exact FIN.rows h0 2 4 l.length rfl rfl rfl (plainTms _) ⟨rfl, rfl, rfl⟩
theorem clipT_does (l : List Tm) (n : Nat) (hn : n ≤ l.length) (hl : l.length * 56 ≤ 140737488351232) : Does Try.prog tab 61 1 [.sl (.loc 0) 0 4 n none] [(0, .rows 4 (l.map tmRow))] []
    (fun r O nx => r = .sl (.loc 0) 0 4 n (some n) ∧ O = [(0, .rows 4 (l.map tmRow))] ∧ nx = 1) := by
  refine Does.enter tabOK (g := 61) (fn := Try.f61) Try.call61 Try.func61 rfl 9 rfl rfl [.tmp 2] rfl ?_
  intro w0 F η0 h0
  conv => whnf
  repeat' ((first | with_reducible refine IF.tt ?_ | with_reducible refine IF.ff ?_ | (refine NEED.mk ⟨by omega, by omega, by omega⟩ ?_; conv => whnf) | refine NEED.au ?_ | ((with_reducible apply GET.at); rfl) | ((with_reducible apply GETG.at); rfl) | ((with_reducible refine UNK.mk (fun h => ?_) ?_) <;> try (exfalso; omega)) | ((with_reducible refine IF.mk (fun h => ?_) (fun h => ?_)) <;> (try simp (disch := omega) only [hsB, hsC, lnB, wrap64, wrap32, simprocAttr] at h) <;> try (exfalso; omega))) <;> conv => whnf)
  refine FIN.here h0 (rc := .sl (.loc 0) 0 4 n (some n)) (Oc := [(0, .rows 4 (l.map tmRow))]) (by simp) rfl (by first | rfl | (simp only [belowO, belowH, plainLL_below _ (plainTms _), Bool.and_self, Bool.and_true] <;> rfl)) ⟨rfl, trivial⟩ ⟨rfl, rfl, rfl⟩
theorem compactT_does (l : List Tm) (hl : l.length * 56 ≤ 140737488351232) : Does Try.prog tab 62 1 [.sl (.loc 0) 0 4 l.length none] [(0, .rows 4 (l.map tmRow))] []
    (fun r O nx => r = .sl (.loc 0) 0 4 (compactM l).length none ∧ O = [(0, .rows 4 ((compactM l ++ List.replicate (l.length - (compactM l).length) zeroTm).map tmRow))] ∧ nx = 1) := by
  have fin : ∀ {m : Nat}, m = (compactM l).length → compactM l = l → (SV.sl (.loc 0) 0 4 l.length none = SV.sl (.loc 0) 0 4 (compactM l).length none) ∧ l.map tmRow = (compactM l ++ List.replicate (l.length - (compactM l).length) zeroTm).map tmRow := fun hm he => by
    rw [he]; simp
  refine Does.enter tabOK (g := 62) (fn := Try.f62) Try.call62 Try.func62 rfl 61 rfl rfl [.tmp 2] rfl ?_
  intro w0 F η0 h0
  conv => whnf
  refine IF.mk (fun h => ?_) (fun h => ?_)
  · have h : l.length < 2 := by simp at h; omega
    obtain ⟨f1, f2⟩ := fin rfl (compact_two h)
    conv => whnf
    rw [f1, f2]
    refine FIN.here h0 (rc := .sl (.loc 0) 0 4 (compactM l).length none) (Oc := [(0, .rows 4 ((compactM l ++ List.replicate (l.length - (compactM l).length) zeroTm).map tmRow))]) rfl rfl (by first | rfl | (simp only [belowO, belowH, plainLL_below _ (plainTms _), Bool.and_self, Bool.and_true] <;> rfl)) ⟨rfl, trivial⟩ ⟨rfl, rfl, rfl⟩
  have h2 : 2 ≤ l.length := by simp at h; omega
  clear h
  conv => whnf
  refine LOOP.go tabOK [0] (X := Nat) (fun k => 1 ≤ k ∧ k ≤ l.length ∧ compactM (l.take k) = l.take k) (fun k => [(3, .int .i64 (k : Int))]) (fun k => [(0, .rows 4 (l.map tmRow))]) 1 (fun k => l.length - k) 1 ⟨by omega, by omega, compact_one⟩ ?_
  conv => whnf
  refine ⟨by (refine GOES.cutting h0 rfl rfl rfl (by first | rfl | (simp only [belowO, belowH, plainLL_below _ (plainTms _), Bool.and_self, Bool.and_true] <;> rfl)) ?_ ?_ <;> (repeat' (first | (with_reducible rfl) | (exact sl_eq rfl (by first | (simp; done) | omega | (simp; omega))) | (exact congrArg (SV.int _) (by first | omega | (simp (disch := omega) only [lnB, wrap64, wrap32] <;> omega) | (simp; done) | (simp <;> omega))) | (exact congrArg (Hp.rows _) (by rfl)) | ((conv => whnf); refine ⟨?_, ?_⟩) | exact trivial | rfl))), ?_⟩
  rintro k ⟨hk1, hkl, hk⟩
  conv => whnf
  rcases Nat.lt_or_ge k l.length with hlt | hge
  · have hs := compact_succ hk1 hlt
    have hk' : (IntKind.i64.wrap ((k : Int) - 1)).toNat = k - 1 := by rw [wrap64 (by omega) (by omega)]; omega
    repeat' ((first | with_reducible refine IF.tt ?_ | with_reducible refine IF.ff ?_ | refine DRAWN.of (id := 6) tabOK mixed plSets10 (by kernel_rfl) ?_ | refine DRAWN.of (id := 11) tabOK mixed plSets10 (by kernel_rfl) ?_ | with_reducible refine ADD.mk (fun _ _ => ?_) | with_reducible refine NEED.mk (Det.of rfl) ?_ | refine NEED.mk (det_pos (by omega)) ?_ | with_reducible refine FORK.mk ?_ ?_ | (refine GET.at (row := tmRow (l[k]'(by omega))) (row_at0 (by omega) (by omega)) ?_; conv => whnf) | (refine GET.at (row := tmRow (l[k - 1]'(by omega))) (row_at0 (by omega) (by omega)) ?_; conv => whnf) | refine NEED.au ?_ | ((with_reducible apply GET.at); rfl) | ((with_reducible apply GETG.at); rfl) | ((with_reducible refine UNK.mk (fun h => ?_) ?_) <;> try (exfalso; omega)) | ((with_reducible refine IF.mk (fun h => ?_) (fun h => ?_)) <;> (try simp (disch := omega) only [hsB, hsC, lnB, wrap64, wrap32, simprocAttr] at h) <;> try (exfalso; omega))) <;> conv => whnf)
    · have heq : l[k] = l[k - 1] := Tm.ext' (by simp only [tmRow, List.cons.injEq, SV.int.injEq, SV.str.injEq, true_and, and_true]; exact h)
      rw [if_pos heq, hk] at hs
      have hs0 : (compactM (l.take (k + 1))).length = k := by rw [hs]; simp; omega
      clear h heq
      refine LOOP.go tabOK [0, 4] (X := Nat) (fun i => k + 1 ≤ i ∧ i ≤ l.length ∧ (compactM (l.take i)).length + 1 ≤ i ∧ k ≤ (compactM (l.take i)).length) (fun i => [(3, .int .i64 ((compactM (l.take i)).length : Int)), (5, .int .i64 ((i - k : Nat) : Int))]) (fun i => [(0, .rows 4 ((compactM (l.take i) ++ l.drop (compactM (l.take i)).length).map tmRow))]) 1 (fun i => l.length - i) (k + 1) ⟨by omega, by omega, by omega, by omega⟩ ?_
      conv => whnf
      refine ⟨by (refine GOES.cutting h0 rfl rfl rfl (by first | rfl | (simp only [belowO, belowH, plainLL_below _ (plainTms _), Bool.and_self, Bool.and_true] <;> rfl)) ?_ ?_ <;> (repeat' (first | (with_reducible rfl) | (exact sl_eq rfl (by first | (simp; done) | omega | (simp; omega))) | (exact congrArg (SV.int _) (by first | omega | (simp (disch := omega) only [lnB, wrap64, wrap32] <;> omega) | (simp; done) | (simp <;> omega))) | (exact congrArg (Hp.rows _) (by (rw [hs, List.length_take, Nat.min_eq_left hkl, List.take_append_drop]))) | ((conv => whnf); refine ⟨?_, ?_⟩) | exact trivial | rfl))), ?_⟩
      rintro i ⟨hi1, hi2, hi3, hi4⟩
      obtain ⟨C, hC⟩ : ∃ C, C = compactM (l.take i) := ⟨_, rfl⟩
      have hsi := fun h => compact_succ (l := l) (i := i) (by omega) h
      rw [← hC] at hi3 hi4 hsi
      dsimp only
      rw [← hC]
      conv => whnf
      rcases Nat.lt_or_ge i l.length with hil | hil
      · have hsi := hsi hil
        have hwr : IntKind.i64.wrap (((i - k : Nat) : Int) - 1) = ((i - 1 - k : Nat) : Int) := by rw [wrap64 (by omega) (by omega)]; omega
        have hg1 : ((C ++ l.drop C.length).map tmRow)[i]? = some (tmRow l[i]) := mid_at tmRow (by omega) hil
        have hg2 : ((C ++ l.drop C.length).map tmRow)[i - 1]? = some (tmRow (l[i - 1]'(by omega))) := mid_at tmRow (by omega) (by omega)
        have hg3 : ((C ++ l.drop C.length).map tmRow)[C.length]? = some (tmRow (l[C.length]'(by omega))) := mid_at tmRow (Nat.le_refl _) (by omega)
        repeat' ((first | with_reducible refine IF.tt ?_ | with_reducible refine IF.ff ?_ | refine DRAWN.of (id := 6) tabOK mixed plSets10 (by kernel_rfl) ?_ | refine DRAWN.of (id := 11) tabOK mixed plSets10 (by kernel_rfl) ?_ | with_reducible refine ADD.mk (fun _ _ => ?_) | with_reducible refine NEED.mk (Det.of rfl) ?_ | refine NEED.mk (det_pos (by omega)) ?_ | with_reducible refine FORK.mk ?_ ?_ | (refine GET.at (row := tmRow (l[i]'(by omega))) (at_eq hg1 (by omega)) ?_; conv => whnf) | (refine GET.at (row := tmRow (l[i - 1]'(by omega))) (at_eq hg2 (by rw [hwr]; omega)) ?_; conv => whnf) | (refine GET.at (row := tmRow (l[C.length]'(by omega))) (at_eq hg3 (by omega)) ?_; conv => whnf) | refine NEED.au ?_ | ((with_reducible apply GET.at); rfl) | ((with_reducible apply GETG.at); rfl) | ((with_reducible refine UNK.mk (fun h => ?_) ?_) <;> try (exfalso; omega)) | ((with_reducible refine IF.mk (fun h => ?_) (fun h => ?_)) <;> (try simp (disch := omega) only [hsB, hsC, lnB, wrap64, wrap32, simprocAttr] at h) <;> try (exfalso; omega))) <;> conv => whnf)
        · have hne : ¬ l[i] = l[i - 1]'(by omega) := fun he => by rw [he] at h; simp at h
          rw [if_neg hne] at hsi
          refine ⟨i + 1, ⟨by omega, by omega, by rw [hsi, List.length_append]; simp; omega, by rw [hsi, List.length_append]; simp; omega⟩, by omega, ?_⟩
          rw [hsi]
          conv => whnf
          (refine GOES.cutting h0 rfl rfl rfl (by first | rfl | (simp only [belowO, belowH, plainLL_below _ (plainTms _), Bool.and_self, Bool.and_true] <;> rfl)) ?_ ?_ <;> (repeat' (first | (with_reducible rfl) | (exact sl_eq rfl (by first | (simp; done) | omega | (simp; omega))) | (exact congrArg (SV.int _) (by first | omega | (simp (disch := omega) only [lnB, wrap64, wrap32] <;> omega) | (simp; done) | (simp <;> omega))) | (exact congrArg (Hp.rows _) (by (first | (simp only [Nat.zero_add, Int.toNat_natCast]; exact mid_set tmRow _ (by omega)) | rfl))) | ((conv => whnf); refine ⟨?_, ?_⟩) | exact trivial | rfl)))
        · have heq : l[i] = l[i - 1]'(by omega) := Tm.ext' (by simp only [tmRow, List.cons.injEq, SV.int.injEq, SV.str.injEq, true_and, and_true]; exact h)
          rw [if_pos heq] at hsi
          refine ⟨i + 1, ⟨by omega, by omega, by rw [hsi]; omega, by rw [hsi]; omega⟩, by omega, ?_⟩
          rw [hsi]
          conv => whnf
          (refine GOES.cutting h0 rfl rfl rfl (by first | rfl | (simp only [belowO, belowH, plainLL_below _ (plainTms _), Bool.and_self, Bool.and_true] <;> rfl)) ?_ ?_ <;> (repeat' (first | (with_reducible rfl) | (exact sl_eq rfl (by first | (simp; done) | omega | (simp; omega))) | (exact congrArg (SV.int _) (by first | omega | (simp (disch := omega) only [lnB, wrap64, wrap32] <;> omega) | (simp; done) | (simp <;> omega))) | (exact congrArg (Hp.rows _) (by rfl)) | ((conv => whnf); refine ⟨?_, ?_⟩) | exact trivial | rfl)))
      · have hCl : C = compactM l := by rw [hC, List.take_of_length_le hil]
        have hcl : C.length ≤ l.length := by omega
        repeat' ((first | with_reducible refine IF.tt ?_ | with_reducible refine IF.ff ?_ | (refine NEED.mk (by simp only [List.length_map, List.length_append, List.length_drop]; omega) ?_; conv => whnf) | (refine NEED.mk ⟨by omega, le_reach (by omega)⟩ ?_; conv => whnf) | refine NEED.au ?_ | ((with_reducible apply GET.at); rfl) | ((with_reducible apply GETG.at); rfl) | ((with_reducible refine UNK.mk (fun h => ?_) ?_) <;> try (exfalso; omega)) | ((with_reducible refine IF.mk (fun h => ?_) (fun h => ?_)) <;> (try simp (disch := omega) only [hsB, hsC, lnB, wrap64, wrap32, simprocAttr] at h) <;> try (exfalso; omega))) <;> conv => whnf)
        rw [← hCl]
        refine FIN.here h0 (rc := .sl (.loc 0) 0 4 C.length none) (Oc := [(0, .rows 4 ((C ++ List.replicate (l.length - C.length) zeroTm).map tmRow))]) (by simp) rfl (by first | rfl | (simp only [belowO, belowH, plainLL_below _ (plainTms _), Bool.and_self, Bool.and_true] <;> rfl)) ⟨?_, trivial⟩ ⟨rfl, rfl, rfl⟩
        refine congrArg (Hp.rows 4) ?_
        simp only [Nat.zero_add, Int.toNat_natCast]
        exact mid_clear tmRow zeroTm hcl
    · have hne : ¬ l[k] = l[k - 1] := fun he => by rw [he] at h; simp at h
      rw [if_neg hne, hk] at hs
      refine ⟨k + 1, ⟨by omega, by omega, by rw [hs, List.take_succ_eq_append_getElem hlt]⟩, by omega, ?_⟩
      conv => whnf
      (refine GOES.cutting h0 rfl rfl rfl (by first | rfl | (simp only [belowO, belowH, plainLL_below _ (plainTms _), Bool.and_self, Bool.and_true] <;> rfl)) ?_ ?_ <;> (repeat' (first | (with_reducible rfl) | (exact sl_eq rfl (by first | (simp; done) | omega | (simp; omega))) | (exact congrArg (SV.int _) (by first | omega | (simp (disch := omega) only [lnB, wrap64, wrap32] <;> omega) | (simp; done) | (simp <;> omega))) | (exact congrArg (Hp.rows _) (by rfl)) | ((conv => whnf); refine ⟨?_, ?_⟩) | exact trivial | rfl)))
  · have hkn : k = l.length := by omega
    rw [hkn, List.take_of_length_le (Nat.le_refl _)] at hk
    obtain ⟨f1, f2⟩ := fin rfl hk
    repeat' ((first | with_reducible refine IF.tt ?_ | with_reducible refine IF.ff ?_ | refine NEED.au ?_ | ((with_reducible apply GET.at); rfl) | ((with_reducible apply GETG.at); rfl) | ((with_reducible refine UNK.mk (fun h => ?_) ?_) <;> try (exfalso; omega)) | ((with_reducible refine IF.mk (fun h => ?_) (fun h => ?_)) <;> (try simp (disch := omega) only [hsB, hsC, lnB, wrap64, wrap32, simprocAttr] at h) <;> try (exfalso; omega))) <;> conv => whnf)
    rw [f1, f2]
    refine FIN.here h0 (rc := .sl (.loc 0) 0 4 (compactM l).length none) (Oc := [(0, .rows 4 ((compactM l ++ List.replicate (l.length - (compactM l).length) zeroTm).map tmRow))]) rfl rfl (by first | rfl | (simp only [belowO, belowH, plainLL_below _ (plainTms _), Bool.and_self, Bool.and_true] <;> rfl)) ⟨rfl, trivial⟩ ⟨rfl, rfl, rfl⟩
def sortQ_ren : Go.Shelf.Ren := ⟨fun | 6 => 51 | 15 => 66 | 14 => 68 | 28 => 84 | 29 => 85 | 20 => 86 | 21 => 87 | 22 => 88 | 23 => 89 | 24 => 90 | 25 => 91 | 26 => 92 | 27 => 93 | 46 => 110 | 47 => 105 | 48 => 106 | 49 => 111 | 50 => 112 | 57 => 117 | n => n, fun | 22 => 22 | 24 => 26 | 25 => 58 | 3 => 3 | 39 => 82 | 0 => 0 | 53 => 102 | 55 => 104 | 4 => 4 | 46 => 95 | 45 => 94 | 50 => 36 | 5 => 5 | 9 => 9 | 66 => 116 | 70 => 120 | 76 => 127 | 77 => 128 | n => n, fun | n => n⟩
theorem sortQ : Go.Proofs.SlLaysF0.n6 Try.prog sortQ_ren where
  mixed := by kernel_rfl
  f6 := ⟨Try.f51.name, by decide, Try.func51.trans (congrArg some (by kernel_rfl))⟩
  f14 := ⟨Try.f68.name, by decide, Try.func68.trans (congrArg some (by kernel_rfl))⟩
  f15 := Try.func66.trans (congrArg some (by kernel_rfl))
  f20 := ⟨Try.f86.name, by decide, Try.func86.trans (congrArg some (by kernel_rfl))⟩
  f21 := ⟨Try.f87.name, by decide, Try.func87.trans (congrArg some (by kernel_rfl))⟩
  f22 := ⟨Try.f88.name, by decide, Try.func88.trans (congrArg some (by kernel_rfl))⟩
  f23 := ⟨Try.f89.name, by decide, Try.func89.trans (congrArg some (by kernel_rfl))⟩
  f24 := ⟨Try.f90.name, by decide, Try.func90.trans (congrArg some (by kernel_rfl))⟩
  f25 := ⟨Try.f91.name, by decide, Try.func91.trans (congrArg some (by kernel_rfl))⟩
  f26 := ⟨Try.f92.name, by decide, Try.func92.trans (congrArg some (by kernel_rfl))⟩
  f27 := ⟨Try.f93.name, by decide, Try.func93.trans (congrArg some (by kernel_rfl))⟩
  f28 := Try.func84.trans (congrArg some (by kernel_rfl))
  f29 := Try.func85.trans (congrArg some (by kernel_rfl))
  f46 := ⟨Try.f110.name, by decide, Try.func110.trans (congrArg some (by kernel_rfl))⟩
  f47 := Try.func105.trans (congrArg some (by kernel_rfl))
  f48 := Try.func106.trans (congrArg some (by kernel_rfl))
  f49 := ⟨Try.f111.name, by decide, Try.func111.trans (congrArg some (by kernel_rfl))⟩
  f50 := ⟨Try.f112.name, by decide, Try.func112.trans (congrArg some (by kernel_rfl))⟩
  f57 := ⟨Try.f117.name, by decide, Try.func117.trans (congrArg some (by kernel_rfl))⟩
  t0 := Try.underlying0
  a0 := Try.isAgg0
  z0 := Try.sizeOf0
  v0 := Try.zeroValue0
  t3 := Try.underlying3
  a3 := Try.isAgg3
  z3 := Try.sizeOf3
  v3 := Try.zeroValue3
  t4 := Try.underlying4
  a4 := Try.isAgg4
  z4 := Try.sizeOf4
  v4 := Try.zeroValue4
  t5 := Try.underlying5
  a5 := Try.isAgg5
  z5 := Try.sizeOf5
  v5 := Try.zeroValue5
  t9 := Try.underlying9
  a9 := Try.isAgg9
  z9 := Try.sizeOf9
  v9 := Try.zeroValue9
  t22 := Try.underlying22
  a22 := Try.isAgg22
  z22 := Try.sizeOf22
  v22 := Try.zeroValue22
  t25 := Try.underlying58
  a25 := Try.isAgg58
  z25 := Try.sizeOf58
  v25 := Try.zeroValue58
  t39 := Try.underlying82
  a39 := Try.isAgg82
  z39 := Try.sizeOf82
  v39 := Try.zeroValue82
  t45 := Try.underlying94
  a45 := Try.isAgg94
  z45 := Try.sizeOf94
  v45 := Try.zeroValue94
  t46 := Try.underlying95
  a46 := Try.isAgg95
  z46 := Try.sizeOf95
  v46 := Try.zeroValue95
  t50 := Try.underlying36
  a50 := Try.isAgg36
  z50 := Try.sizeOf36
  v50 := Try.zeroValue36
  t53 := Try.underlying102
  a53 := Try.isAgg102
  z53 := Try.sizeOf102
  v53 := Try.zeroValue102
  t55 := Try.underlying104
  a55 := Try.isAgg104
  z55 := Try.sizeOf104
  v55 := Try.zeroValue104
  t66 := Try.underlying116
  a66 := Try.isAgg116
  z66 := Try.sizeOf116
  v66 := Try.zeroValue116
  t70 := Try.underlying120
  a70 := Try.isAgg120
  z70 := Try.sizeOf120
  v70 := Try.zeroValue120
  t76 := Try.underlying127
  a76 := Try.isAgg127
  z76 := Try.sizeOf127
  v76 := Try.zeroValue127
  t77 := Try.underlying128
  a77 := Try.isAgg128
  z77 := Try.sizeOf128
  v77 := Try.zeroValue128
def sortT_ren : Go.Shelf.Ren := ⟨fun | 6 => 60 | 15 => 66 | 14 => 72 | 28 => 84 | 29 => 85 | 20 => 95 | 21 => 96 | 22 => 97 | 23 => 98 | 24 => 99 | 25 => 100 | 26 => 101 | 27 => 102 | 46 => 113 | 47 => 105 | 48 => 106 | 49 => 114 | 50 => 115 | 57 => 118 | n => n, fun | 22 => 43 | 24 => 24 | 25 => 67 | 3 => 3 | 39 => 82 | 0 => 0 | 53 => 102 | 55 => 104 | 4 => 4 | 46 => 95 | 45 => 94 | 50 => 36 | 5 => 5 | 9 => 9 | 66 => 116 | 70 => 120 | 76 => 127 | 77 => 128 | n => n, fun | n => n⟩
theorem sortT : Go.Proofs.SlLaysF0.n6 Try.prog sortT_ren where
  mixed := by kernel_rfl
  f6 := ⟨Try.f60.name, by decide, Try.func60.trans (congrArg some (by kernel_rfl))⟩
  f14 := ⟨Try.f72.name, by decide, Try.func72.trans (congrArg some (by kernel_rfl))⟩
  f15 := Try.func66.trans (congrArg some (by kernel_rfl))
  f20 := ⟨Try.f95.name, by decide, Try.func95.trans (congrArg some (by kernel_rfl))⟩
  f21 := ⟨Try.f96.name, by decide, Try.func96.trans (congrArg some (by kernel_rfl))⟩
  f22 := ⟨Try.f97.name, by decide, Try.func97.trans (congrArg some (by kernel_rfl))⟩
  f23 := ⟨Try.f98.name, by decide, Try.func98.trans (congrArg some (by kernel_rfl))⟩
  f24 := ⟨Try.f99.name, by decide, Try.func99.trans (congrArg some (by kernel_rfl))⟩
  f25 := ⟨Try.f100.name, by decide, Try.func100.trans (congrArg some (by kernel_rfl))⟩
  f26 := ⟨Try.f101.name, by decide, Try.func101.trans (congrArg some (by kernel_rfl))⟩
  f27 := ⟨Try.f102.name, by decide, Try.func102.trans (congrArg some (by kernel_rfl))⟩
  f28 := Try.func84.trans (congrArg some (by kernel_rfl))
  f29 := Try.func85.trans (congrArg some (by kernel_rfl))
  f46 := ⟨Try.f113.name, by decide, Try.func113.trans (congrArg some (by kernel_rfl))⟩
  f47 := Try.func105.trans (congrArg some (by kernel_rfl))
  f48 := Try.func106.trans (congrArg some (by kernel_rfl))
  f49 := ⟨Try.f114.name, by decide, Try.func114.trans (congrArg some (by kernel_rfl))⟩
  f50 := ⟨Try.f115.name, by decide, Try.func115.trans (congrArg some (by kernel_rfl))⟩
  f57 := ⟨Try.f118.name, by decide, Try.func118.trans (congrArg some (by kernel_rfl))⟩
  t0 := Try.underlying0
  a0 := Try.isAgg0
  z0 := Try.sizeOf0
  v0 := Try.zeroValue0
  t3 := Try.underlying3
  a3 := Try.isAgg3
  z3 := Try.sizeOf3
  v3 := Try.zeroValue3
  t4 := Try.underlying4
  a4 := Try.isAgg4
  z4 := Try.sizeOf4
  v4 := Try.zeroValue4
  t5 := Try.underlying5
  a5 := Try.isAgg5
  z5 := Try.sizeOf5
  v5 := Try.zeroValue5
  t9 := Try.underlying9
  a9 := Try.isAgg9
  z9 := Try.sizeOf9
  v9 := Try.zeroValue9
  t22 := Try.underlying43
  a22 := Try.isAgg43
  z22 := Try.sizeOf43
  v22 := Try.zeroValue43
  t25 := Try.underlying67
  a25 := Try.isAgg67
  z25 := Try.sizeOf67
  v25 := Try.zeroValue67
  t39 := Try.underlying82
  a39 := Try.isAgg82
  z39 := Try.sizeOf82
  v39 := Try.zeroValue82
  t45 := Try.underlying94
  a45 := Try.isAgg94
  z45 := Try.sizeOf94
  v45 := Try.zeroValue94
  t46 := Try.underlying95
  a46 := Try.isAgg95
  z46 := Try.sizeOf95
  v46 := Try.zeroValue95
  t50 := Try.underlying36
  a50 := Try.isAgg36
  z50 := Try.sizeOf36
  v50 := Try.zeroValue36
  t53 := Try.underlying102
  a53 := Try.isAgg102
  z53 := Try.sizeOf102
  v53 := Try.zeroValue102
  t55 := Try.underlying104
  a55 := Try.isAgg104
  z55 := Try.sizeOf104
  v55 := Try.zeroValue104
  t66 := Try.underlying116
  a66 := Try.isAgg116
  z66 := Try.sizeOf116
  v66 := Try.zeroValue116
  t70 := Try.underlying120
  a70 := Try.isAgg120
  z70 := Try.sizeOf120
  v70 := Try.zeroValue120
  t76 := Try.underlying127
  a76 := Try.isAgg127
  z76 := Try.sizeOf127
  v76 := Try.zeroValue127
  t77 := Try.underlying128
  a77 := Try.isAgg128
  z77 := Try.sizeOf128
  v77 := Try.zeroValue128
abbrev strU (s : List UInt8) : Value := .string ⟨s.toArray⟩
def qdE (q : Qd) : List Value := [.int .i64 q.s.k, strU q.s.t, strU q.s.y, strU q.s.l, .int .i64 q.p.k, strU q.p.t, strU q.p.y, strU q.p.l, .int .i64 q.o.k, strU q.o.t, strU q.o.y, strU q.o.l, .int .i64 q.g.k, strU q.g.t, strU q.g.y, strU q.g.l]
def tmE (x : Tm) : List Value := [.int .i64 x.k, strU x.t, strU x.y, strU x.l]
instance : Inhabited Tm := ⟨zeroTm⟩
instance : Inhabited Qd := ⟨zeroQd⟩
theorem ltOf_eq {α : Type} (c : α → α → Int) (x y : α) : ltOf c x y = decide (c x y < 0) := rfl
theorem swo_of {α : Type} {c : α → α → Int} (h : Tri c) : SWO (ltOf c) where
  irrefl x := by rw [ltOf_eq, h.self]; rfl
  trans x y z h1 h2 := by rw [ltOf_eq] at *; simp only [decide_eq_true_iff] at *; exact h.lt_trans h1 (by omega)
  ntrans x y z h1 h2 := by
    rw [ltOf_eq] at *
    simp only [decide_eq_false_iff_not] at *
    intro hc
    have := h.anti x y; have := h.anti y z; have := h.anti x z
    have := h.trans z y x (by omega) (by omega)
    omega
theorem one_of {α : Type} {c : α → α → Int} (h : Tri c) (x y : α) (h1 : ltOf c x y = false) (h2 : ltOf c y x = false) : x = y := by
  rw [ltOf_eq] at *
  simp only [decide_eq_false_iff_not] at *
  have := h.anti x y
  exact (h.zero x y).1 (by omega)
theorem denL_row {η : Env} : ∀ {vs us : List Value} {cs : List SV}, DenL η cs vs → DenL η cs us → detVL cs = true → vs = us := fun h h' hd => DetL.of hd _ _ _ h h'
theorem sortQ_does (l : List Qd) (hl : l.length * 224 ≤ 140737488351232) : Does Try.prog tab 51 1 [.sl (.loc 0) 0 16 l.length none, .fn (.func 32) [] []] [(0, .rows 16 (l.map qdRow))] []
    (fun r O nx => r = .tup [] ∧ O = [(0, .rows 16 ((l.mergeSort (leC qdCmp)).map qdRow))] ∧ nx = 1) := by
  have hrow : ∀ (η : Env) (q : Qd), DenL η (qdRow q) (qdE q) ∧ ∀ u ∈ qdE q, u.oneCell' = true := fun η q => by
    refine ⟨by simp only [qdRow, qdE, DenL, Den]; exact ⟨_, _, rfl, rfl, _, _, rfl, rfl, _, _, rfl, rfl, _, _, rfl, rfl, _, _, rfl, rfl, _, _, rfl, rfl, _, _, rfl, rfl, _, _, rfl, rfl, _, _, rfl, rfl, _, _, rfl, rfl, _, _, rfl, rfl, _, _, rfl, rfl, _, _, rfl, rfl, _, _, rfl, rfl, _, _, rfl, rfl, _, _, rfl, rfl, rfl⟩, fun u hu => ?_⟩
    simp only [qdE, List.mem_cons, List.not_mem_nil, or_false] at hu
    rcases hu with rfl | rfl | rfl | rfl | rfl | rfl | rfl | rfl | rfl | rfl | rfl | rfl | rfl | rfl | rfl | rfl <;> rfl
  exact sortFunc_does (enc := qdE) (k := 16) (row := qdRow) (cf := qdCmp) tabOK sortQ sortQ (fun w => by kernel_rfl) (fun w => by kernel_rfl) (fun q => ⟨rfl, rfl⟩) (by omega) (swo_of triQ) (one_of triQ) rfl (fun x y => qdCmp_does x y) Try.call32 Try.call51 hrow (fun η x vs h => denL_row h (hrow η x).1 rfl) l (by omega)
theorem sortT_does (l : List Tm) (hl : l.length * 56 ≤ 140737488351232) : Does Try.prog tab 60 1 [.sl (.loc 0) 0 4 l.length none, .fn (.func 43) [] []] [(0, .rows 4 (l.map tmRow))] []
    (fun r O nx => r = .tup [] ∧ O = [(0, .rows 4 ((l.mergeSort (leC tmCmp)).map tmRow))] ∧ nx = 1) := by
  have hrow : ∀ (η : Env) (q : Tm), DenL η (tmRow q) (tmE q) ∧ ∀ u ∈ tmE q, u.oneCell' = true := fun η q => by
    refine ⟨by simp only [tmRow, tmE, DenL, Den]; exact ⟨_, _, rfl, rfl, _, _, rfl, rfl, _, _, rfl, rfl, _, _, rfl, rfl, rfl⟩, fun u hu => ?_⟩
    simp only [tmE, List.mem_cons, List.not_mem_nil, or_false] at hu
    rcases hu with rfl | rfl | rfl | rfl <;> rfl
  exact sortFunc_does (enc := tmE) (k := 4) (row := tmRow) (cf := tmCmp) tabOK sortT sortT (fun w => by kernel_rfl) (fun w => by kernel_rfl) (fun q => ⟨rfl, rfl⟩) (by omega) (swo_of triT) (one_of triT) rfl (fun x y => tmCmp_does x y) Try.call43 Try.call60 hrow (fun η x vs h => denL_row h (hrow η x).1 rfl) l (by omega)
end Go.Proofs.Ytillkgjdbnjnoaa
/- term: sorted and Sort; walked. Conditions: none. -/
set_option linter.unusedVariables false
set_option linter.unusedSimpArgs false
set_option maxRecDepth 20000
namespace Go.Proofs.Ytillkgjdbnjnoaa
open Go.Sx Go.Our
/-- A new set: its slice is clipped; behind its end lie noughts. -/
def NewSet {α : Type} (f : α → List SV) (es k : Nat) (z : α) (n : Nat) (l : List α) : SV → Hps → Nat → Prop := fun r O nx => ∃ j, j + l.length ≤ n ∧ r = .sl (.loc k) 0 es l.length (some l.length) ∧ O = [(k, .rows es ((l ++ List.replicate j z).map f))] ∧ nx = k + 1
theorem sortedQ_does (l z : List Qd) (lim : Option Nat) (hl : l.length * 224 ≤ 140737488351232) : Does Try.prog tab 31 1 [.sl (.loc 0) 0 16 l.length lim, .fn (.func 32) [] []] [] [(0, .rows 16 ((l ++ z).map qdRow))]
    (NewSet qdRow 16 1 zeroQd l.length (setL qdCmp l)) := by
  have hm : (l.mergeSort (leC qdCmp)).length = l.length := List.length_mergeSort l
  have hc := compact_len (l.mergeSort (leC qdCmp))
  have hcc : (compactM (l.mergeSort (leC qdCmp)) ++ List.replicate ((l.mergeSort (leC qdCmp)).length - (compactM (l.mergeSort (leC qdCmp))).length) zeroQd).length * 224 ≤ 140737488351232 := by rw [List.length_append, List.length_replicate]; omega
  refine Does.enter tabOK (g := 31) (fn := Try.f31) Try.call31 Try.func31 rfl 14 rfl rfl [.tmp 4] rfl ?_
  intro w0 F η0 h0
  conv => whnf
  refine CALL.at [0] (cloneQ_does l z lim hl) rfl rfl rfl rfl (by first | rfl | (simp only [belowO, belowH, plainLL_below _ (plainQds _), Bool.and_self, Bool.and_true] <;> rfl)) (by first | rfl | (simp only [belowO, belowH, plainLL_below _ (plainQds _), Bool.and_self, Bool.and_true] <;> rfl)) (by repeat' (first | exact trivial | exact (renH_plain _ (h := .rows _ _) (plainQds _)).symm | exact rfl | exact (renH_plain _ (h := .rows _ _) (plainQds _)).trans (renH_plain _ (h := .rows _ _) (plainQds _)).symm | ((conv => whnf); refine ⟨?_, ?_⟩))) (by repeat' (first | exact trivial | exact (renH_plain _ (h := .rows _ _) (plainQds _)).symm | exact rfl | exact (renH_plain _ (h := .rows _ _) (plainQds _)).trans (renH_plain _ (h := .rows _ _) (plainQds _)).symm | ((conv => whnf); refine ⟨?_, ?_⟩))) rfl rfl ?_
  rintro r O nx ⟨rfl, rfl, rfl⟩
  conv => whnf
  refine CALL.at [1] (sortQ_does l hl) rfl rfl rfl rfl (by first | rfl | (simp only [belowO, belowH, plainLL_below _ (plainQds _), Bool.and_self, Bool.and_true] <;> rfl)) (by first | rfl | (simp only [belowO, belowH, plainLL_below _ (plainQds _), Bool.and_self, Bool.and_true] <;> rfl)) (by repeat' (first | exact trivial | exact (renH_plain _ (h := .rows _ _) (plainQds _)).symm | exact rfl | exact (renH_plain _ (h := .rows _ _) (plainQds _)).trans (renH_plain _ (h := .rows _ _) (plainQds _)).symm | ((conv => whnf); refine ⟨?_, ?_⟩))) (by repeat' (first | exact trivial | exact (renH_plain _ (h := .rows _ _) (plainQds _)).symm | exact rfl | exact (renH_plain _ (h := .rows _ _) (plainQds _)).trans (renH_plain _ (h := .rows _ _) (plainQds _)).symm | ((conv => whnf); refine ⟨?_, ?_⟩))) rfl rfl ?_
  rintro r O nx ⟨rfl, rfl, rfl⟩
  conv => whnf
  rw [← hm]
  refine CALL.at [1] (compactQ_does (l.mergeSort (leC qdCmp)) (by omega)) rfl rfl rfl rfl (by first | rfl | (simp only [belowO, belowH, plainLL_below _ (plainQds _), Bool.and_self, Bool.and_true] <;> rfl)) (by first | rfl | (simp only [belowO, belowH, plainLL_below _ (plainQds _), Bool.and_self, Bool.and_true] <;> rfl)) (by repeat' (first | exact trivial | exact (renH_plain _ (h := .rows _ _) (plainQds _)).symm | exact rfl | exact (renH_plain _ (h := .rows _ _) (plainQds _)).trans (renH_plain _ (h := .rows _ _) (plainQds _)).symm | ((conv => whnf); refine ⟨?_, ?_⟩))) (by repeat' (first | exact trivial | exact (renH_plain _ (h := .rows _ _) (plainQds _)).symm | exact rfl | exact (renH_plain _ (h := .rows _ _) (plainQds _)).trans (renH_plain _ (h := .rows _ _) (plainQds _)).symm | ((conv => whnf); refine ⟨?_, ?_⟩))) rfl rfl ?_
  rintro r O nx ⟨rfl, rfl, rfl⟩
  conv => whnf
  refine CALL.at [1] (clipQ_does (compactM (l.mergeSort (leC qdCmp)) ++ List.replicate ((l.mergeSort (leC qdCmp)).length - (compactM (l.mergeSort (leC qdCmp))).length) zeroQd) (compactM (l.mergeSort (leC qdCmp))).length (by simp) hcc) rfl rfl rfl rfl (by first | rfl | (simp only [belowO, belowH, plainLL_below _ (plainQds _), Bool.and_self, Bool.and_true] <;> rfl)) (by first | rfl | (simp only [belowO, belowH, plainLL_below _ (plainQds _), Bool.and_self, Bool.and_true] <;> rfl)) (by repeat' (first | exact trivial | exact (renH_plain _ (h := .rows _ _) (plainQds _)).symm | exact rfl | exact (renH_plain _ (h := .rows _ _) (plainQds _)).trans (renH_plain _ (h := .rows _ _) (plainQds _)).symm | ((conv => whnf); refine ⟨?_, ?_⟩))) (by repeat' (first | exact trivial | exact (renH_plain _ (h := .rows _ _) (plainQds _)).symm | exact rfl | exact (renH_plain _ (h := .rows _ _) (plainQds _)).trans (renH_plain _ (h := .rows _ _) (plainQds _)).symm | ((conv => whnf); refine ⟨?_, ?_⟩))) rfl rfl ?_
  rintro r O nx ⟨rfl, rfl, rfl⟩
  conv => whnf
  refine FIN.at h0 [1] (.sl (.loc 1) 0 16 (setL qdCmp l).length (some (setL qdCmp l).length)) [(1, .rows 16 ((setL qdCmp l ++ List.replicate ((l.mergeSort (leC qdCmp)).length - (compactM (l.mergeSort (leC qdCmp))).length) zeroQd).map qdRow))] rfl rfl rfl (by first | rfl | (simp only [belowO, belowH, plainLL_below _ (plainQds _), Bool.and_self, Bool.and_true] <;> rfl)) (by repeat' (first | exact trivial | exact (renH_plain _ (h := .rows _ _) (plainQds _)).symm | (with_reducible rfl) | (exact (renH_plain _ (h := .rows _ _) (plainQds _)).trans (renH_plain _ (h := .rows _ _) (plainQds _)).symm) | (exact rows_eq (plainQds _) (by simp [qdRow, ofVal, List.take_of_length_le])) | exact rfl | ((conv => whnf); refine ⟨?_, ?_⟩))) rfl ?_
  exact ⟨_, by unfold setL; omega, rfl, rfl, rfl⟩
theorem sortedT_does (l z : List Tm) (lim : Option Nat) (hl : l.length * 56 ≤ 140737488351232) : Does Try.prog tab 42 1 [.sl (.loc 0) 0 4 l.length lim, .fn (.func 43) [] []] [] [(0, .rows 4 ((l ++ z).map tmRow))]
    (NewSet tmRow 4 1 zeroTm l.length (setL tmCmp l)) := by
  have hm : (l.mergeSort (leC tmCmp)).length = l.length := List.length_mergeSort l
  have hc := compact_len (l.mergeSort (leC tmCmp))
  have hcc : (compactM (l.mergeSort (leC tmCmp)) ++ List.replicate ((l.mergeSort (leC tmCmp)).length - (compactM (l.mergeSort (leC tmCmp))).length) zeroTm).length * 56 ≤ 140737488351232 := by rw [List.length_append, List.length_replicate]; omega
  refine Does.enter tabOK (g := 42) (fn := Try.f42) Try.call42 Try.func42 rfl 14 rfl rfl [.tmp 4] rfl ?_
  intro w0 F η0 h0
  conv => whnf
  refine CALL.at [0] (cloneT_does l z lim hl) rfl rfl rfl rfl (by first | rfl | (simp only [belowO, belowH, plainLL_below _ (plainTms _), Bool.and_self, Bool.and_true] <;> rfl)) (by first | rfl | (simp only [belowO, belowH, plainLL_below _ (plainTms _), Bool.and_self, Bool.and_true] <;> rfl)) (by repeat' (first | exact trivial | exact (renH_plain _ (h := .rows _ _) (plainTms _)).symm | exact rfl | exact (renH_plain _ (h := .rows _ _) (plainTms _)).trans (renH_plain _ (h := .rows _ _) (plainTms _)).symm | ((conv => whnf); refine ⟨?_, ?_⟩))) (by repeat' (first | exact trivial | exact (renH_plain _ (h := .rows _ _) (plainTms _)).symm | exact rfl | exact (renH_plain _ (h := .rows _ _) (plainTms _)).trans (renH_plain _ (h := .rows _ _) (plainTms _)).symm | ((conv => whnf); refine ⟨?_, ?_⟩))) rfl rfl ?_
  rintro r O nx ⟨rfl, rfl, rfl⟩
  conv => whnf
  refine CALL.at [1] (sortT_does l hl) rfl rfl rfl rfl (by first | rfl | (simp only [belowO, belowH, plainLL_below _ (plainTms _), Bool.and_self, Bool.and_true] <;> rfl)) (by first | rfl | (simp only [belowO, belowH, plainLL_below _ (plainTms _), Bool.and_self, Bool.and_true] <;> rfl)) (by repeat' (first | exact trivial | exact (renH_plain _ (h := .rows _ _) (plainTms _)).symm | exact rfl | exact (renH_plain _ (h := .rows _ _) (plainTms _)).trans (renH_plain _ (h := .rows _ _) (plainTms _)).symm | ((conv => whnf); refine ⟨?_, ?_⟩))) (by repeat' (first | exact trivial | exact (renH_plain _ (h := .rows _ _) (plainTms _)).symm | exact rfl | exact (renH_plain _ (h := .rows _ _) (plainTms _)).trans (renH_plain _ (h := .rows _ _) (plainTms _)).symm | ((conv => whnf); refine ⟨?_, ?_⟩))) rfl rfl ?_
  rintro r O nx ⟨rfl, rfl, rfl⟩
  conv => whnf
  rw [← hm]
  refine CALL.at [1] (compactT_does (l.mergeSort (leC tmCmp)) (by omega)) rfl rfl rfl rfl (by first | rfl | (simp only [belowO, belowH, plainLL_below _ (plainTms _), Bool.and_self, Bool.and_true] <;> rfl)) (by first | rfl | (simp only [belowO, belowH, plainLL_below _ (plainTms _), Bool.and_self, Bool.and_true] <;> rfl)) (by repeat' (first | exact trivial | exact (renH_plain _ (h := .rows _ _) (plainTms _)).symm | exact rfl | exact (renH_plain _ (h := .rows _ _) (plainTms _)).trans (renH_plain _ (h := .rows _ _) (plainTms _)).symm | ((conv => whnf); refine ⟨?_, ?_⟩))) (by repeat' (first | exact trivial | exact (renH_plain _ (h := .rows _ _) (plainTms _)).symm | exact rfl | exact (renH_plain _ (h := .rows _ _) (plainTms _)).trans (renH_plain _ (h := .rows _ _) (plainTms _)).symm | ((conv => whnf); refine ⟨?_, ?_⟩))) rfl rfl ?_
  rintro r O nx ⟨rfl, rfl, rfl⟩
  conv => whnf
  refine CALL.at [1] (clipT_does (compactM (l.mergeSort (leC tmCmp)) ++ List.replicate ((l.mergeSort (leC tmCmp)).length - (compactM (l.mergeSort (leC tmCmp))).length) zeroTm) (compactM (l.mergeSort (leC tmCmp))).length (by simp) hcc) rfl rfl rfl rfl (by first | rfl | (simp only [belowO, belowH, plainLL_below _ (plainTms _), Bool.and_self, Bool.and_true] <;> rfl)) (by first | rfl | (simp only [belowO, belowH, plainLL_below _ (plainTms _), Bool.and_self, Bool.and_true] <;> rfl)) (by repeat' (first | exact trivial | exact (renH_plain _ (h := .rows _ _) (plainTms _)).symm | exact rfl | exact (renH_plain _ (h := .rows _ _) (plainTms _)).trans (renH_plain _ (h := .rows _ _) (plainTms _)).symm | ((conv => whnf); refine ⟨?_, ?_⟩))) (by repeat' (first | exact trivial | exact (renH_plain _ (h := .rows _ _) (plainTms _)).symm | exact rfl | exact (renH_plain _ (h := .rows _ _) (plainTms _)).trans (renH_plain _ (h := .rows _ _) (plainTms _)).symm | ((conv => whnf); refine ⟨?_, ?_⟩))) rfl rfl ?_
  rintro r O nx ⟨rfl, rfl, rfl⟩
  conv => whnf
  refine FIN.at h0 [1] (.sl (.loc 1) 0 4 (setL tmCmp l).length (some (setL tmCmp l).length)) [(1, .rows 4 ((setL tmCmp l ++ List.replicate ((l.mergeSort (leC tmCmp)).length - (compactM (l.mergeSort (leC tmCmp))).length) zeroTm).map tmRow))] rfl rfl rfl (by first | rfl | (simp only [belowO, belowH, plainLL_below _ (plainTms _), Bool.and_self, Bool.and_true] <;> rfl)) (by repeat' (first | exact trivial | exact (renH_plain _ (h := .rows _ _) (plainTms _)).symm | (with_reducible rfl) | (exact (renH_plain _ (h := .rows _ _) (plainTms _)).trans (renH_plain _ (h := .rows _ _) (plainTms _)).symm) | (exact rows_eq (plainTms _) (by simp [tmRow, ofVal, List.take_of_length_le])) | exact rfl | ((conv => whnf); refine ⟨?_, ?_⟩))) rfl ?_
  exact ⟨_, by unfold setL; omega, rfl, rfl, rfl⟩
theorem tsort_does (l z : List Qd) (lim : Option Nat) (hl : QdsOK l) : Does Try.prog tab 11 1 [.sl (.loc 0) 0 16 l.length lim] [] [(0, .rows 16 ((l ++ z).map qdRow))] (NewSet qdRow 16 1 zeroQd l.length (setL qdCmp l)) := by
  refine Does.enter tabOK (g := 11) (fn := Try.f11) Try.call11 Try.func11 rfl 5 rfl rfl [.tmp 2] rfl ?_
  intro w0 F η0 h0
  conv => whnf
  refine CALL.at [0] (sortedQ_does l z lim hl) rfl rfl rfl rfl (by first | rfl | (simp only [belowO, belowH, plainLL_below _ (plainQds _), Bool.and_self, Bool.and_true] <;> rfl)) (by first | rfl | (simp only [belowO, belowH, plainLL_below _ (plainQds _), Bool.and_self, Bool.and_true] <;> rfl)) (by repeat' (first | exact trivial | exact (renH_plain _ (h := .rows _ _) (plainQds _)).symm | exact rfl | exact (renH_plain _ (h := .rows _ _) (plainQds _)).trans (renH_plain _ (h := .rows _ _) (plainQds _)).symm | ((conv => whnf); refine ⟨?_, ?_⟩))) (by repeat' (first | exact trivial | exact (renH_plain _ (h := .rows _ _) (plainQds _)).symm | exact rfl | exact (renH_plain _ (h := .rows _ _) (plainQds _)).trans (renH_plain _ (h := .rows _ _) (plainQds _)).symm | ((conv => whnf); refine ⟨?_, ?_⟩))) rfl rfl ?_
  rintro r O nx ⟨j, hj, rfl, rfl, rfl⟩
  conv => whnf
  refine FIN.at h0 [1] (.sl (.loc 1) 0 16 (setL qdCmp l).length (some (setL qdCmp l).length)) [(1, .rows 16 ((setL qdCmp l ++ List.replicate j zeroQd).map qdRow))] rfl rfl rfl (by first | rfl | (simp only [belowO, belowH, plainLL_below _ (plainQds _), Bool.and_self, Bool.and_true] <;> rfl)) (by repeat' (first | exact trivial | exact (renH_plain _ (h := .rows _ _) (plainQds _)).symm | (with_reducible rfl) | (exact (renH_plain _ (h := .rows _ _) (plainQds _)).trans (renH_plain _ (h := .rows _ _) (plainQds _)).symm) | (exact rows_eq (plainQds _) (by simp [qdRow, ofVal, List.take_of_length_le])) | exact rfl | ((conv => whnf); refine ⟨?_, ?_⟩))) rfl ?_
  exact ⟨j, hj, rfl, rfl, rfl⟩
end Go.Proofs.Ytillkgjdbnjnoaa
/- The library's slices.Sort over texts, told to the engine. Conditions: none. -/
set_option linter.unusedVariables false
set_option linter.unusedSimpArgs false
namespace Go.Sx
open Go Go.Sort Go.Shelf Go.Proofs Go.Our
def strRowS (s : List UInt8) : List SV := [.str s]
theorem plainStrsS (l : List (List UInt8)) : plainLL (l.map strRowS) = true := plainLL_map _ (fun _ => rfl) l
theorem leS (x y : List UInt8) : decide (x ≤ y) = leC cmpL x y := by
  show decide (x ≤ y) = !decide (Lib.compareBytes y x < 0)
  rw [← bytesLess_cb, Go.Proofs.bytesLess_eq]
  rw [Bool.eq_iff_iff]
  simp [List.not_lt]
theorem strWorld_heap (w : World) (blk m : Nat) (d : Array (List UInt8)) (os : Array Obj) : (grow (putRow encStr (Sort.ahead w m) blk 0 d) os).heap = (mapBlock w blk (putCells encStr 0 d)).heap ++ os := by simp [grow, putRow, mapBlock, Sort.ahead]
theorem strWorld_size (w : World) (blk m : Nat) (d : Array (List UInt8)) (os : Array Obj) : w.heap.size ≤ (grow (putRow encStr (Sort.ahead w m) blk 0 d) os).heap.size := by
  rw [strWorld_heap]; simp [mapBlock]
theorem strWorld_block (w : World) (blk m : Nat) (d : Array (List UInt8)) (os : Array Obj) {g : Nat} (hg : g < w.heap.size) (hne : g ≠ blk) : (grow (putRow encStr (Sort.ahead w m) blk 0 d) os).heap[g]? = w.heap[g]? := by
  rw [strWorld_heap, Array.getElem?_append_left (by simpa [mapBlock] using hg)]
  simp only [mapBlock, Array.getElem?_modify]
  rw [if_neg (fun h => hne h.symm)]
theorem strWorld_row (w : World) (blk m : Nat) (d : Array (List UInt8)) (os : Array Obj) {c : Array Value} {T : TypeId} {fz : Nat × Nat} (h : w.heap[blk]? = some (.cells c T fz)) : (grow (putRow encStr (Sort.ahead w m) blk 0 d) os).heap[blk]? = some (.cells (putCells encStr 0 d c) T fz) := by
  have hlt := (Array.getElem?_eq_some_iff.1 h).1
  rw [strWorld_heap, Array.getElem?_append_left (by simpa [mapBlock] using hlt)]
  simp only [mapBlock, Array.getElem?_modify, if_true, h, Option.map_eq_map, Option.map_some, onCells]
/-- slices.Sort over a row of texts of its own. -/
theorem sortStr_does {P : Program} {T : Tab} {ρ : Ren} (L : Lays.n190 P ρ) (ef : ∀ args w, (callFunc (ρ.f 190) args).run P w = .ok (.enter (ρ.f 190) args) w) (l : List (List UInt8)) (hl : l.length < 4611686018427387904) :
    Does P T (ρ.f 190) 1 [.sl (.loc 0) 0 1 l.length none] [(0, .rows 1 (l.map strRowS))] [] (fun r O nx => r = .tup [] ∧ O = [(0, .rows 1 ((l.mergeSort (leC cmpL)).map strRowS))] ∧ nx = 1) := by
  refine ⟨fun M vs hP hT' hF hS H hd => .inl ⟨ρ.f 190, by rw [hP]; exact ef _ _, ?_⟩⟩
  obtain ⟨P', ⟨T', N', S', ro'⟩, w0, F, η0⟩ := M
  simp only at hP hT' hF hS H hd ⊢
  subst hP hT'
  simp only [DenL] at hd
  obtain ⟨v, us, rfl, hv, rfl⟩ := hd
  have hsat := (H.own.1 0 _ rfl).1
  simp only [HpSat, Env.get] at hsat
  simp only [Den, Env.get] at hv
  have fin : ∀ w' (O' : Hps), FrW w0 w' F → HpSat η0 w' true (.loc 0) (.rows 1 ((l.mergeSort (leC cmpL)).map strRowS)) →
      ∃ r O' nx' η', (r = SV.tup [] ∧ O' = [(0, Hp.rows 1 ((l.mergeSort (leC cmpL)).map strRowS))] ∧ nx' = 1) ∧ η0 <+: η' ∧ HeapOK ⟨P', ⟨T', N', S', ro'⟩, w0, F, η0⟩ η' w' O' nx' ∧ Den η' r (.tuple #[]) := by
    intro w' O' hfr hs
    refine ⟨_, _, _, η0, ⟨rfl, rfl, rfl⟩, List.prefix_rfl, ⟨H.pre, H.len, ⟨fun i h hi => ?_, fun i j h h' k hi hj hij f f' => ?_⟩, hfr, H.sok⟩, ?_⟩
    · rw [lkp_cons] at hi
      split at hi
      · rename_i e; subst e
        injection hi with hi; subst hi
        refine ⟨hs, fun n f => (H.own.1 0 _ rfl).2 n ?_⟩
        obtain ⟨e, h1, h2⟩ := f
        exact ⟨e, h1, h2⟩
      · simp [lkp] at hi
    · rw [lkp_cons] at hi hj
      split at hi
      · rename_i e; subst e
        split at hj
        · rename_i e2; exact (hij e2.symm).elim
        · simp [lkp] at hj
      · simp [lkp] at hi
    · simp only [Den, DenL]; exact ⟨[], rfl, rfl⟩
  rcases hsat with ⟨hn, hnil⟩ | ⟨e, arr, Tt, fz, he, hheap, hown, hcells⟩
  · have hl0 : l = [] := by simpa using hnil
    subst hl0
    have hv2 : v = .slice none 0 0 := by
      rcases hv with ⟨_, h, _⟩ | ⟨e, o, h, _⟩
      · exact h
      · rw [hn] at h; cases h
    subst hv2
    refine (Any.slices_Sort_string_none L none 0 w0).mono ?_
    rintro e w' ⟨rfl, rfl⟩
    refine ⟨_, rfl, fin _ [] (FrW.refl _ _) ?_⟩
    simp only [HpSat, Env.get]
    exact .inl ⟨hn, by simp⟩
  · obtain ⟨hun, hsz, hle, hb0⟩ := hown trivial
    obtain ⟨hel, hvv⟩ : l.length ≤ e.cap ∧ v = .slice (some ⟨e.g, 0, none⟩) l.length e.cap := by
      rcases hv with ⟨h, _⟩ | ⟨e', o, h, h2, h3, h4, h5⟩
      · rw [he] at h; cases h
      · rw [he] at h; cases h
        simp only [Option.getD_none, Nat.zero_add, Nat.sub_zero] at h2 h3
        have := h5 (.inr trivial)
        rw [hb0] at this
        simp only [Nat.zero_mul, Nat.add_zero] at this
        subst this
        exact ⟨h3, h2⟩
    subst hvv
    have hblk : e.g < w0.heap.size := (Array.getElem?_eq_some_iff.1 hheap).1
    have hsize : l.length ≤ arr.size := by rw [hsz]; omega
    have hcell : ∀ (i : Nat) (x : List UInt8), l[i]? = some x → arr[i]? = some (encStr x) := by
      intro i x hi
      obtain ⟨h1, h2⟩ := hcells i (strRowS x) (by rw [List.getElem?_map, hi]; rfl)
      obtain ⟨u, h3, h4, h5⟩ := h2 0 (.str x) rfl
      rw [hb0, Nat.zero_add, Nat.mul_one, Nat.add_zero] at h3
      simp only [Den] at h5
      rw [h3, h5]; try rfl
    have hH : Holds encStr w0 e.g 0 l.toArray := by
      intro t ht
      rw [List.size_toArray] at ht
      have h4 := hcell t l[t] (List.getElem?_eq_getElem ht)
      refine ⟨by rw [Nat.zero_add, cell_of hheap, h4]; simp [ht], ?_⟩
      have := hun t (by omega)
      simp only [World.frozen?, hheap, Nat.zero_add]
      simpa using this
    have hFg : F e.g := by
      rcases (H.own.1 0 _ rfl).2 e.g ⟨e, he, .inl rfl⟩ with h | h
      · exact h
      · have h : w0.heap.size ≤ e.g := h
        omega
    have hmain := Any.slices_Sort_string L e.g 0 e.cap l w0 hH hblk hl
    rw [show (fun x y : List UInt8 => decide (x ≤ y)) = leC cmpL from funext fun x => funext fun y => leS x y] at hmain
    refine hmain.mono ?_
    rintro e1 w' ⟨rfl, n, os, rfl⟩
    refine ⟨_, rfl, fin _ [] ?_ ?_⟩
    · refine ⟨rfl, rfl, rfl, ?_, strWorld_size .., fun b hb hnF => strWorld_block w0 e.g n _ os hb (fun e => hnF (e ▸ hFg))⟩
      simp [grow, putRow, mapBlock, Sort.ahead]
    · simp only [HpSat, Env.get]
      have hsl : (l.mergeSort (leC cmpL)).length = l.length := List.length_mergeSort l
      refine .inr ⟨e, _, Tt, fz, he, strWorld_row w0 e.g n _ os hheap, fun _ => ⟨?_, ?_, ?_, hb0⟩, fun i rw1 hi => ?_⟩
      · simp only [putCells, Array.size_mapIdx]; exact hun
      · simp only [putCells, Array.size_mapIdx]; exact hsz
      · rw [List.length_map, hsl]; exact hel
      · rw [List.getElem?_map] at hi
        obtain ⟨x, hx, rfl⟩ := Option.map_eq_some_iff.1 hi
        refine ⟨rfl, fun j sv hj => ?_⟩
        have hil := (List.getElem?_eq_some_iff.1 hx).1
        match j, hj with
        | 0, hj =>
          injection hj with hj; subst hj
          refine ⟨encStr x, ?_, rfl, by simp only [Den]; try rfl⟩
          have hlt : i < arr.size := by omega
          rw [hb0, Nat.zero_add, Nat.mul_one, Nat.add_zero]
          have hxe := (List.getElem?_eq_some_iff.1 hx).2
          have hil' : i < l.length := by omega
          simp only [putCells, Array.getElem?_mapIdx, Array.getElem?_eq_getElem hlt, Option.map_some, Nat.zero_le, true_and, Nat.zero_add, List.size_toArray, hsl, hil', if_true, Nat.sub_zero]
          rw [Array.getElem!_eq_getD, Array.getD_eq_getD_getElem?]
          simp [hx]
end Go.Sx
/- slices: Compact, Clip, Sort over texts; walked. Conditions: none. -/
set_option linter.unusedVariables false
set_option linter.unusedSimpArgs false
set_option maxRecDepth 20000
namespace Go.Proofs.Ytillkgjdbnjnoaa
open Go.Sx Go.Our Go.Sort Go.Shelf
def plListS0 : Plan := (planOf [(0, 1), (1, 1), (2, 1), (4, 1), (5, 1), (6, 1), (7, 1), (3, 2), (8, 2), (9, 1)])
theorem clipS_does (l : List (List UInt8)) (n : Nat) (hn : n ≤ l.length) (hl : l.length * 16 ≤ 140737488351232) : Does Try.prog tab 45 1 [.sl (.loc 0) 0 1 n none] [(0, .rows 1 (l.map strRowS))] []
    (fun r O nx => r = .sl (.loc 0) 0 1 n (some n) ∧ O = [(0, .rows 1 (l.map strRowS))] ∧ nx = 1) := by
  refine Does.enter tabOK (g := 45) (fn := Try.f45) Try.call45 Try.func45 rfl 9 rfl rfl [.tmp 2] rfl ?_
  intro w0 F η0 h0
  conv => whnf
  repeat' ((first | with_reducible refine IF.tt ?_ | with_reducible refine IF.ff ?_ | (refine NEED.mk ⟨by omega, by omega, by omega⟩ ?_; conv => whnf) | refine NEED.au ?_ | ((with_reducible apply GET.at); rfl) | ((with_reducible apply GETG.at); rfl) | ((with_reducible refine UNK.mk (fun h => ?_) ?_) <;> try (exfalso; omega)) | ((with_reducible refine IF.mk (fun h => ?_) (fun h => ?_)) <;> (try simp (disch := omega) only [hsB, hsC, lnB, wrap64, wrap32, simprocAttr] at h) <;> try (exfalso; omega))) <;> conv => whnf)
  refine FIN.here h0 (rc := .sl (.loc 0) 0 1 n (some n)) (Oc := [(0, .rows 1 (l.map strRowS))]) (by simp) rfl (by first | rfl | (simp only [belowO, belowH, plainLL_below _ (plainStrsS _), Bool.and_self, Bool.and_true] <;> rfl)) ⟨rfl, trivial⟩ ⟨rfl, rfl, rfl⟩
theorem compactS_does (l : List (List UInt8)) (hl : l.length * 16 ≤ 140737488351232) : Does Try.prog tab 46 1 [.sl (.loc 0) 0 1 l.length none] [(0, .rows 1 (l.map strRowS))] []
    (fun r O nx => r = .sl (.loc 0) 0 1 (compactM l).length none ∧ O = [(0, .rows 1 ((compactM l ++ List.replicate (l.length - (compactM l).length) ([] : List UInt8)).map strRowS))] ∧ nx = 1) := by
  have fin : ∀ {m : Nat}, m = (compactM l).length → compactM l = l → (SV.sl (.loc 0) 0 1 l.length none = SV.sl (.loc 0) 0 1 (compactM l).length none) ∧ l.map strRowS = (compactM l ++ List.replicate (l.length - (compactM l).length) ([] : List UInt8)).map strRowS := fun hm he => by
    rw [he]; simp
  refine Does.enter tabOK (g := 46) (fn := Try.f46) Try.call46 Try.func46 rfl 61 rfl rfl [.tmp 2] rfl ?_
  intro w0 F η0 h0
  conv => whnf
  refine IF.mk (fun h => ?_) (fun h => ?_)
  · have h : l.length < 2 := by simp at h; omega
    obtain ⟨f1, f2⟩ := fin rfl (compact_two h)
    conv => whnf
    rw [f1, f2]
    refine FIN.here h0 (rc := .sl (.loc 0) 0 1 (compactM l).length none) (Oc := [(0, .rows 1 ((compactM l ++ List.replicate (l.length - (compactM l).length) ([] : List UInt8)).map strRowS))]) rfl rfl (by first | rfl | (simp only [belowO, belowH, plainLL_below _ (plainStrsS _), Bool.and_self, Bool.and_true] <;> rfl)) ⟨rfl, trivial⟩ ⟨rfl, rfl, rfl⟩
  have h2 : 2 ≤ l.length := by simp at h; omega
  clear h
  conv => whnf
  refine LOOP.go tabOK [0] (X := Nat) (fun k => 1 ≤ k ∧ k ≤ l.length ∧ compactM (l.take k) = l.take k) (fun k => [(3, .int .i64 (k : Int))]) (fun k => [(0, .rows 1 (l.map strRowS))]) 1 (fun k => l.length - k) 1 ⟨by omega, by omega, compact_one⟩ ?_
  conv => whnf
  refine ⟨by (refine GOES.cutting h0 rfl rfl rfl (by first | rfl | (simp only [belowO, belowH, plainLL_below _ (plainStrsS _), Bool.and_self, Bool.and_true] <;> rfl)) ?_ ?_ <;> (repeat' (first | (with_reducible rfl) | (exact sl_eq rfl (by first | (simp; done) | omega | (simp; omega))) | (exact congrArg (SV.int _) (by first | omega | (simp (disch := omega) only [lnB, wrap64, wrap32] <;> omega) | (simp; done) | (simp <;> omega))) | (exact congrArg (Hp.rows _) (by rfl)) | ((conv => whnf); refine ⟨?_, ?_⟩) | exact trivial | rfl))), ?_⟩
  rintro k ⟨hk1, hkl, hk⟩
  conv => whnf
  rcases Nat.lt_or_ge k l.length with hlt | hge
  · have hs := compact_succ hk1 hlt
    have hk' : (IntKind.i64.wrap ((k : Int) - 1)).toNat = k - 1 := by rw [wrap64 (by omega) (by omega)]; omega
    repeat' ((first | with_reducible refine IF.tt ?_ | with_reducible refine IF.ff ?_ | refine DRAWN.of (id := 6) tabOK mixed plListS0 (by kernel_rfl) ?_ | refine DRAWN.of (id := 11) tabOK mixed plListS0 (by kernel_rfl) ?_ | with_reducible refine ADD.mk (fun _ _ => ?_) | with_reducible refine NEED.mk (Det.of rfl) ?_ | refine NEED.mk (det_pos (by omega)) ?_ | with_reducible refine FORK.mk ?_ ?_ | (refine GET.at (row := strRowS (l[k]'(by omega))) (row_at0 (by omega) (by omega)) ?_; conv => whnf) | (refine GET.at (row := strRowS (l[k - 1]'(by omega))) (row_at0 (by omega) (by omega)) ?_; conv => whnf) | refine NEED.au ?_ | ((with_reducible apply GET.at); rfl) | ((with_reducible apply GETG.at); rfl) | ((with_reducible refine UNK.mk (fun h => ?_) ?_) <;> try (exfalso; omega)) | ((with_reducible refine IF.mk (fun h => ?_) (fun h => ?_)) <;> (try simp (disch := omega) only [hsB, hsC, lnB, wrap64, wrap32, simprocAttr] at h) <;> try (exfalso; omega))) <;> conv => whnf)
    · have heq : l[k] = l[k - 1] := id (h)
      rw [if_pos heq, hk] at hs
      have hs0 : (compactM (l.take (k + 1))).length = k := by rw [hs]; simp; omega
      clear h heq
      refine LOOP.go tabOK [0, 4] (X := Nat) (fun i => k + 1 ≤ i ∧ i ≤ l.length ∧ (compactM (l.take i)).length + 1 ≤ i ∧ k ≤ (compactM (l.take i)).length) (fun i => [(3, .int .i64 ((compactM (l.take i)).length : Int)), (5, .int .i64 ((i - k : Nat) : Int))]) (fun i => [(0, .rows 1 ((compactM (l.take i) ++ l.drop (compactM (l.take i)).length).map strRowS))]) 1 (fun i => l.length - i) (k + 1) ⟨by omega, by omega, by omega, by omega⟩ ?_
      conv => whnf
      refine ⟨by (refine GOES.cutting h0 rfl rfl rfl (by first | rfl | (simp only [belowO, belowH, plainLL_below _ (plainStrsS _), Bool.and_self, Bool.and_true] <;> rfl)) ?_ ?_ <;> (repeat' (first | (with_reducible rfl) | (exact sl_eq rfl (by first | (simp; done) | omega | (simp; omega))) | (exact congrArg (SV.int _) (by first | omega | (simp (disch := omega) only [lnB, wrap64, wrap32] <;> omega) | (simp; done) | (simp <;> omega))) | (exact congrArg (Hp.rows _) (by (rw [hs, List.length_take, Nat.min_eq_left hkl, List.take_append_drop]))) | ((conv => whnf); refine ⟨?_, ?_⟩) | exact trivial | rfl))), ?_⟩
      rintro i ⟨hi1, hi2, hi3, hi4⟩
      obtain ⟨C, hC⟩ : ∃ C, C = compactM (l.take i) := ⟨_, rfl⟩
      have hsi := fun h => compact_succ (l := l) (i := i) (by omega) h
      rw [← hC] at hi3 hi4 hsi
      dsimp only
      rw [← hC]
      conv => whnf
      rcases Nat.lt_or_ge i l.length with hil | hil
      · have hsi := hsi hil
        have hwr : IntKind.i64.wrap (((i - k : Nat) : Int) - 1) = ((i - 1 - k : Nat) : Int) := by rw [wrap64 (by omega) (by omega)]; omega
        have hg1 : ((C ++ l.drop C.length).map strRowS)[i]? = some (strRowS l[i]) := mid_at strRowS (by omega) hil
        have hg2 : ((C ++ l.drop C.length).map strRowS)[i - 1]? = some (strRowS (l[i - 1]'(by omega))) := mid_at strRowS (by omega) (by omega)
        have hg3 : ((C ++ l.drop C.length).map strRowS)[C.length]? = some (strRowS (l[C.length]'(by omega))) := mid_at strRowS (Nat.le_refl _) (by omega)
        repeat' ((first | with_reducible refine IF.tt ?_ | with_reducible refine IF.ff ?_ | refine DRAWN.of (id := 6) tabOK mixed plListS0 (by kernel_rfl) ?_ | refine DRAWN.of (id := 11) tabOK mixed plListS0 (by kernel_rfl) ?_ | with_reducible refine ADD.mk (fun _ _ => ?_) | with_reducible refine NEED.mk (Det.of rfl) ?_ | refine NEED.mk (det_pos (by omega)) ?_ | with_reducible refine FORK.mk ?_ ?_ | (refine GET.at (row := strRowS (l[i]'(by omega))) (at_eq hg1 (by omega)) ?_; conv => whnf) | (refine GET.at (row := strRowS (l[i - 1]'(by omega))) (at_eq hg2 (by rw [hwr]; omega)) ?_; conv => whnf) | (refine GET.at (row := strRowS (l[C.length]'(by omega))) (at_eq hg3 (by omega)) ?_; conv => whnf) | refine NEED.au ?_ | ((with_reducible apply GET.at); rfl) | ((with_reducible apply GETG.at); rfl) | ((with_reducible refine UNK.mk (fun h => ?_) ?_) <;> try (exfalso; omega)) | ((with_reducible refine IF.mk (fun h => ?_) (fun h => ?_)) <;> (try simp (disch := omega) only [hsB, hsC, lnB, wrap64, wrap32, simprocAttr] at h) <;> try (exfalso; omega))) <;> conv => whnf)
        · have hne : ¬ l[i] = l[i - 1]'(by omega) := fun he => by rw [he] at h; simp at h
          rw [if_neg hne] at hsi
          refine ⟨i + 1, ⟨by omega, by omega, by rw [hsi, List.length_append]; simp; omega, by rw [hsi, List.length_append]; simp; omega⟩, by omega, ?_⟩
          rw [hsi]
          conv => whnf
          (refine GOES.cutting h0 rfl rfl rfl (by first | rfl | (simp only [belowO, belowH, plainLL_below _ (plainStrsS _), Bool.and_self, Bool.and_true] <;> rfl)) ?_ ?_ <;> (repeat' (first | (with_reducible rfl) | (exact sl_eq rfl (by first | (simp; done) | omega | (simp; omega))) | (exact congrArg (SV.int _) (by first | omega | (simp (disch := omega) only [lnB, wrap64, wrap32] <;> omega) | (simp; done) | (simp <;> omega))) | (exact congrArg (Hp.rows _) (by (first | (simp only [Nat.zero_add, Int.toNat_natCast]; exact mid_set strRowS _ (by omega)) | rfl))) | ((conv => whnf); refine ⟨?_, ?_⟩) | exact trivial | rfl)))
        · have heq : l[i] = l[i - 1]'(by omega) := id (h)
          rw [if_pos heq] at hsi
          refine ⟨i + 1, ⟨by omega, by omega, by rw [hsi]; omega, by rw [hsi]; omega⟩, by omega, ?_⟩
          rw [hsi]
          conv => whnf
          (refine GOES.cutting h0 rfl rfl rfl (by first | rfl | (simp only [belowO, belowH, plainLL_below _ (plainStrsS _), Bool.and_self, Bool.and_true] <;> rfl)) ?_ ?_ <;> (repeat' (first | (with_reducible rfl) | (exact sl_eq rfl (by first | (simp; done) | omega | (simp; omega))) | (exact congrArg (SV.int _) (by first | omega | (simp (disch := omega) only [lnB, wrap64, wrap32] <;> omega) | (simp; done) | (simp <;> omega))) | (exact congrArg (Hp.rows _) (by rfl)) | ((conv => whnf); refine ⟨?_, ?_⟩) | exact trivial | rfl)))
      · have hCl : C = compactM l := by rw [hC, List.take_of_length_le hil]
        have hcl : C.length ≤ l.length := by omega
        repeat' ((first | with_reducible refine IF.tt ?_ | with_reducible refine IF.ff ?_ | (refine NEED.mk (by simp only [List.length_map, List.length_append, List.length_drop]; omega) ?_; conv => whnf) | (refine NEED.mk ⟨by omega, le_reach (by omega)⟩ ?_; conv => whnf) | refine NEED.au ?_ | ((with_reducible apply GET.at); rfl) | ((with_reducible apply GETG.at); rfl) | ((with_reducible refine UNK.mk (fun h => ?_) ?_) <;> try (exfalso; omega)) | ((with_reducible refine IF.mk (fun h => ?_) (fun h => ?_)) <;> (try simp (disch := omega) only [hsB, hsC, lnB, wrap64, wrap32, simprocAttr] at h) <;> try (exfalso; omega))) <;> conv => whnf)
        rw [← hCl]
        refine FIN.here h0 (rc := .sl (.loc 0) 0 1 C.length none) (Oc := [(0, .rows 1 ((C ++ List.replicate (l.length - C.length) ([] : List UInt8)).map strRowS))]) (by simp) rfl (by first | rfl | (simp only [belowO, belowH, plainLL_below _ (plainStrsS _), Bool.and_self, Bool.and_true] <;> rfl)) ⟨?_, trivial⟩ ⟨rfl, rfl, rfl⟩
        refine congrArg (Hp.rows 1) ?_
        simp only [Nat.zero_add, Int.toNat_natCast]
        exact mid_clear strRowS ([] : List UInt8) hcl
    · have hne : ¬ l[k] = l[k - 1] := fun he => by rw [he] at h; simp at h
      rw [if_neg hne, hk] at hs
      refine ⟨k + 1, ⟨by omega, by omega, by rw [hs, List.take_succ_eq_append_getElem hlt]⟩, by omega, ?_⟩
      conv => whnf
      (refine GOES.cutting h0 rfl rfl rfl (by first | rfl | (simp only [belowO, belowH, plainLL_below _ (plainStrsS _), Bool.and_self, Bool.and_true] <;> rfl)) ?_ ?_ <;> (repeat' (first | (with_reducible rfl) | (exact sl_eq rfl (by first | (simp; done) | omega | (simp; omega))) | (exact congrArg (SV.int _) (by first | omega | (simp (disch := omega) only [lnB, wrap64, wrap32] <;> omega) | (simp; done) | (simp <;> omega))) | (exact congrArg (Hp.rows _) (by rfl)) | ((conv => whnf); refine ⟨?_, ?_⟩) | exact trivial | rfl)))
  · have hkn : k = l.length := by omega
    rw [hkn, List.take_of_length_le (Nat.le_refl _)] at hk
    obtain ⟨f1, f2⟩ := fin rfl hk
    repeat' ((first | with_reducible refine IF.tt ?_ | with_reducible refine IF.ff ?_ | refine NEED.au ?_ | ((with_reducible apply GET.at); rfl) | ((with_reducible apply GETG.at); rfl) | ((with_reducible refine UNK.mk (fun h => ?_) ?_) <;> try (exfalso; omega)) | ((with_reducible refine IF.mk (fun h => ?_) (fun h => ?_)) <;> (try simp (disch := omega) only [hsB, hsC, lnB, wrap64, wrap32, simprocAttr] at h) <;> try (exfalso; omega))) <;> conv => whnf)
    rw [f1, f2]
    refine FIN.here h0 (rc := .sl (.loc 0) 0 1 (compactM l).length none) (Oc := [(0, .rows 1 ((compactM l ++ List.replicate (l.length - (compactM l).length) ([] : List UInt8)).map strRowS))]) rfl rfl (by first | rfl | (simp only [belowO, belowH, plainLL_below _ (plainStrsS _), Bool.and_self, Bool.and_true] <;> rfl)) ⟨rfl, trivial⟩ ⟨rfl, rfl, rfl⟩
def sortSL_ren : Go.Shelf.Ren := ⟨fun | 190 => 44 | 125 => 66 | 258 => 65 | 128 => 84 | 129 => 85 | 302 => 75 | 303 => 76 | 304 => 77 | 305 => 78 | 306 => 79 | 307 => 80 | 308 => 81 | 309 => 82 | 310 => 83 | 333 => 104 | 329 => 105 | 330 => 106 | 334 => 107 | 335 => 108 | 336 => 109 | 344 => 116 | n => n, fun | 31 => 45 | 9 => 9 | 3 => 3 | 46 => 82 | 0 => 0 | 51 => 102 | 53 => 104 | 4 => 4 | 183 => 95 | 182 => 94 | 131 => 36 | 5 => 5 | 218 => 116 | 222 => 120 | 228 => 127 | 229 => 128 | n => n, fun | n => n⟩
theorem sortSL : Go.Proofs.Lays.n190 Try.prog sortSL_ren where
  mixed := by kernel_rfl
  f125 := Try.func66.trans (congrArg some (by kernel_rfl))
  f128 := Try.func84.trans (congrArg some (by kernel_rfl))
  f129 := Try.func85.trans (congrArg some (by kernel_rfl))
  f190 := Try.func44.trans (congrArg some (by kernel_rfl))
  f258 := Try.func65.trans (congrArg some (by kernel_rfl))
  f302 := Try.func75.trans (congrArg some (by kernel_rfl))
  f303 := Try.func76.trans (congrArg some (by kernel_rfl))
  f304 := Try.func77.trans (congrArg some (by kernel_rfl))
  f305 := Try.func78.trans (congrArg some (by kernel_rfl))
  f306 := Try.func79.trans (congrArg some (by kernel_rfl))
  f307 := Try.func80.trans (congrArg some (by kernel_rfl))
  f308 := Try.func81.trans (congrArg some (by kernel_rfl))
  f309 := Try.func82.trans (congrArg some (by kernel_rfl))
  f310 := Try.func83.trans (congrArg some (by kernel_rfl))
  f329 := Try.func105.trans (congrArg some (by kernel_rfl))
  f330 := Try.func106.trans (congrArg some (by kernel_rfl))
  f333 := Try.func104.trans (congrArg some (by kernel_rfl))
  f334 := Try.func107.trans (congrArg some (by kernel_rfl))
  f335 := Try.func108.trans (congrArg some (by kernel_rfl))
  f336 := Try.func109.trans (congrArg some (by kernel_rfl))
  f344 := Try.func116.trans (congrArg some (by kernel_rfl))
  t0 := Try.underlying0
  a0 := Try.isAgg0
  z0 := Try.sizeOf0
  v0 := Try.zeroValue0
  t3 := Try.underlying3
  a3 := Try.isAgg3
  z3 := Try.sizeOf3
  v3 := Try.zeroValue3
  t4 := Try.underlying4
  a4 := Try.isAgg4
  z4 := Try.sizeOf4
  v4 := Try.zeroValue4
  t5 := Try.underlying5
  a5 := Try.isAgg5
  z5 := Try.sizeOf5
  v5 := Try.zeroValue5
  t9 := Try.underlying9
  a9 := Try.isAgg9
  z9 := Try.sizeOf9
  v9 := Try.zeroValue9
  t31 := Try.underlying45
  a31 := Try.isAgg45
  z31 := Try.sizeOf45
  v31 := Try.zeroValue45
  t46 := Try.underlying82
  a46 := Try.isAgg82
  z46 := Try.sizeOf82
  v46 := Try.zeroValue82
  t51 := Try.underlying102
  a51 := Try.isAgg102
  z51 := Try.sizeOf102
  v51 := Try.zeroValue102
  t53 := Try.underlying104
  a53 := Try.isAgg104
  z53 := Try.sizeOf104
  v53 := Try.zeroValue104
  t131 := Try.underlying36
  a131 := Try.isAgg36
  z131 := Try.sizeOf36
  v131 := Try.zeroValue36
  t182 := Try.underlying94
  a182 := Try.isAgg94
  z182 := Try.sizeOf94
  v182 := Try.zeroValue94
  t183 := Try.underlying95
  a183 := Try.isAgg95
  z183 := Try.sizeOf95
  v183 := Try.zeroValue95
  t218 := Try.underlying116
  a218 := Try.isAgg116
  z218 := Try.sizeOf116
  v218 := Try.zeroValue116
  t222 := Try.underlying120
  a222 := Try.isAgg120
  z222 := Try.sizeOf120
  v222 := Try.zeroValue120
  t228 := Try.underlying127
  a228 := Try.isAgg127
  z228 := Try.sizeOf127
  v228 := Try.zeroValue127
  t229 := Try.underlying128
  a229 := Try.isAgg128
  z229 := Try.sizeOf128
  v229 := Try.zeroValue128
theorem sortS_does (l : List (List UInt8)) (hl : l.length * 16 ≤ 140737488351232) : Does Try.prog tab 44 1 [.sl (.loc 0) 0 1 l.length none] [(0, .rows 1 (l.map strRowS))] []
    (fun r O nx => r = .tup [] ∧ O = [(0, .rows 1 ((l.mergeSort (leC cmpL)).map strRowS))] ∧ nx = 1) :=
  sortStr_does sortSL Try.call44 l (by omega)
end Go.Proofs.Ytillkgjdbnjnoaa
/- The reference's merged and Sort; walked. Conditions: none. -/
set_option linter.unusedVariables false
set_option linter.unusedSimpArgs false
set_option maxRecDepth 20000
namespace Go.Proofs.Ytillkgjdbnjnoaa
open Go.Sx Go.Our
def plSets30 : Plan := (planOf [(0, 1), (1, 1), (2, 1), (3, 1), (4, 1), (5, 1), (6, 1), (7, 1), (8, 1), (9, 1), (11, 1), (12, 1), (10, 2), (13, 2), (14, 3), (15, 1), (16, 1), (17, 1)])
def plSets31 : Plan := (planOf [(0, 1), (1, 1), (2, 1), (3, 1), (4, 1), (5, 1), (6, 1), (7, 1), (8, 1), (9, 2), (10, 2), (11, 3), (12, 1), (13, 1)])
def plSets32 : Plan := (planOf [(0, 1), (1, 1), (2, 1), (3, 1), (4, 1), (6, 1), (7, 1), (8, 1), (9, 1), (10, 1), (5, 3), (11, 3), (12, 3), (13, 1)])
/-- A new list, and nothing else; what lies behind its end is not told. -/
def NewList {α : Type} (f : α → List SV) (es k : Nat) (l : List α) : SV → Hps → Nat → Prop := fun r O nx => r = .sl (.loc k) 0 es l.length none ∧ O = [(k, .rows es (l.map f))] ∧ nx = k + 1
theorem push_some {α : Type} {c : α → α → Int} {out : List α} (h : out ≠ []) (q : α) : pushM c out q = if c (out.getLast h) q < 0 then out ++ [q] else out := by
  unfold pushM
  rw [List.getLast?_eq_some_getLast h]
theorem push_yes {α : Type} {c : α → α → Int} {out : List α} {q : α} (h : out.length = 0 ∨ ∃ h0 : 0 < out.length, c (out[out.length - 1]'(by omega)) q < 0) : pushM c out q = out ++ [q] := by
  rcases h with h | ⟨h0, h⟩
  · have := List.length_eq_zero_iff.1 h
    subst this; rfl
  · have hne : out ≠ [] := fun e => by subst e; simp at h0
    rw [push_some hne, List.getLast_eq_getElem, if_pos h]
theorem push_no {α : Type} {c : α → α → Int} {out : List α} {q : α} (h : ∃ h0 : 0 < out.length, 0 ≤ c (out[out.length - 1]'(by omega)) q) : pushM c out q = out := by
  obtain ⟨h0, h⟩ := h
  have hne : out ≠ [] := fun e => by subst e; simp at h0
  rw [push_some hne, List.getLast_eq_getElem, if_neg (by omega)]
theorem rmerge_nil {α : Type} {c : α → α → Int} (out : List α) : rmerge c out [] [] = out := by unfold rmerge; rfl
theorem rmerge_left {α : Type} {c : α → α → Int} {out a b : List α} (x : α) (h : b = [] ∨ ∃ y t, b = y :: t ∧ c x y ≤ 0) : rmerge c out (x :: a) b = rmerge c (pushM c out x) a b := by
  rcases h with rfl | ⟨y, t, rfl, h⟩
  · conv => lhs; unfold rmerge
  · conv => lhs; unfold rmerge
    rw [if_pos h]
theorem rmerge_right {α : Type} {c : α → α → Int} {out a b : List α} (y : α) (h : a = [] ∨ ∃ x t, a = x :: t ∧ ¬ c x y ≤ 0) : rmerge c out a (y :: b) = rmerge c (pushM c out y) a b := by
  rcases h with rfl | ⟨x, t, rfl, h⟩
  · conv => lhs; unfold rmerge
  · conv => lhs; unfold rmerge
    rw [if_neg h]
theorem cut_cons {α : Type} {A : List α} {i k n : Nat} (h : k < n) (hA : i + n ≤ A.length) : (A.drop (i + k)).take (n - k) = A[i + k] :: (A.drop (i + (k + 1))).take (n - (k + 1)) := by
  rw [List.drop_eq_getElem_cons (by omega), show n - k = (n - (k + 1)) + 1 by omega, List.take_succ_cons]; rfl
set_option maxHeartbeats 4000000 in
theorem rmergedQ_does (A B : List Qd) (i n j m : Nat) (lA lB : Option Nat) (hA : i + n ≤ A.length) (hB : j + m ≤ B.length) (hl : (A.length + B.length) * 224 ≤ 140737488351232) : Does Try.prog tab 33 2 [.sl (.loc 0) i 16 n lA, .sl (.loc 1) j 16 m lB] [] [(0, .rows 16 (A.map qdRow)), (1, .rows 16 (B.map qdRow))]
    (NewList qdRow 16 2 (rmerge qdCmp [] ((A.drop i).take n) ((B.drop j).take m))) := by
  refine Does.enter tabOK (g := 33) (fn := Try.f33) Try.call33 Try.func33 rfl 62 rfl rfl [.tmp 4] rfl ?_
  intro w0 F η0 h0
  conv => whnf
  refine LOOP.nil 5 16 rfl ?_
  refine LOOP.go tabOK [] (X := List Qd × Nat × Nat) (fun x => x.2.1 ≤ n ∧ x.2.2 ≤ m ∧ x.1.length ≤ x.2.1 + x.2.2 ∧ rmerge qdCmp [] ((A.drop i).take n) ((B.drop j).take m) = rmerge qdCmp x.1 ((A.drop (i + x.2.1)).take (n - x.2.1)) ((B.drop (j + x.2.2)).take (m - x.2.2)))
    (fun x => [(0, .sl (.loc 0) (i + x.2.1) 16 (n - x.2.1) lA), (1, .sl (.loc 1) (j + x.2.2) 16 (m - x.2.2) lB), (5, .sl (.loc 2) 0 16 x.1.length none)]) (fun x => [(2, .rows 16 (x.1.map qdRow))]) 3 (fun x => (n - x.2.1) + (m - x.2.2)) ([], 0, 0) ⟨by simp, by simp, by simp, rfl⟩ ?_
  conv => whnf
  refine ⟨by (refine GOES.cutting h0 rfl rfl rfl (by first | rfl | simp [belowO, belowH, plainLL_below, plainLL_map, plainL, plain]) ?_ ?_ <;> (repeat' (first | (with_reducible rfl) | (exact congrArg (fun n => SV.sl _ _ _ n _) (by simp)) | (exact congrArg (Hp.rows _) (by simp)) | (exact congrArg (SV.int _) (by first | omega | (simp (disch := omega) only [lnB, wrap64, wrap32] <;> omega) | (simp; done) | (simp <;> omega))) | ((conv => whnf); refine ⟨?_, ?_⟩) | exact trivial | (simp; done) | rfl))), ?_⟩
  rintro ⟨out, p, q⟩ ⟨hp, hq, ho, hr⟩
  dsimp only at hp hq ho hr ⊢
  have hlast : ∀ (h : 0 < out.length), IntKind.i64.wrap ((out.length : Int) - 1) = ((out.length - 1 : Nat) : Int) := fun h => by rw [wrap64 (by omega) (by omega)]; omega
  rcases Nat.lt_or_ge p n with hpn | hpn <;> rcases Nat.lt_or_ge q m with hqm | hqm
  · have ha := cut_cons (A := A) (i := i) hpn hA
    have hb := cut_cons (A := B) (i := j) hqm hB
    rw [ha, hb] at hr
    conv => whnf
    repeat' ((first | with_reducible refine IF.tt ?_ | with_reducible refine IF.ff ?_ | refine DRAWN.of (id := 4) tabOK mixed plSets30 (by kernel_rfl) ?_ | refine DRAWN.of (id := 9) tabOK mixed plSets31 (by kernel_rfl) ?_ | with_reducible refine ADD.mk (fun _ _ => ?_) | with_reducible refine NEED.mk (Det.of rfl) ?_ | refine NEED.mk (det_pos (by omega)) ?_ | with_reducible refine FORK.mk ?_ ?_ | refine CALL.value (rqdCmp_does _ _) rfl rfl ?_ | (refine NEED.mk (needApp 224 rfl rfl rfl (by simp) (by omega)) ?_; conv => whnf) | (refine GET.at (row := qdRow (A[i + p]'(by omega))) (row_at0 (by omega) (by omega)) ?_; conv => whnf) | (refine GET.at (row := qdRow (B[j + q]'(by omega))) (row_at0 (by omega) (by omega)) ?_; conv => whnf) | (refine GET.at (row := qdRow (out[out.length - 1]'(by omega))) (row_at0 (by omega) (by rw [hlast (by omega)]; omega)) ?_; conv => whnf) | refine NEED.au ?_ | ((with_reducible apply GET.at); rfl) | ((with_reducible apply GETG.at); rfl) | ((with_reducible refine UNK.mk (fun h => ?_) ?_) <;> try (exfalso; omega)) | ((with_reducible refine IF.mk (fun h => ?_) (fun h => ?_)) <;> (try simp (disch := omega) only [hsB, hsC, lnB, wrap64, wrap32, simprocAttr] at h) <;> try (exfalso; omega))) <;> conv => whnf)
    all_goals first
      | (refine ⟨(out ++ [A[i + p]'(by omega)], p + 1, q), ⟨by dsimp only; omega, by dsimp only; omega, by simp only [List.length_append, List.length_cons, List.length_nil]; omega, by dsimp only; rw [hr, rmerge_left _ (.inr ⟨_, _, rfl, by omega⟩), push_yes (by first | (left; omega) | (right; exact ⟨by omega, by assumption⟩))]; (first | done | rw [hb] | rw [ha])⟩, by dsimp only; omega, ?_⟩; dsimp only; (conv => whnf); (refine GOES.keeping h0 [5] rfl rfl rfl (by first | rfl | (simp only [belowO, belowH, plainLL_below _ (plainQds _), Bool.and_self, Bool.and_true] <;> rfl)) ?_ ?_ <;> (repeat' (first | (with_reducible rfl) | (exact rows_eq (plainQds _) (renLL_plain _ (plainQds _))) | (exact rows_eq (plainQds _) (by (simp [List.take_of_length_le, ofVal, qdRow]))) | (exact sl_eq rfl (by first | (simp; done) | omega | (simp; omega))) | (exact congrArg (SV.int _) (by first | omega | (simp (disch := omega) only [lnB, wrap64, wrap32] <;> omega) | (simp; done) | (simp <;> omega))) | ((conv => whnf); refine ⟨?_, ?_⟩) | exact trivial | (simp only [ren, renB]; done) | rfl))); done)
      | (refine ⟨(out, p + 1, q), ⟨by dsimp only; omega, by dsimp only; omega, by dsimp only; omega, by dsimp only; rw [hr, rmerge_left _ (.inr ⟨_, _, rfl, by omega⟩), push_no ⟨by omega, by assumption⟩]; (first | done | rw [hb] | rw [ha])⟩, by dsimp only; omega, ?_⟩; dsimp only; (conv => whnf); (refine GOES.cutting h0 rfl rfl rfl (by first | rfl | (simp only [belowO, belowH, plainLL_below _ (plainQds _), Bool.and_self, Bool.and_true] <;> rfl)) ?_ ?_ <;> (repeat' (first | (with_reducible rfl) | (exact sl_eq rfl (by first | (simp; done) | omega | (simp; omega))) | (exact congrArg (SV.int _) (by first | omega | (simp (disch := omega) only [lnB, wrap64, wrap32] <;> omega) | (simp; done) | (simp <;> omega))) | (exact congrArg (Hp.rows _) (by rfl)) | ((conv => whnf); refine ⟨?_, ?_⟩) | exact trivial | rfl))); done)
      | (refine ⟨(out ++ [B[j + q]'(by omega)], p, q + 1), ⟨by dsimp only; omega, by dsimp only; omega, by simp only [List.length_append, List.length_cons, List.length_nil]; omega, by dsimp only; rw [hr, rmerge_right _ (.inr ⟨_, _, rfl, by omega⟩), push_yes (by first | (left; omega) | (right; exact ⟨by omega, by assumption⟩))]; (first | done | rw [hb] | rw [ha])⟩, by dsimp only; omega, ?_⟩; dsimp only; (conv => whnf); (refine GOES.keeping h0 [5] rfl rfl rfl (by first | rfl | (simp only [belowO, belowH, plainLL_below _ (plainQds _), Bool.and_self, Bool.and_true] <;> rfl)) ?_ ?_ <;> (repeat' (first | (with_reducible rfl) | (exact rows_eq (plainQds _) (renLL_plain _ (plainQds _))) | (exact rows_eq (plainQds _) (by (simp [List.take_of_length_le, ofVal, qdRow]))) | (exact sl_eq rfl (by first | (simp; done) | omega | (simp; omega))) | (exact congrArg (SV.int _) (by first | omega | (simp (disch := omega) only [lnB, wrap64, wrap32] <;> omega) | (simp; done) | (simp <;> omega))) | ((conv => whnf); refine ⟨?_, ?_⟩) | exact trivial | (simp only [ren, renB]; done) | rfl))); done)
      | (refine ⟨(out, p, q + 1), ⟨by dsimp only; omega, by dsimp only; omega, by dsimp only; omega, by dsimp only; rw [hr, rmerge_right _ (.inr ⟨_, _, rfl, by omega⟩), push_no ⟨by omega, by assumption⟩]; (first | done | rw [hb] | rw [ha])⟩, by dsimp only; omega, ?_⟩; dsimp only; (conv => whnf); (refine GOES.cutting h0 rfl rfl rfl (by first | rfl | (simp only [belowO, belowH, plainLL_below _ (plainQds _), Bool.and_self, Bool.and_true] <;> rfl)) ?_ ?_ <;> (repeat' (first | (with_reducible rfl) | (exact sl_eq rfl (by first | (simp; done) | omega | (simp; omega))) | (exact congrArg (SV.int _) (by first | omega | (simp (disch := omega) only [lnB, wrap64, wrap32] <;> omega) | (simp; done) | (simp <;> omega))) | (exact congrArg (Hp.rows _) (by rfl)) | ((conv => whnf); refine ⟨?_, ?_⟩) | exact trivial | rfl))); done)
  · have ha := cut_cons (A := A) (i := i) hpn hA
    have hb : (B.drop (j + q)).take (m - q) = [] := by rw [show m - q = 0 by omega]; rfl
    rw [ha, hb] at hr
    conv => whnf
    repeat' ((first | with_reducible refine IF.tt ?_ | with_reducible refine IF.ff ?_ | refine DRAWN.of (id := 4) tabOK mixed plSets30 (by kernel_rfl) ?_ | refine DRAWN.of (id := 9) tabOK mixed plSets31 (by kernel_rfl) ?_ | with_reducible refine ADD.mk (fun _ _ => ?_) | with_reducible refine NEED.mk (Det.of rfl) ?_ | refine NEED.mk (det_pos (by omega)) ?_ | with_reducible refine FORK.mk ?_ ?_ | refine CALL.value (rqdCmp_does _ _) rfl rfl ?_ | (refine NEED.mk (needApp 224 rfl rfl rfl (by simp) (by omega)) ?_; conv => whnf) | (refine GET.at (row := qdRow (A[i + p]'(by omega))) (row_at0 (by omega) (by omega)) ?_; conv => whnf) | (refine GET.at (row := qdRow (B[j + q]'(by omega))) (row_at0 (by omega) (by omega)) ?_; conv => whnf) | (refine GET.at (row := qdRow (out[out.length - 1]'(by omega))) (row_at0 (by omega) (by rw [hlast (by omega)]; omega)) ?_; conv => whnf) | refine NEED.au ?_ | ((with_reducible apply GET.at); rfl) | ((with_reducible apply GETG.at); rfl) | ((with_reducible refine UNK.mk (fun h => ?_) ?_) <;> try (exfalso; omega)) | ((with_reducible refine IF.mk (fun h => ?_) (fun h => ?_)) <;> (try simp (disch := omega) only [hsB, hsC, lnB, wrap64, wrap32, simprocAttr] at h) <;> try (exfalso; omega))) <;> conv => whnf)
    all_goals first
      | (refine ⟨(out ++ [A[i + p]'(by omega)], p + 1, q), ⟨by dsimp only; omega, by dsimp only; omega, by simp only [List.length_append, List.length_cons, List.length_nil]; omega, by dsimp only; rw [hb, hr, rmerge_left _ (.inl rfl), push_yes (by first | (left; omega) | (right; exact ⟨by omega, by assumption⟩))]; (first | done | rw [hb] | rw [ha])⟩, by dsimp only; omega, ?_⟩; dsimp only; (conv => whnf); (refine GOES.keeping h0 [5] rfl rfl rfl (by first | rfl | (simp only [belowO, belowH, plainLL_below _ (plainQds _), Bool.and_self, Bool.and_true] <;> rfl)) ?_ ?_ <;> (repeat' (first | (with_reducible rfl) | (exact rows_eq (plainQds _) (renLL_plain _ (plainQds _))) | (exact rows_eq (plainQds _) (by (simp [List.take_of_length_le, ofVal, qdRow]))) | (exact sl_eq rfl (by first | (simp; done) | omega | (simp; omega))) | (exact congrArg (SV.int _) (by first | omega | (simp (disch := omega) only [lnB, wrap64, wrap32] <;> omega) | (simp; done) | (simp <;> omega))) | ((conv => whnf); refine ⟨?_, ?_⟩) | exact trivial | (simp only [ren, renB]; done) | rfl))); done)
      | (refine ⟨(out, p + 1, q), ⟨by dsimp only; omega, by dsimp only; omega, by dsimp only; omega, by dsimp only; rw [hb, hr, rmerge_left _ (.inl rfl), push_no ⟨by omega, by assumption⟩]; (first | done | rw [hb] | rw [ha])⟩, by dsimp only; omega, ?_⟩; dsimp only; (conv => whnf); (refine GOES.cutting h0 rfl rfl rfl (by first | rfl | (simp only [belowO, belowH, plainLL_below _ (plainQds _), Bool.and_self, Bool.and_true] <;> rfl)) ?_ ?_ <;> (repeat' (first | (with_reducible rfl) | (exact sl_eq rfl (by first | (simp; done) | omega | (simp; omega))) | (exact congrArg (SV.int _) (by first | omega | (simp (disch := omega) only [lnB, wrap64, wrap32] <;> omega) | (simp; done) | (simp <;> omega))) | (exact congrArg (Hp.rows _) (by rfl)) | ((conv => whnf); refine ⟨?_, ?_⟩) | exact trivial | rfl))); done)
  · have hb := cut_cons (A := B) (i := j) hqm hB
    have ha : (A.drop (i + p)).take (n - p) = [] := by rw [show n - p = 0 by omega]; rfl
    rw [ha, hb] at hr
    conv => whnf
    repeat' ((first | with_reducible refine IF.tt ?_ | with_reducible refine IF.ff ?_ | refine DRAWN.of (id := 4) tabOK mixed plSets30 (by kernel_rfl) ?_ | refine DRAWN.of (id := 9) tabOK mixed plSets31 (by kernel_rfl) ?_ | with_reducible refine ADD.mk (fun _ _ => ?_) | with_reducible refine NEED.mk (Det.of rfl) ?_ | refine NEED.mk (det_pos (by omega)) ?_ | with_reducible refine FORK.mk ?_ ?_ | refine CALL.value (rqdCmp_does _ _) rfl rfl ?_ | (refine NEED.mk (needApp 224 rfl rfl rfl (by simp) (by omega)) ?_; conv => whnf) | (refine GET.at (row := qdRow (A[i + p]'(by omega))) (row_at0 (by omega) (by omega)) ?_; conv => whnf) | (refine GET.at (row := qdRow (B[j + q]'(by omega))) (row_at0 (by omega) (by omega)) ?_; conv => whnf) | (refine GET.at (row := qdRow (out[out.length - 1]'(by omega))) (row_at0 (by omega) (by rw [hlast (by omega)]; omega)) ?_; conv => whnf) | refine NEED.au ?_ | ((with_reducible apply GET.at); rfl) | ((with_reducible apply GETG.at); rfl) | ((with_reducible refine UNK.mk (fun h => ?_) ?_) <;> try (exfalso; omega)) | ((with_reducible refine IF.mk (fun h => ?_) (fun h => ?_)) <;> (try simp (disch := omega) only [hsB, hsC, lnB, wrap64, wrap32, simprocAttr] at h) <;> try (exfalso; omega))) <;> conv => whnf)
    all_goals first
      | (refine ⟨(out ++ [B[j + q]'(by omega)], p, q + 1), ⟨by dsimp only; omega, by dsimp only; omega, by simp only [List.length_append, List.length_cons, List.length_nil]; omega, by dsimp only; rw [ha, hr, rmerge_right _ (.inl rfl), push_yes (by first | (left; omega) | (right; exact ⟨by omega, by assumption⟩))]; (first | done | rw [hb] | rw [ha])⟩, by dsimp only; omega, ?_⟩; dsimp only; (conv => whnf); (refine GOES.keeping h0 [5] rfl rfl rfl (by first | rfl | (simp only [belowO, belowH, plainLL_below _ (plainQds _), Bool.and_self, Bool.and_true] <;> rfl)) ?_ ?_ <;> (repeat' (first | (with_reducible rfl) | (exact rows_eq (plainQds _) (renLL_plain _ (plainQds _))) | (exact rows_eq (plainQds _) (by (simp [List.take_of_length_le, ofVal, qdRow]))) | (exact sl_eq rfl (by first | (simp; done) | omega | (simp; omega))) | (exact congrArg (SV.int _) (by first | omega | (simp (disch := omega) only [lnB, wrap64, wrap32] <;> omega) | (simp; done) | (simp <;> omega))) | ((conv => whnf); refine ⟨?_, ?_⟩) | exact trivial | (simp only [ren, renB]; done) | rfl))); done)
      | (refine ⟨(out, p, q + 1), ⟨by dsimp only; omega, by dsimp only; omega, by dsimp only; omega, by dsimp only; rw [ha, hr, rmerge_right _ (.inl rfl), push_no ⟨by omega, by assumption⟩]; (first | done | rw [hb] | rw [ha])⟩, by dsimp only; omega, ?_⟩; dsimp only; (conv => whnf); (refine GOES.cutting h0 rfl rfl rfl (by first | rfl | (simp only [belowO, belowH, plainLL_below _ (plainQds _), Bool.and_self, Bool.and_true] <;> rfl)) ?_ ?_ <;> (repeat' (first | (with_reducible rfl) | (exact sl_eq rfl (by first | (simp; done) | omega | (simp; omega))) | (exact congrArg (SV.int _) (by first | omega | (simp (disch := omega) only [lnB, wrap64, wrap32] <;> omega) | (simp; done) | (simp <;> omega))) | (exact congrArg (Hp.rows _) (by rfl)) | ((conv => whnf); refine ⟨?_, ?_⟩) | exact trivial | rfl))); done)
  · have ha : (A.drop (i + p)).take (n - p) = [] := by rw [show n - p = 0 by omega]; rfl
    have hb : (B.drop (j + q)).take (m - q) = [] := by rw [show m - q = 0 by omega]; rfl
    rw [ha, hb, rmerge_nil] at hr
    conv => whnf
    repeat' ((first | with_reducible refine IF.tt ?_ | with_reducible refine IF.ff ?_ | refine NEED.au ?_ | ((with_reducible apply GET.at); rfl) | ((with_reducible apply GETG.at); rfl) | ((with_reducible refine UNK.mk (fun h => ?_) ?_) <;> try (exfalso; omega)) | ((with_reducible refine IF.mk (fun h => ?_) (fun h => ?_)) <;> (try simp (disch := omega) only [hsB, hsC, lnB, wrap64, wrap32, simprocAttr] at h) <;> try (exfalso; omega))) <;> conv => whnf)
    rw [hr]
    exact FIN.rows h0 2 16 out.length rfl rfl rfl (plainQds _) ⟨rfl, rfl, rfl⟩
theorem rsort_len {α : Type} [DecidableEq α] {c : α → α → Int} (h : Tri c) (l : List α) : (rsort c l).length ≤ l.length := by
  rw [rsort_set h _ l (Nat.le_refl _)]; exact set_len l
set_option maxHeartbeats 4000000 in
theorem rsortQ_does (A : List Qd) (hA : A.length * 224 ≤ 140737488351232) : ∀ (k n i : Nat) (hk : n ≤ k) (hi : i + n ≤ A.length), Does Try.prog tab 13 1 [.sl (.loc 0) i 16 n none] [] [(0, .rows 16 (A.map qdRow))] (NewList qdRow 16 1 (rsort qdCmp ((A.drop i).take n)))
  | k, n, i, hk, hi => by
    obtain ⟨l, hl⟩ : ∃ l, l = (A.drop i).take n := ⟨_, rfl⟩
    have hln : l.length = n := by rw [hl]; simp; omega
    have hrows : ((A.map qdRow).drop i).take n = l.map qdRow := by rw [hl, List.map_take, List.map_drop]
    rw [← hl]
    refine Does.enter tabOK (g := 13) (fn := Try.f13) Try.call13 Try.func13 rfl 22 rfl rfl [.tmp 2] rfl ?_
    intro w0 F η0 h0
    conv => whnf
    repeat' ((first | with_reducible refine IF.tt ?_ | with_reducible refine IF.ff ?_ | (rw [hrows]; conv => whnf) | (refine NEED.mk (needApp 224 rfl rfl (by rw [List.length_map]; exact hln) (by simp) (by omega)) ?_; conv => whnf) | refine NEED.au ?_ | ((with_reducible apply GET.at); rfl) | ((with_reducible apply GETG.at); rfl) | ((with_reducible refine UNK.mk (fun h => ?_) ?_) <;> try (exfalso; omega)) | ((with_reducible refine IF.mk (fun h => ?_) (fun h => ?_)) <;> (try simp (disch := omega) only [hsB, hsC, lnB, wrap64, wrap32, simprocAttr] at h) <;> try (exfalso; omega))) <;> conv => whnf)
    · have hs : rsort qdCmp l = l := by unfold rsort; rw [if_pos (by omega)]
      rw [hs]
      rw [Nat.zero_add]
      exact FIN.rows h0 2 16 n rfl rfl rfl (plainQds _) ⟨by rw [hln], rfl, rfl⟩
    · have hs : rsort qdCmp l = rmerge qdCmp [] (rsort qdCmp (l.take (n / 2))) (rsort qdCmp (l.drop (n / 2))) := by
        conv => lhs; unfold rsort
        rw [if_neg (by omega), hln]
      have e1 : l.take (n / 2) = (A.drop i).take (n / 2) := by rw [hl, List.take_take, Nat.min_eq_left (by omega)]
      have e2 : l.drop (n / 2) = (A.drop (i + n / 2)).take (n - n / 2) := by rw [hl, List.drop_take, List.drop_drop]
      have hn2 : 2 ≤ n := by omega
      obtain ⟨k', rfl⟩ : ∃ k', k = k' + 1 := ⟨k - 1, by omega⟩
      have r1 := rsortQ_does A hA k' (n / 2) i (by omega) (by omega)
      have r2 := rsortQ_does A hA k' (n - n / 2) (i + n / 2) (by omega) (by omega)
      rw [← e1] at r1
      rw [← e2] at r2
      have l1 := rsort_len triQ (l.take (n / 2))
      have l2 := rsort_len triQ (l.drop (n / 2))
      generalize rsort qdCmp (l.take (n / 2)) = X at r1 hs l1
      generalize rsort qdCmp (l.drop (n / 2)) = Y at r2 hs l2
      have r3 := rmergedQ_does X Y 0 X.length 0 Y.length none none (by omega) (by omega) (by simp at l1 l2; omega)
      rw [List.drop_zero, List.take_length, List.drop_zero, List.take_length, ← hs] at r3
      have hw : IntKind.i64.wrap (Int.tdiv (n : Int) 2) = ((n / 2 : Nat) : Int) := by rw [Int.tdiv_eq_ediv_of_nonneg (by omega), wrap64 (by omega) (by omega)]; omega
      repeat' ((first | with_reducible refine IF.tt ?_ | with_reducible refine IF.ff ?_ | refine DRAWN.of (id := 3) tabOK mixed plSets32 (by kernel_rfl) ?_ | with_reducible refine ADD.mk (fun _ _ => ?_) | with_reducible refine NEED.mk (Det.of rfl) ?_ | refine NEED.mk (det_pos (by omega)) ?_ | with_reducible refine FORK.mk ?_ ?_ | (rw [hw]; conv => whnf) | (rw [Int.toNat_natCast]; conv => whnf) | refine NEED.au ?_ | ((with_reducible apply GET.at); rfl) | ((with_reducible apply GETG.at); rfl) | ((with_reducible refine UNK.mk (fun h => ?_) ?_) <;> try (exfalso; omega)) | ((with_reducible refine IF.mk (fun h => ?_) (fun h => ?_)) <;> (try simp (disch := omega) only [hsB, hsC, lnB, wrap64, wrap32, simprocAttr] at h) <;> try (exfalso; omega))) <;> conv => whnf)
      refine CALL.at [0] (r1) rfl rfl rfl rfl (by first | rfl | (simp only [belowO, belowH, plainLL_below _ (plainQds _), Bool.and_self, Bool.and_true] <;> rfl)) (by first | rfl | (simp only [belowO, belowH, plainLL_below _ (plainQds _), Bool.and_self, Bool.and_true] <;> rfl)) (by repeat' (first | exact trivial | exact (renH_plain _ (h := .rows _ _) (plainQds _)).symm | exact rfl | exact (renH_plain _ (h := .rows _ _) (plainQds _)).trans (renH_plain _ (h := .rows _ _) (plainQds _)).symm | ((conv => whnf); refine ⟨?_, ?_⟩))) (by repeat' (first | exact trivial | exact (renH_plain _ (h := .rows _ _) (plainQds _)).symm | exact rfl | exact (renH_plain _ (h := .rows _ _) (plainQds _)).trans (renH_plain _ (h := .rows _ _) (plainQds _)).symm | ((conv => whnf); refine ⟨?_, ?_⟩))) rfl rfl ?_
      rintro r O nx ⟨rfl, rfl, rfl⟩
      conv => whnf
      repeat' ((first | with_reducible refine IF.tt ?_ | with_reducible refine IF.ff ?_ | refine DRAWN.of (id := 3) tabOK mixed plSets32 (by kernel_rfl) ?_ | with_reducible refine ADD.mk (fun _ _ => ?_) | with_reducible refine NEED.mk (Det.of rfl) ?_ | refine NEED.mk (det_pos (by omega)) ?_ | with_reducible refine FORK.mk ?_ ?_ | (rw [hw]; conv => whnf) | (rw [Int.toNat_natCast]; conv => whnf) | refine NEED.au ?_ | ((with_reducible apply GET.at); rfl) | ((with_reducible apply GETG.at); rfl) | ((with_reducible refine UNK.mk (fun h => ?_) ?_) <;> try (exfalso; omega)) | ((with_reducible refine IF.mk (fun h => ?_) (fun h => ?_)) <;> (try simp (disch := omega) only [hsB, hsC, lnB, wrap64, wrap32, simprocAttr] at h) <;> try (exfalso; omega))) <;> conv => whnf)
      refine CALL.at [0] (r2) rfl rfl rfl rfl (by first | rfl | (simp only [belowO, belowH, plainLL_below _ (plainQds _), Bool.and_self, Bool.and_true] <;> rfl)) (by first | rfl | (simp only [belowO, belowH, plainLL_below _ (plainQds _), Bool.and_self, Bool.and_true] <;> rfl)) (by repeat' (first | exact trivial | exact (renH_plain _ (h := .rows _ _) (plainQds _)).symm | exact rfl | exact (renH_plain _ (h := .rows _ _) (plainQds _)).trans (renH_plain _ (h := .rows _ _) (plainQds _)).symm | ((conv => whnf); refine ⟨?_, ?_⟩))) (by repeat' (first | exact trivial | exact (renH_plain _ (h := .rows _ _) (plainQds _)).symm | exact rfl | exact (renH_plain _ (h := .rows _ _) (plainQds _)).trans (renH_plain _ (h := .rows _ _) (plainQds _)).symm | ((conv => whnf); refine ⟨?_, ?_⟩))) rfl rfl ?_
      rintro r O nx ⟨rfl, rfl, rfl⟩
      conv => whnf
      repeat' ((first | with_reducible refine IF.tt ?_ | with_reducible refine IF.ff ?_ | refine DRAWN.of (id := 3) tabOK mixed plSets32 (by kernel_rfl) ?_ | with_reducible refine ADD.mk (fun _ _ => ?_) | with_reducible refine NEED.mk (Det.of rfl) ?_ | refine NEED.mk (det_pos (by omega)) ?_ | with_reducible refine FORK.mk ?_ ?_ | refine NEED.au ?_ | ((with_reducible apply GET.at); rfl) | ((with_reducible apply GETG.at); rfl) | ((with_reducible refine UNK.mk (fun h => ?_) ?_) <;> try (exfalso; omega)) | ((with_reducible refine IF.mk (fun h => ?_) (fun h => ?_)) <;> (try simp (disch := omega) only [hsB, hsC, lnB, wrap64, wrap32, simprocAttr] at h) <;> try (exfalso; omega))) <;> conv => whnf)
      refine CALL.at [1, 2] (r3) rfl rfl rfl rfl (by first | rfl | (simp only [belowO, belowH, plainLL_below _ (plainQds _), Bool.and_self, Bool.and_true] <;> rfl)) (by first | rfl | (simp only [belowO, belowH, plainLL_below _ (plainQds _), Bool.and_self, Bool.and_true] <;> rfl)) (by repeat' (first | exact trivial | exact (renH_plain _ (h := .rows _ _) (plainQds _)).symm | exact rfl | exact (renH_plain _ (h := .rows _ _) (plainQds _)).trans (renH_plain _ (h := .rows _ _) (plainQds _)).symm | ((conv => whnf); refine ⟨?_, ?_⟩))) (by repeat' (first | exact trivial | exact (renH_plain _ (h := .rows _ _) (plainQds _)).symm | exact rfl | exact (renH_plain _ (h := .rows _ _) (plainQds _)).trans (renH_plain _ (h := .rows _ _) (plainQds _)).symm | ((conv => whnf); refine ⟨?_, ?_⟩))) rfl rfl ?_
      rintro r O nx ⟨rfl, rfl, rfl⟩
      conv => whnf
      repeat' ((first | with_reducible refine IF.tt ?_ | with_reducible refine IF.ff ?_ | refine DRAWN.of (id := 3) tabOK mixed plSets32 (by kernel_rfl) ?_ | with_reducible refine ADD.mk (fun _ _ => ?_) | with_reducible refine NEED.mk (Det.of rfl) ?_ | refine NEED.mk (det_pos (by omega)) ?_ | with_reducible refine FORK.mk ?_ ?_ | refine NEED.au ?_ | ((with_reducible apply GET.at); rfl) | ((with_reducible apply GETG.at); rfl) | ((with_reducible refine UNK.mk (fun h => ?_) ?_) <;> try (exfalso; omega)) | ((with_reducible refine IF.mk (fun h => ?_) (fun h => ?_)) <;> (try simp (disch := omega) only [hsB, hsC, lnB, wrap64, wrap32, simprocAttr] at h) <;> try (exfalso; omega))) <;> conv => whnf)
      refine FIN.at h0 [3] (.sl (.loc 1) 0 16 (rsort qdCmp l).length none) [(1, .rows 16 ((rsort qdCmp l).map qdRow))] rfl rfl rfl (by first | rfl | (simp only [belowO, belowH, plainLL_below _ (plainQds _), Bool.and_self, Bool.and_true] <;> rfl)) (by repeat' (first | exact trivial | exact (renH_plain _ (h := .rows _ _) (plainQds _)).symm | (with_reducible rfl) | (exact (renH_plain _ (h := .rows _ _) (plainQds _)).trans (renH_plain _ (h := .rows _ _) (plainQds _)).symm) | (exact rows_eq (plainQds _) (by simp [qdRow, ofVal, List.take_of_length_le])) | exact rfl | ((conv => whnf); refine ⟨?_, ?_⟩))) rfl ?_
      exact ⟨rfl, rfl, rfl⟩
end Go.Proofs.Ytillkgjdbnjnoaa
/- The reference's both; places in sets, the program's and the reference's; lists written over. Walked. Conditions: none. -/
set_option linter.unusedVariables false
set_option linter.unusedSimpArgs false
set_option maxRecDepth 20000
namespace Go.Proofs.Ytillkgjdbnjnoaa
open Go.Sx Go.Our
theorem qd_get {l z : List Qd} {i : Nat} {k : Nat} (h : i < l.length) (e : k = i) : ((l ++ z).map qdRow)[k]? = some (qdRow l[i]) := by subst e; exact qdRow_get2 h
/-! ### Places -/
theorem needAppC {ys xs : List (List SV)} {r n m l b : Nat} (B : Nat) (hb : Nat.ble b B = true) (hB : Nat.ble 1 B = true) (h0 : l = r + n) (hm : 0 < m) (h1 : ys.length = n) (h2 : xs.length = m) (h3 : (n + m) * B ≤ 140737488355328) :
    l = r + n ∧ 0 < m ∧ ys.length = n ∧ xs.length = m ∧ n + m ≤ 9223372036854775807 ∧ (n + m) * b ≤ 140737488355328 := by
  have h4 := needApp (xs := xs) (n := n) (k := n) B hb hB h2 (Nat.le_refl _) h3
  exact ⟨h0, hm, h1, h2, h4.2.2.1, h4.2.2.2⟩
def overQ : Qd := ⟨zeroTm, zeroTm, ⟨-9, [], [], []⟩, zeroTm⟩
def overP : Qd := ⟨zeroTm, ⟨-8, [], [], []⟩, zeroTm, zeroTm⟩
theorem overL_does (L : List Qd) (n : Nat) (hn : n ≤ L.length) (lim : Option Nat) (hl : n * 224 ≤ 140737488351232) (hL : L.length ≤ 1152921504606846976) (hlim : lim = none ∨ lim = some n) : Does Try.prog tab 17 1 [.sl (.loc 0) 0 16 n lim] [(0, .rows 16 (L.map qdRow))] [] (ValK 1 (.tup [])) := by
  rcases hlim with rfl | rfl
  all_goals
    refine Does.enter tabOK (g := 17) (fn := Try.f17) Try.call17 Try.func17 rfl 24 rfl rfl [] rfl ?_
    intro w0 F η0 h0
    conv => whnf
    refine LOOP.go tabOK [0] (X := List Qd) (fun C => C.length ≤ n) (fun C => [(2, .int .i64 (C.length : Int))]) (fun C => [(0, .rows 16 ((C ++ L.drop C.length).map qdRow))]) 1 (fun C => n - C.length) [] (by simp) ?_
    conv => whnf
    refine ⟨by (refine GOES.cutting h0 rfl rfl rfl (by first | rfl | (simp only [belowO, belowH, plainLL_below _ (plainQds _), Bool.and_self, Bool.and_true] <;> rfl)) ?_ ?_ <;> (repeat' (first | (with_reducible rfl) | (exact sl_eq rfl (by first | (simp; done) | omega | (simp; omega))) | (exact congrArg (SV.int _) (by first | omega | (simp (disch := omega) only [lnB, wrap64, wrap32] <;> omega) | (simp; done) | (simp <;> omega))) | (exact congrArg (Hp.rows _) (by rfl)) | ((conv => whnf); refine ⟨?_, ?_⟩) | exact trivial | rfl))), ?_⟩
    intro C hC
    conv => whnf
    rcases Nat.lt_or_ge C.length n with hlt | hge
    · have hg : ((C ++ L.drop C.length).map qdRow)[0 + (C.length : Int).toNat]? = some (qdRow (L[C.length]'(by omega))) := by
        rw [Nat.zero_add, Int.toNat_natCast]; exact mid_at qdRow (Nat.le_refl _) (by omega)
      repeat' ((first | with_reducible refine IF.tt ?_ | with_reducible refine IF.ff ?_ | (refine GET.at (row := qdRow (L[C.length]'(by omega))) hg ?_; conv => whnf) | refine NEED.au ?_ | ((with_reducible apply GET.at); rfl) | ((with_reducible apply GETG.at); rfl) | ((with_reducible refine UNK.mk (fun h => ?_) ?_) <;> try (exfalso; omega)) | ((with_reducible refine IF.mk (fun h => ?_) (fun h => ?_)) <;> (try simp (disch := omega) only [hsB, hsC, lnB, wrap64, wrap32, simprocAttr] at h) <;> try (exfalso; omega))) <;> conv => whnf)
      refine ⟨C ++ [overQ], by simp; omega, by simp; omega, ?_⟩
      conv => whnf
      (refine GOES.cutting h0 rfl rfl rfl (by first | rfl | (simp only [belowO, belowH, plainLL_below _ (plainQds _), Bool.and_self, Bool.and_true] <;> rfl)) ?_ ?_ <;> (repeat' (first | (with_reducible rfl) | (exact sl_eq rfl (by first | (simp; done) | omega | (simp; omega))) | (exact congrArg (SV.int _) (by first | omega | (simp (disch := omega) only [lnB, wrap64, wrap32] <;> omega) | (simp; done) | (simp <;> omega))) | (exact congrArg (Hp.rows _) (by (first | (simp only [Nat.zero_add, Int.toNat_natCast]; exact mid_set qdRow overQ (by omega)) | rfl))) | ((conv => whnf); refine ⟨?_, ?_⟩) | exact trivial | rfl)))
    · have hce : C.length = n := by omega
      have hCr : C.map qdRow = ((C ++ L.drop C.length).map qdRow).take n := by rw [← hce, List.map_append, List.take_append_of_le_length (by simp), List.take_of_length_le (by simp)]
      repeat' ((first | with_reducible refine IF.tt ?_ | with_reducible refine IF.ff ?_ | refine NEED.au ?_ | ((with_reducible apply GET.at); rfl) | ((with_reducible apply GETG.at); rfl) | ((with_reducible refine UNK.mk (fun h => ?_) ?_) <;> try (exfalso; omega)) | ((with_reducible refine IF.mk (fun h => ?_) (fun h => ?_)) <;> (try simp (disch := omega) only [hsB, hsC, lnB, wrap64, wrap32, simprocAttr] at h) <;> try (exfalso; omega))) <;> conv => whnf)
      refine LOOP.once tabOK ?_
      conv => whnf
      repeat' ((first | with_reducible refine IF.tt ?_ | with_reducible refine IF.ff ?_ | (refine NEED.mk (needApp 224 rfl rfl rfl (by simp; omega) (by omega)) ?_; conv => whnf) | (refine NEED.mk (needAppC 224 rfl rfl (by omega) (by omega) (by simp; omega) rfl (by omega)) ?_; conv => whnf) | refine NEED.au ?_ | ((with_reducible apply GET.at); rfl) | ((with_reducible apply GETG.at); rfl) | ((with_reducible refine UNK.mk (fun h => ?_) ?_) <;> try (exfalso; omega)) | ((with_reducible refine IF.mk (fun h => ?_) (fun h => ?_)) <;> (try simp (disch := omega) only [hsB, hsC, lnB, wrap64, wrap32, simprocAttr] at h) <;> try (exfalso; omega))) <;> conv => whnf)
      refine LOOP.go tabOK [] (X := List Qd × Nat) (fun x => 1 ≤ x.2 ∧ x.2 ≤ 9 ∧ x.1.length ≤ n + x.2) (fun x => [(3, .int .i64 (x.2 : Int)), (0, .sl (.loc 1) 0 16 x.1.length none)]) (fun x => [(1, .rows 16 (x.1.map qdRow))]) 2 (fun x => 9 - x.2) (C ++ [overP], 1) ⟨by simp, by simp, by simp; omega⟩ ?_
      conv => whnf
      refine ⟨by (refine GOES.keeping h0 [2] rfl rfl rfl (by first | rfl | (simp only [belowO, belowH, plainLL_below _ (plainQds _), Bool.and_self, Bool.and_true] <;> rfl)) ?_ ?_ <;> (repeat' (first | (with_reducible rfl) | (exact rows_eq (plainQds _) (renLL_plain _ (plainQds _))) | (exact rows_eq (plainQds _) (by (show _ = (C ++ [overP]).map qdRow; rw [List.map_append (l₁ := C) (l₂ := [overP])]; refine congr (congrArg _ hCr.symm) rfl))) | (exact sl_eq rfl (by first | (simp; done) | omega | (simp; omega))) | (exact congrArg (SV.int _) (by first | omega | (simp (disch := omega) only [lnB, wrap64, wrap32] <;> omega) | (simp; done) | (simp <;> omega))) | ((conv => whnf); refine ⟨?_, ?_⟩) | exact trivial | (simp only [ren, renB]; done) | rfl))), ?_⟩
      rintro ⟨D, k⟩ ⟨hk1, hk9, hD⟩
      dsimp only at hk1 hk9 hD ⊢
      conv => whnf
      rcases Nat.lt_or_ge k 9 with hk | hk
      · repeat' ((first | with_reducible refine IF.tt ?_ | with_reducible refine IF.ff ?_ | (refine NEED.mk (needApp 224 rfl rfl rfl (by simp) (by omega)) ?_; conv => whnf) | refine NEED.au ?_ | ((with_reducible apply GET.at); rfl) | ((with_reducible apply GETG.at); rfl) | ((with_reducible refine UNK.mk (fun h => ?_) ?_) <;> try (exfalso; omega)) | ((with_reducible refine IF.mk (fun h => ?_) (fun h => ?_)) <;> (try simp (disch := omega) only [hsB, hsC, lnB, wrap64, wrap32, simprocAttr] at h) <;> try (exfalso; omega))) <;> conv => whnf)
        refine ⟨(D ++ [overP], k + 1), ⟨by dsimp only; omega, by dsimp only; omega, by dsimp only; rw [List.length_append]; simp; omega⟩, by dsimp only; omega, ?_⟩
        dsimp only
        conv => whnf
        (refine GOES.keeping h0 [3] rfl rfl rfl (by first | rfl | (simp only [belowO, belowH, plainLL_below _ (plainQds _), Bool.and_self, Bool.and_true] <;> rfl)) ?_ ?_ <;> (repeat' (first | (with_reducible rfl) | (exact rows_eq (plainQds _) (renLL_plain _ (plainQds _))) | (exact rows_eq (plainQds _) (by (simp [List.take_of_length_le, ofVal, qdRow, overP, zeroTm]; try rfl))) | (exact sl_eq rfl (by first | (simp; done) | omega | (simp; omega))) | (exact congrArg (SV.int _) (by first | omega | (simp (disch := omega) only [lnB, wrap64, wrap32] <;> omega) | (simp; done) | (simp <;> omega))) | ((conv => whnf); refine ⟨?_, ?_⟩) | exact trivial | (simp only [ren, renB]; done) | rfl)))
      · repeat' ((first | with_reducible refine IF.tt ?_ | with_reducible refine IF.ff ?_ | refine NEED.au ?_ | ((with_reducible apply GET.at); rfl) | ((with_reducible apply GETG.at); rfl) | ((with_reducible refine UNK.mk (fun h => ?_) ?_) <;> try (exfalso; omega)) | ((with_reducible refine IF.mk (fun h => ?_) (fun h => ?_)) <;> (try simp (disch := omega) only [hsB, hsC, lnB, wrap64, wrap32, simprocAttr] at h) <;> try (exfalso; omega))) <;> conv => whnf)
        exact FIN.valueK h0 rfl rfl
end Go.Proofs.Ytillkgjdbnjnoaa
/- The terms, graphs and labels of a list; the document's sort of terms; renaming. No program in sight. -/
set_option linter.unusedVariables false
set_option linter.unusedSimpArgs false
set_option linter.unusedSectionVars false
namespace Go.Our
section
variable {α : Type} [DecidableEq α] {c : α → α → Int}
/-- Behind the others, if it is not the last one. -/
def pushN (out : List α) (q : α) : List α := match out.getLast? with
  | none => [q]
  | some z => if z ≠ q then out ++ [q] else out
def nmerge (c : α → α → Int) (out : List α) : List α → List α → List α
  | [], [] => out
  | x :: a, [] => nmerge c (pushN out x) a []
  | [], y :: b => nmerge c (pushN out y) [] b
  | x :: a, y :: b => if c x y ≤ 0 then nmerge c (pushN out x) a (y :: b) else nmerge c (pushN out y) (x :: a) b
termination_by a b => a.length + b.length
theorem pushN_eq (h : Tri c) {out : List α} {q : α} (hq : ∀ x ∈ out, c x q ≤ 0) : pushN out q = pushM c out q := by
  unfold pushN pushM
  cases hg : out.getLast? with
  | none => rfl
  | some z =>
    have hz : z ∈ out := List.mem_of_getLast? hg
    have := hq z hz
    simp only
    by_cases e : z = q
    · subst e
      have := h.self z
      rw [if_neg (by simp), if_neg (by omega)]
    · have : c z q ≠ 0 := fun e2 => e ((h.zero z q).1 e2)
      rw [if_pos e, if_pos (by omega)]
theorem nmerge_eq (h : Tri c) : ∀ (n : Nat) (out a b : List α), a.length + b.length = n → Rise c out → Rise c a → Rise c b → (∀ x ∈ out, ∀ y, y ∈ a ∨ y ∈ b → c x y ≤ 0) → nmerge c out a b = rmerge c out a b
  | n, out, [], [], hn, ho, ha, hb, hh => by unfold nmerge rmerge; rfl
  | 0, out, x :: a, b, hn, _, _, _, _ => by simp at hn
  | 0, out, [], y :: b, hn, _, _, _, _ => by simp at hn
  | n + 1, out, x :: a, [], hn, ho, ha, hb, hh => by
    have ha' := List.pairwise_cons.1 ha
    obtain ⟨h1, h2⟩ := push_rise h ho (q := x) fun z hz => hh z hz x (by simp)
    unfold nmerge rmerge
    rw [pushN_eq h fun z hz => hh z hz x (by simp)]
    exact nmerge_eq h n (pushM c out x) a [] (by simp at hn ⊢; omega) h1 ha'.2 hb (fun z hz y hy => by
      rcases (h2 z).1 hz with hz | rfl
      · exact hh z hz y (by simpa using Or.inr (by simpa using hy))
      · have : y ∈ a := by simpa using hy
        have := ha'.1 y this; omega)
  | n + 1, out, [], y :: b, hn, ho, ha, hb, hh => by
    have hb' := List.pairwise_cons.1 hb
    obtain ⟨h1, h2⟩ := push_rise h ho (q := y) fun z hz => hh z hz y (by simp)
    unfold nmerge rmerge
    rw [pushN_eq h fun z hz => hh z hz y (by simp)]
    exact nmerge_eq h n (pushM c out y) [] b (by simp at hn ⊢; omega) h1 ha hb'.2 (fun z hz w hw => by
      have hw : w ∈ b := by simpa using hw
      rcases (h2 z).1 hz with hz | rfl
      · exact hh z hz w (by simp [hw])
      · have := hb'.1 w hw; omega)
  | n + 1, out, x :: a, y :: b, hn, ho, ha, hb, hh => by
    have ha' := List.pairwise_cons.1 ha
    have hb' := List.pairwise_cons.1 hb
    unfold nmerge rmerge
    split
    · rename_i hxy
      obtain ⟨h1, h2⟩ := push_rise h ho (q := x) fun z hz => hh z hz x (by simp)
      rw [pushN_eq h fun z hz => hh z hz x (by simp)]
      exact nmerge_eq h n (pushM c out x) a (y :: b) (by simp at hn ⊢; omega) h1 ha'.2 hb (fun z hz w hw => by
        rcases (h2 z).1 hz with hz | rfl
        · exact hh z hz w (by rcases hw with hw | hw <;> simp [hw] <;> simp at hw <;> simp [hw])
        · rcases hw with hw | hw
          · have := ha'.1 w hw; omega
          · rcases List.mem_cons.1 hw with rfl | hw
            · exact hxy
            · exact h.trans _ _ _ hxy (by have := hb'.1 w hw; omega))
    · rename_i hxy
      have hyx := h.gt hxy
      obtain ⟨h1, h2⟩ := push_rise h ho (q := y) fun z hz => hh z hz y (by simp)
      rw [pushN_eq h fun z hz => hh z hz y (by simp)]
      exact nmerge_eq h n (pushM c out y) (x :: a) b (by simp at hn ⊢; omega) h1 ha hb'.2 (fun z hz w hw => by
        rcases (h2 z).1 hz with hz | rfl
        · exact hh z hz w (by rcases hw with hw | hw <;> simp [hw] <;> simp at hw <;> simp [hw])
        · rcases hw with hw | hw
          · rcases List.mem_cons.1 hw with rfl | hw
            · omega
            · exact h.trans _ x _ (by omega) (by have := ha'.1 w hw; omega)
          · have := hb'.1 w hw; omega)
/-- The document's sort of terms, half by half. -/
def nsort (c : α → α → Int) (l : List α) : List α := if l.length < 2 then l else nmerge c [] (nsort c (l.take (l.length / 2))) (nsort c (l.drop (l.length / 2)))
termination_by l.length
decreasing_by
  · simp only [List.length_take]; omega
  · simp only [List.length_drop]; omega
theorem nsort_set (h : Tri c) : ∀ (n : Nat) (l : List α), l.length ≤ n → nsort c l = setL c l
  | 0, l, hn => by
    have : l = [] := List.length_eq_zero_iff.1 (by omega)
    subst this
    unfold nsort
    simp [setL, compactM]
  | n + 1, l, hn => by
    unfold nsort
    split
    · match l with
      | [] => simp [setL, compactM]
      | [x] => simp [setL, compactM]
      | x :: y :: l => simp at *; omega
    · rw [nsort_set h n _ (by simp; omega), nsort_set h n _ (by simp; omega), nmerge_eq h _ _ _ _ rfl rise_nil (set_rise h _) (set_rise h _) (by simp)]
      refine rmerge_set h (set_rise h _) (set_rise h _) fun z => ?_
      rw [set_mem, set_mem, ← List.mem_append, List.take_append_drop]
/-- Sets of what is made one by one, in an order that is kept. -/
theorem set_map {β : Type} [DecidableEq β] {d : β → β → Int} (h : Tri c) (h' : Tri d) (f : α → β) (hf : ∀ x y, d (f x) (f y) = c x y) (l : List α) : (setL c l).map f = setL d (l.map f) := by
  refine set_of h' ?_ fun y => ?_
  · have := set_rise h l
    unfold Rise at this ⊢
    rw [List.pairwise_map]
    exact this.imp fun {a b} hab => by rw [hf]; exact hab
  · simp only [List.mem_map, set_mem]
end
/-! ### Terms, graphs, labels -/
def termsQ (q : Qd) : List Tm := [q.s, q.p, q.o] ++ if q.g.k = 0 then [] else [q.g]
def blankT (t : Tm) : List (List UInt8) := if t.k = 2 then [t.t] else []
def blanksQ (q : Qd) : List (List UInt8) := blankT q.s ++ blankT q.p ++ blankT q.o ++ blankT q.g
def allBlanks (l : List Qd) : List (List UInt8) := l.flatMap blanksQ
def mkBlank (s : List UInt8) : Tm := ⟨2, s, [], []⟩
theorem blank_cmp (x y : List UInt8) : tmCmp (mkBlank x) (mkBlank y) = cmpL x y := by
  have h1 : cmpI 2 2 = 0 := by decide
  have h2 : cmpL ([] : List UInt8) [] = 0 := triL.self []
  simp only [tmCmp, mkBlank, Tm.key, pairCmp, h1, h2]
  split <;> simp_all
theorem blanks_set (l : List (List UInt8)) : (setL tmCmp (l.map mkBlank)).map Tm.t = setL cmpL l := by
  rw [← set_map triL triT mkBlank blank_cmp, List.map_map]
  conv => rhs; rw [← List.map_id (setL cmpL l)]
  rfl
/-! ### Renaming -/
abbrev Pr := List UInt8 × List UInt8
def toOf (ps : List Pr) (s : List UInt8) : Option (List UInt8) := (ps.find? fun p => decide (p.1 = s)).map Prod.snd
def nameT (ps : List Pr) (t : Tm) : Tm := if t.k = 2 then match toOf ps t.t with | some u => { t with t := u } | none => t else t
def nameQ (ps : List Pr) (q : Qd) : Qd := ⟨nameT ps q.s, nameT ps q.p, nameT ps q.o, nameT ps q.g⟩
end Go.Our
/- Loops that leave most of the heap alone. Conditions: none. -/
set_option linter.unusedVariables false
set_option linter.unusedSimpArgs false
namespace Go.Sx
open Go
/-- What stays of a heap, by names. -/
def keepHK : List Nat → Hps → (Hps → Prop) → Prop
  | [], _, K => K []
  | i :: is, O, K => match lkp i O with
    | some h => keepHK is O fun r => K ((i, h) :: r)
    | none => STOP "kept"
def appHK : Hps → Hps → (Hps → Prop) → Prop
  | [], r, K => K r
  | (i, h) :: l, r, K => appHK l r fun r => K ((i, h) :: r)
theorem keepHK_iff : ∀ {ts : List Nat} {O : Hps} {K : Hps → Prop}, keepHK ts O K → ∃ r, K r
  | [], O, K, h => ⟨_, h⟩
  | t :: ts, O, K, h => by
    simp only [keepHK] at h
    split at h
    · obtain ⟨r, hr⟩ := keepHK_iff h; exact ⟨_, hr⟩
    · exact h.out.elim
theorem appHK_iff : ∀ {l r : Hps} {K : Hps → Prop}, appHK l r K ↔ K (l ++ r)
  | [], r, K => Iff.rfl
  | (t, v) :: l, r, K => by simp only [appHK, List.cons_append, appHK_iff]
theorem belowO_cons {m i : Nat} {h : Hp} {O : Hps} (h1 : Nat.blt i m = true) (h2 : belowH m h = true) (h3 : belowO m O = true) : belowO m ((i, h) :: O) = true := by simp only [belowO, h1, h2, h3, Bool.and_self]
theorem belowH_rows {m es : Nat} {rs : List (List SV)} (h : plainLL rs = true) : belowH m (.rows es rs) = true := by simp only [belowH, plainLL_below _ h]
theorem belowH_renrows {m es : Nat} {σ : Nat → Nat} {rs : List (List SV)} (h : plainLL rs = true) : belowH m (renH σ (.rows es rs)) = true := by rw [renH_plain _ (h := .rows es rs) h]; exact belowH_rows h
theorem box_int {k : IntKind} {a b : Int} (h : a = b) : Hp.box [.int k a] = Hp.box [.int k b] := by rw [h]
theorem box_sl {b : Blk} {r es n n' : Nat} {lim : Option Nat} (h : n = n') : Hp.box [.sl b r es n lim] = Hp.box [.sl b r es n' lim] := by rw [h]
section
variable {M : Mx} {fr : Fr} {O : Hps} {nx : Nat}
/-- A loop, of whose heap the entries ko stay as they are. -/
theorem LOOP.gok {body : Code} {Q : Post} (hT : TabOK M.P M.C.T) (ks ko : List Nat) {X : Type} (P : X → Prop) (chg : X → Fr) (Ox : X → Hps) (n0 : Nat) (μ : X → Nat) (x0 : X) (hP : P x0)
    (h : keepK ks fr fun fr0 => keepHK ko O fun O0 => (appK (chg x0) fr0 fun fr' => appHK (Ox x0) O0 fun O' => GOES M fr O nx fr' O' n0) ∧
      ∀ x, P x → appK (chg x) fr0 fun fr1 => appHK (Ox x) O0 fun O1 => run M body fr1 O1 n0 fun e fr O nx => match e with
        | .normal => ∃ x', P x' ∧ μ x' < μ x ∧ appK (chg x') fr0 fun fr' => appHK (Ox x') O0 fun O' => GOES M fr O nx fr' O' n0
        | e => Q e fr O nx) : LOOP M body fr O nx Q := by
  obtain ⟨fr0, h⟩ := keepK_iff h
  obtain ⟨O0, h1, h2⟩ := keepHK_iff h
  simp only [appK_iff, appHK_iff] at h1 h2
  exact LOOP.inv hT P (fun x => (chg x ++ fr0, Ox x ++ O0, n0)) μ x0 hP h1 h2
end
end Go.Sx
/- term: each and Fits; the reference's Fits; walked. Conditions: none. -/
set_option linter.unusedVariables false
set_option linter.unusedSimpArgs false
set_option maxRecDepth 20000
namespace Go.Proofs.Ytillkgjdbnjnoaa
open Go.Sx Go.Our
def plFits70 : Plan := (planOf [(0, 1), (1, 1), (2, 1), (3, 1), (4, 1), (5, 1), (6, 1), (7, 1), (8, 1), (9, 1), (10, 1), (11, 1), (12, 1), (13, 0)])
theorem each_does (q : Qd) : Does Try.prog tab 28 1 [.ptr (.loc 0) 0 0 0] [] [(0, .box (qdRow q))] (ValK 1 (.arr 1 [[.ptr (.loc 0) 0 0 0], [.ptr (.loc 0) 0 0 4], [.ptr (.loc 0) 0 0 8], [.ptr (.loc 0) 0 0 12]])) := by
  refine Does.enter tabOK (g := 28) (fn := Try.f28) Try.call28 Try.func28 rfl 16 rfl rfl [.cell 2 52] rfl ?_
  intro w0 F η0 h0
  conv => whnf
  repeat' ((first | with_reducible refine IF.tt ?_ | with_reducible refine IF.ff ?_ | refine DRAWN.of (id := 1) tabOK mixed plFits70 (by kernel_rfl) ?_ | with_reducible refine ADD.mk (fun _ _ => ?_) | with_reducible refine NEED.mk (Det.of rfl) ?_ | refine NEED.mk (det_pos (by omega)) ?_ | with_reducible refine FORK.mk ?_ ?_ | refine NEED.au ?_ | ((with_reducible apply GET.at); rfl) | ((with_reducible apply GETG.at); rfl) | ((with_reducible refine UNK.mk (fun h => ?_) ?_) <;> try (exfalso; omega)) | ((with_reducible refine IF.mk (fun h => ?_) (fun h => ?_)) <;> (try simp (disch := omega) only [hsB, hsC, lnB, wrap64, wrap32, simprocAttr] at h) <;> try (exfalso; omega))) <;> conv => whnf)
  exact FIN.here h0 (rc := .arr 1 [[.ptr (.loc 0) 0 0 0], [.ptr (.loc 0) 0 0 4], [.ptr (.loc 0) 0 0 8], [.ptr (.loc 0) 0 0 12]]) (Oc := []) rfl rfl rfl trivial ⟨rfl, rfl, rfl⟩
end Go.Proofs.Ytillkgjdbnjnoaa
/- term: Terms, Graphs, Blanks; walked. Conditions: none. -/
set_option linter.unusedVariables false
set_option linter.unusedSimpArgs false
set_option maxRecDepth 20000
set_option maxHeartbeats 8000000
namespace Go.Proofs.Ytillkgjdbnjnoaa
open Go.Sx Go.Our
theorem flat_succ {α : Type} (f : Qd → List α) {l : List Qd} {i : Nat} (h : i < l.length) : (l.take (i + 1)).flatMap f = (l.take i).flatMap f ++ f l[i] := by
  rw [List.take_succ_eq_append_getElem h, List.flatMap_append]; simp
theorem flat_len {α : Type} (f : Qd → List α) {k : Nat} (hk : ∀ q, (f q).length ≤ k) : ∀ (l : List Qd), (l.flatMap f).length ≤ l.length * k
  | [] => by simp
  | q :: l => by
    have := flat_len f hk l
    have := hk q
    simp only [List.flatMap_cons, List.length_append, List.length_cons, Nat.succ_mul]; omega
theorem termsQ_len (q : Qd) : (termsQ q).length ≤ 4 := by unfold termsQ; split <;> simp
theorem blanksQ_len (q : Qd) : (blanksQ q).length ≤ 4 := by
  have h : ∀ t, (blankT t).length ≤ 1 := fun t => by unfold blankT; split <;> simp
  have := h q.s; have := h q.p; have := h q.o; have := h q.g
  unfold blanksQ; simp only [List.length_append]; omega
set_option maxHeartbeats 4000000 in
theorem terms_does (l z : List Qd) (lim : Option Nat) (hl : QdsOK l) (hz : (l ++ z).length ≤ 1152921504606846976) : Does Try.prog tab 18 1 [.sl (.loc 0) 0 16 l.length lim] [] [(0, .rows 16 ((l ++ z).map qdRow))]
    (NewSet tmRow 4 1 zeroTm (l.flatMap termsQ).length (setL tmCmp (l.flatMap termsQ))) := by
  unfold QdsOK at hl
  have hlen : ∀ i, ((l.take i).flatMap termsQ).length ≤ (l.take i).length * 4 := fun i => flat_len _ termsQ_len _
  refine Does.enter tabOK (g := 18) (fn := Try.f18) Try.call18 Try.func18 rfl 33 rfl rfl [.tmp 2] rfl ?_
  intro w0 F η0 h0
  conv => whnf
  refine LOOP.nil 3 4 rfl ?_
  refine LOOP.go tabOK [6, 7] (X := Nat) (fun i => i ≤ l.length) (fun i => [(8, .int .i64 (i : Int)), (3, .sl (.loc 1) 0 4 ((l.take i).flatMap termsQ).length none)]) (fun i => [(1, .rows 4 (((l.take i).flatMap termsQ).map tmRow))]) 2 (fun i => l.length - i) 0 (by omega) ?_
  conv => whnf
  refine ⟨by (refine GOES.cutting h0 rfl rfl rfl (by first | rfl | (simp only [belowO, belowH, plainLL_below _ (plainTms _), Bool.and_self, Bool.and_true] <;> rfl)) ?_ ?_ <;> (repeat' (first | (with_reducible rfl) | (exact sl_eq rfl (by first | (simp; done) | omega | (simp; omega))) | (exact congrArg (SV.int _) (by first | omega | (simp (disch := omega) only [lnB, wrap64, wrap32] <;> omega) | (simp; done) | (simp <;> omega))) | (exact congrArg (Hp.rows _) (by rfl)) | ((conv => whnf); refine ⟨?_, ?_⟩) | exact trivial | rfl))), ?_⟩
  intro i hi
  have hli := hlen i
  rw [List.length_take, Nat.min_eq_left hi] at hli
  conv => whnf
  by_cases hil : i < l.length
  · have hs := flat_succ termsQ hil
    generalize (l.take i).flatMap termsQ = out at *
    repeat' ((first | with_reducible refine IF.tt ?_ | with_reducible refine IF.ff ?_ | (refine GET.at (row := qdRow (l[i]'(by omega))) (qd_get (by omega) (by omega)) ?_; conv => whnf) | (refine NEED.mk (needApp 56 rfl rfl (by simp) (by simp) (by omega)) ?_; conv => whnf) | (refine NEED.mk (needApp 56 rfl rfl (by simp) (by simp; omega) (by omega)) ?_; conv => whnf) | refine NEED.au ?_ | ((with_reducible apply GET.at); rfl) | ((with_reducible apply GETG.at); rfl) | ((with_reducible refine UNK.mk (fun h => ?_) ?_) <;> try (exfalso; omega)) | ((with_reducible refine IF.mk (fun h => ?_) (fun h => ?_)) <;> (try simp (disch := omega) only [hsB, hsC, lnB, wrap64, wrap32, simprocAttr] at h) <;> try (exfalso; omega))) <;> conv => whnf)
    all_goals first
      | (refine ⟨i + 1, by omega, by omega, ?_⟩; rw [hs]; (simp only [termsQ]; (try rw [if_neg (by omega)]); (try rw [if_pos (by omega)])); (conv => whnf); (refine GOES.keeping h0 [4] rfl rfl rfl (by first | rfl | (simp only [belowO, belowH, plainLL_below _ (plainTms _), Bool.and_self, Bool.and_true] <;> rfl)) ?_ ?_ <;> (repeat' (first | (with_reducible rfl) | (exact rows_eq (plainTms _) (renLL_plain _ (plainTms _))) | (exact rows_eq (plainTms _) (by (simp [List.take_of_length_le, ofVal, tmRow]))) | (exact sl_eq rfl (by first | (simp; done) | omega | (simp; omega))) | (exact congrArg (SV.int _) (by first | omega | (simp (disch := omega) only [lnB, wrap64, wrap32] <;> omega) | (simp; done) | (simp <;> omega))) | ((conv => whnf); refine ⟨?_, ?_⟩) | exact trivial | (simp only [ren, renB]; done) | rfl))); done)
      | (refine ⟨i + 1, by omega, by omega, ?_⟩; rw [hs]; (simp only [termsQ]; (try rw [if_neg (by omega)]); (try rw [if_pos (by omega)])); (conv => whnf); (refine GOES.keeping h0 [6] rfl rfl rfl (by first | rfl | (simp only [belowO, belowH, plainLL_below _ (plainTms _), Bool.and_self, Bool.and_true] <;> rfl)) ?_ ?_ <;> (repeat' (first | (with_reducible rfl) | (exact rows_eq (plainTms _) (renLL_plain _ (plainTms _))) | (exact rows_eq (plainTms _) (by (simp [List.take_of_length_le, ofVal, tmRow]))) | (exact sl_eq rfl (by first | (simp; done) | omega | (simp; omega))) | (exact congrArg (SV.int _) (by first | omega | (simp (disch := omega) only [lnB, wrap64, wrap32] <;> omega) | (simp; done) | (simp <;> omega))) | ((conv => whnf); refine ⟨?_, ?_⟩) | exact trivial | (simp only [ren, renB]; done) | rfl))); done)
      | trace_state
  · have hie : i = l.length := by omega
    subst hie
    rw [List.take_length] at hli ⊢
    generalize l.flatMap termsQ = out at *
    have hT := sortedT_does out [] none (by omega)
    rw [List.append_nil] at hT
    repeat' ((first | with_reducible refine IF.tt ?_ | with_reducible refine IF.ff ?_ | refine NEED.au ?_ | ((with_reducible apply GET.at); rfl) | ((with_reducible apply GETG.at); rfl) | ((with_reducible refine UNK.mk (fun h => ?_) ?_) <;> try (exfalso; omega)) | ((with_reducible refine IF.mk (fun h => ?_) (fun h => ?_)) <;> (try simp (disch := omega) only [hsB, hsC, lnB, wrap64, wrap32, simprocAttr] at h) <;> try (exfalso; omega))) <;> conv => whnf)
    refine CALL.at [1] (hT) rfl rfl rfl rfl (by first | rfl | (simp only [belowO, belowH, plainLL_below _ (plainTms _), Bool.and_self, Bool.and_true] <;> rfl)) (by first | rfl | (simp only [belowO, belowH, plainLL_below _ (plainTms _), Bool.and_self, Bool.and_true] <;> rfl)) (by repeat' (first | exact trivial | exact (renH_plain _ (h := .rows _ _) (plainTms _)).symm | exact rfl | exact (renH_plain _ (h := .rows _ _) (plainTms _)).trans (renH_plain _ (h := .rows _ _) (plainTms _)).symm | ((conv => whnf); refine ⟨?_, ?_⟩))) (by repeat' (first | exact trivial | exact (renH_plain _ (h := .rows _ _) (plainTms _)).symm | exact rfl | exact (renH_plain _ (h := .rows _ _) (plainTms _)).trans (renH_plain _ (h := .rows _ _) (plainTms _)).symm | ((conv => whnf); refine ⟨?_, ?_⟩))) rfl rfl ?_
    rintro r O nx ⟨j, hj, rfl, rfl, rfl⟩
    conv => whnf
    refine FIN.at h0 [2] (.sl (.loc 1) 0 4 (setL tmCmp out).length (some (setL tmCmp out).length)) [(1, .rows 4 ((setL tmCmp out ++ List.replicate j zeroTm).map tmRow))] rfl rfl rfl (by first | rfl | (simp only [belowO, belowH, plainLL_below _ (plainTms _), Bool.and_self, Bool.and_true] <;> rfl)) (by repeat' (first | exact trivial | exact (renH_plain _ (h := .rows _ _) (plainTms _)).symm | (with_reducible rfl) | (exact (renH_plain _ (h := .rows _ _) (plainTms _)).trans (renH_plain _ (h := .rows _ _) (plainTms _)).symm) | (exact rows_eq (plainTms _) (by simp [tmRow, ofVal, List.take_of_length_le])) | exact rfl | ((conv => whnf); refine ⟨?_, ?_⟩))) rfl ?_
    exact ⟨j, hj, rfl, rfl, rfl⟩
set_option maxHeartbeats 4000000 in
theorem graphs_does (l z : List Qd) (lim : Option Nat) (hl : QdsOK l) (hz : (l ++ z).length ≤ 1152921504606846976) : Does Try.prog tab 19 1 [.sl (.loc 0) 0 16 l.length lim] [] [(0, .rows 16 ((l ++ z).map qdRow))]
    (NewSet tmRow 4 1 zeroTm (l.flatMap (fun q => [q.g])).length (setL tmCmp (l.flatMap (fun q => [q.g])))) := by
  unfold QdsOK at hl
  have hlen : ∀ i, ((l.take i).flatMap (fun q => [q.g])).length ≤ (l.take i).length * 4 := fun i => flat_len _ (fun q => by simp) _
  refine Does.enter tabOK (g := 19) (fn := Try.f19) Try.call19 Try.func19 rfl 20 rfl rfl [.tmp 2] rfl ?_
  intro w0 F η0 h0
  conv => whnf
  refine LOOP.nil 3 4 rfl ?_
  refine LOOP.go tabOK [6, 7] (X := Nat) (fun i => i ≤ l.length) (fun i => [(8, .int .i64 (i : Int)), (3, .sl (.loc 1) 0 4 ((l.take i).flatMap (fun q => [q.g])).length none)]) (fun i => [(1, .rows 4 (((l.take i).flatMap (fun q => [q.g])).map tmRow))]) 2 (fun i => l.length - i) 0 (by omega) ?_
  conv => whnf
  refine ⟨by (refine GOES.cutting h0 rfl rfl rfl (by first | rfl | (simp only [belowO, belowH, plainLL_below _ (plainTms _), Bool.and_self, Bool.and_true] <;> rfl)) ?_ ?_ <;> (repeat' (first | (with_reducible rfl) | (exact sl_eq rfl (by first | (simp; done) | omega | (simp; omega))) | (exact congrArg (SV.int _) (by first | omega | (simp (disch := omega) only [lnB, wrap64, wrap32] <;> omega) | (simp; done) | (simp <;> omega))) | (exact congrArg (Hp.rows _) (by rfl)) | ((conv => whnf); refine ⟨?_, ?_⟩) | exact trivial | rfl))), ?_⟩
  intro i hi
  have hli := hlen i
  rw [List.length_take, Nat.min_eq_left hi] at hli
  conv => whnf
  by_cases hil : i < l.length
  · have hs := flat_succ (fun q => [q.g]) hil
    generalize (l.take i).flatMap (fun q => [q.g]) = out at *
    repeat' ((first | with_reducible refine IF.tt ?_ | with_reducible refine IF.ff ?_ | (refine GET.at (row := qdRow (l[i]'(by omega))) (qd_get (by omega) (by omega)) ?_; conv => whnf) | (refine NEED.mk (needApp 56 rfl rfl (by simp) (by simp) (by omega)) ?_; conv => whnf) | (refine NEED.mk (needApp 56 rfl rfl (by simp) (by simp; omega) (by omega)) ?_; conv => whnf) | refine NEED.au ?_ | ((with_reducible apply GET.at); rfl) | ((with_reducible apply GETG.at); rfl) | ((with_reducible refine UNK.mk (fun h => ?_) ?_) <;> try (exfalso; omega)) | ((with_reducible refine IF.mk (fun h => ?_) (fun h => ?_)) <;> (try simp (disch := omega) only [hsB, hsC, lnB, wrap64, wrap32, simprocAttr] at h) <;> try (exfalso; omega))) <;> conv => whnf)
    all_goals first
      | (refine ⟨i + 1, by omega, by omega, ?_⟩; rw [hs]; skip; (conv => whnf); (refine GOES.keeping h0 [4] rfl rfl rfl (by first | rfl | (simp only [belowO, belowH, plainLL_below _ (plainTms _), Bool.and_self, Bool.and_true] <;> rfl)) ?_ ?_ <;> (repeat' (first | (with_reducible rfl) | (exact rows_eq (plainTms _) (renLL_plain _ (plainTms _))) | (exact rows_eq (plainTms _) (by (simp [List.take_of_length_le, ofVal, tmRow]))) | (exact sl_eq rfl (by first | (simp; done) | omega | (simp; omega))) | (exact congrArg (SV.int _) (by first | omega | (simp (disch := omega) only [lnB, wrap64, wrap32] <;> omega) | (simp; done) | (simp <;> omega))) | ((conv => whnf); refine ⟨?_, ?_⟩) | exact trivial | (simp only [ren, renB]; done) | rfl))); done)
      | (refine ⟨i + 1, by omega, by omega, ?_⟩; rw [hs]; skip; (conv => whnf); (refine GOES.keeping h0 [6] rfl rfl rfl (by first | rfl | (simp only [belowO, belowH, plainLL_below _ (plainTms _), Bool.and_self, Bool.and_true] <;> rfl)) ?_ ?_ <;> (repeat' (first | (with_reducible rfl) | (exact rows_eq (plainTms _) (renLL_plain _ (plainTms _))) | (exact rows_eq (plainTms _) (by (simp [List.take_of_length_le, ofVal, tmRow]))) | (exact sl_eq rfl (by first | (simp; done) | omega | (simp; omega))) | (exact congrArg (SV.int _) (by first | omega | (simp (disch := omega) only [lnB, wrap64, wrap32] <;> omega) | (simp; done) | (simp <;> omega))) | ((conv => whnf); refine ⟨?_, ?_⟩) | exact trivial | (simp only [ren, renB]; done) | rfl))); done)
      | trace_state
  · have hie : i = l.length := by omega
    subst hie
    rw [List.take_length] at hli ⊢
    generalize l.flatMap (fun q => [q.g]) = out at *
    have hT := sortedT_does out [] none (by omega)
    rw [List.append_nil] at hT
    repeat' ((first | with_reducible refine IF.tt ?_ | with_reducible refine IF.ff ?_ | refine NEED.au ?_ | ((with_reducible apply GET.at); rfl) | ((with_reducible apply GETG.at); rfl) | ((with_reducible refine UNK.mk (fun h => ?_) ?_) <;> try (exfalso; omega)) | ((with_reducible refine IF.mk (fun h => ?_) (fun h => ?_)) <;> (try simp (disch := omega) only [hsB, hsC, lnB, wrap64, wrap32, simprocAttr] at h) <;> try (exfalso; omega))) <;> conv => whnf)
    refine CALL.at [1] (hT) rfl rfl rfl rfl (by first | rfl | (simp only [belowO, belowH, plainLL_below _ (plainTms _), Bool.and_self, Bool.and_true] <;> rfl)) (by first | rfl | (simp only [belowO, belowH, plainLL_below _ (plainTms _), Bool.and_self, Bool.and_true] <;> rfl)) (by repeat' (first | exact trivial | exact (renH_plain _ (h := .rows _ _) (plainTms _)).symm | exact rfl | exact (renH_plain _ (h := .rows _ _) (plainTms _)).trans (renH_plain _ (h := .rows _ _) (plainTms _)).symm | ((conv => whnf); refine ⟨?_, ?_⟩))) (by repeat' (first | exact trivial | exact (renH_plain _ (h := .rows _ _) (plainTms _)).symm | exact rfl | exact (renH_plain _ (h := .rows _ _) (plainTms _)).trans (renH_plain _ (h := .rows _ _) (plainTms _)).symm | ((conv => whnf); refine ⟨?_, ?_⟩))) rfl rfl ?_
    rintro r O nx ⟨j, hj, rfl, rfl, rfl⟩
    conv => whnf
    refine FIN.at h0 [2] (.sl (.loc 1) 0 4 (setL tmCmp out).length (some (setL tmCmp out).length)) [(1, .rows 4 ((setL tmCmp out ++ List.replicate j zeroTm).map tmRow))] rfl rfl rfl (by first | rfl | (simp only [belowO, belowH, plainLL_below _ (plainTms _), Bool.and_self, Bool.and_true] <;> rfl)) (by repeat' (first | exact trivial | exact (renH_plain _ (h := .rows _ _) (plainTms _)).symm | (with_reducible rfl) | (exact (renH_plain _ (h := .rows _ _) (plainTms _)).trans (renH_plain _ (h := .rows _ _) (plainTms _)).symm) | (exact rows_eq (plainTms _) (by simp [tmRow, ofVal, List.take_of_length_le])) | exact rfl | ((conv => whnf); refine ⟨?_, ?_⟩))) rfl ?_
    exact ⟨j, hj, rfl, rfl, rfl⟩
def fourT (q : Qd) : List Tm := [q.s, q.p, q.o, q.g]
theorem blanks4 (q : Qd) : blanksQ q = (fourT q).flatMap blankT := by simp [blanksQ, fourT]
def fourP (q : Qd) (j : Nat) : List (List UInt8) := ((fourT q).take j).flatMap blankT
theorem fourP_4 (q : Qd) : fourP q 4 = blanksQ q := by rw [blanks4]; rfl
theorem fourP_s (q : Qd) : fourP q 1 = fourP q 0 ++ blankT q.s ∧ fourP q 2 = fourP q 1 ++ blankT q.p ∧ fourP q 3 = fourP q 2 ++ blankT q.o ∧ fourP q 4 = fourP q 3 ++ blankT q.g := by simp [fourP, fourT]
theorem blankT_y {t : Tm} (h : t.k = 2) : blankT t = [t.t] := by unfold blankT; rw [if_pos h]
theorem blankT_n {t : Tm} (h : ¬ t.k = 2) : blankT t = [] := by unfold blankT; rw [if_neg h]
theorem fourP_len (q : Qd) (j : Nat) : (fourP q j).length ≤ j := by
  have h : ∀ t, (blankT t).length ≤ 1 := fun t => by unfold blankT; split <;> simp
  unfold fourP
  have h2 : ∀ (l : List Tm), (l.flatMap blankT).length ≤ l.length := fun l => by
    induction l with
    | nil => simp
    | cons t l ih => have := h t; simp only [List.flatMap_cons, List.length_append, List.length_cons]; omega
  have := h2 ((fourT q).take j)
  rw [List.length_take] at this
  omega
set_option maxHeartbeats 4000000 in
theorem blanks_does (l z : List Qd) (lim : Option Nat) (hl : QdsOK l) (hz : (l ++ z).length ≤ 1152921504606846976) : Does Try.prog tab 20 1 [.sl (.loc 0) 0 16 l.length lim] [] [(0, .rows 16 ((l ++ z).map qdRow))]
    (NewSet strRowS 1 1 ([] : List UInt8) (allBlanks l).length (setL cmpL (allBlanks l))) := by
  unfold QdsOK at hl
  have hlen : ∀ i, ((l.take i).flatMap blanksQ).length ≤ (l.take i).length * 4 := fun i => flat_len _ blanksQ_len _
  unfold allBlanks
  refine Does.enter tabOK (g := 20) (fn := Try.f20) Try.call20 Try.func20 rfl 37 rfl rfl [.tmp 2] rfl ?_
  intro w0 F η0 h0
  conv => whnf
  refine LOOP.nil 3 1 rfl ?_
  refine LOOP.go tabOK [8, 9] (X := Nat) (fun i => i ≤ l.length) (fun i => [(10, .int .i64 (i : Int)), (3, .sl (.loc 1) 0 1 ((l.take i).flatMap blanksQ).length none)]) (fun i => [(1, .rows 1 (((l.take i).flatMap blanksQ).map strRowS))]) 2 (fun i => l.length - i) 0 (by omega) ?_
  conv => whnf
  refine ⟨by (refine GOES.cutting h0 rfl rfl rfl (by first | rfl | (simp only [belowO, belowH, plainLL_below _ (plainStrsS _), Bool.and_self, Bool.and_true] <;> rfl)) ?_ ?_ <;> (repeat' (first | (with_reducible rfl) | (exact sl_eq rfl (by first | (simp; done) | omega | (simp; omega))) | (exact congrArg (SV.int _) (by first | omega | (simp (disch := omega) only [lnB, wrap64, wrap32] <;> omega) | (simp; done) | (simp <;> omega))) | (exact congrArg (Hp.rows _) (by rfl)) | ((conv => whnf); refine ⟨?_, ?_⟩) | exact trivial | rfl))), ?_⟩
  intro i hi
  have hli := hlen i
  rw [List.length_take, Nat.min_eq_left hi] at hli
  conv => whnf
  by_cases hil : i < l.length
  · have hs := flat_succ blanksQ hil
    generalize (l.take i).flatMap blanksQ = out at *
    repeat' ((first | with_reducible refine IF.tt ?_ | with_reducible refine IF.ff ?_ | (refine GET.at (row := qdRow (l[i]'(by omega))) (qd_get (by omega) (by omega)) ?_; conv => whnf) | refine NEED.au ?_ | ((with_reducible apply GET.at); rfl) | ((with_reducible apply GETG.at); rfl) | ((with_reducible refine UNK.mk (fun h => ?_) ?_) <;> try (exfalso; omega)) | ((with_reducible refine IF.mk (fun h => ?_) (fun h => ?_)) <;> (try simp (disch := omega) only [hsB, hsC, lnB, wrap64, wrap32, simprocAttr] at h) <;> try (exfalso; omega))) <;> conv => whnf)
    refine CALL.at [2] (each_does (l[i]'(by omega))) rfl rfl rfl rfl (by first | rfl | (simp only [belowO, belowH, plainLL_below _ (plainQds _), Bool.and_self, Bool.and_true] <;> rfl)) (by first | rfl | (simp only [belowO, belowH, plainLL_below _ (plainQds _), Bool.and_self, Bool.and_true] <;> rfl)) (by repeat' (first | exact trivial | exact (renH_plain _ (h := .rows _ _) (plainQds _)).symm | exact rfl | exact (renH_plain _ (h := .rows _ _) (plainQds _)).trans (renH_plain _ (h := .rows _ _) (plainQds _)).symm | ((conv => whnf); refine ⟨?_, ?_⟩))) (by repeat' (first | exact trivial | exact (renH_plain _ (h := .rows _ _) (plainQds _)).symm | exact rfl | exact (renH_plain _ (h := .rows _ _) (plainQds _)).trans (renH_plain _ (h := .rows _ _) (plainQds _)).symm | ((conv => whnf); refine ⟨?_, ?_⟩))) rfl rfl ?_
    rintro r O nx ⟨rfl, rfl, rfl⟩
    conv => whnf
    refine LOOP.go tabOK [8, 9, 10, 14] (X := Nat × List (List UInt8)) (fun x => x.1 ≤ 4 ∧ x.2 = out ++ fourP l[i] x.1) (fun x => [(15, .int .i64 (x.1 : Int)), (3, .sl (.loc 1) 0 1 x.2.length none)]) (fun x => [(1, .rows 1 (x.2.map strRowS)), (2, .box (qdRow l[i]))]) 3 (fun x => 4 - x.1) (0, out) ⟨by simp, by simp [fourP]⟩ ?_
    conv => whnf
    refine ⟨by (refine GOES.cutting h0 rfl rfl rfl (by (repeat' (first | (refine belowO_cons rfl ?_ ?_) | exact belowH_rows (plainStrsS _) | exact belowH_renrows (plainStrsS _) | rfl))) ?_ ?_ <;> (repeat' (first | (with_reducible rfl) | exact trivial | (exact sl_eq rfl (by first | omega | (simp (disch := omega) only [lnB, wrap64, wrap32] <;> omega) | (simp; done) | (simp <;> omega))) | (exact congrArg (SV.int _) (by first | omega | (simp (disch := omega) only [lnB, wrap64, wrap32] <;> omega) | (simp; done) | (simp <;> omega))) | (exact box_int (by first | omega | (simp (disch := omega) only [lnB, wrap64, wrap32] <;> omega) | (simp; done) | (simp <;> omega))) | (exact box_sl (by first | omega | (simp (disch := omega) only [lnB, wrap64, wrap32] <;> omega) | (simp; done) | (simp <;> omega))) | (exact renH_plain _ (h := .rows _ _) (plainStrsS _)) | (exact congrArg (Hp.rows _) (by rfl)) | ((conv => whnf); refine ⟨?_, ?_⟩) | rfl))), ?_⟩
    rintro ⟨j, o2⟩ ⟨hj, ho2⟩
    dsimp only at hj ho2 ⊢
    have hfl := fourP_len l[i] j
    have ho2l : o2.length ≤ i * 4 + j := by rw [ho2, List.length_append]; omega
    by_cases hj4 : j < 4
    · obtain rfl | rfl | rfl | rfl : j = 0 ∨ j = 1 ∨ j = 2 ∨ j = 3 := by omega
      · have hst := (fourP_s l[i]).1
        conv => whnf
        repeat' ((first | with_reducible refine IF.tt ?_ | with_reducible refine IF.ff ?_ | (refine NEED.mk ⟨by decide, by decide, rfl⟩ ?_; conv => whnf) | (refine NEED.mk (needApp 16 rfl rfl rfl (by simp) (by omega)) ?_; conv => whnf) | refine NEED.au ?_ | ((with_reducible apply GET.at); rfl) | ((with_reducible apply GETG.at); rfl) | ((with_reducible refine UNK.mk (fun h => ?_) ?_) <;> try (exfalso; omega)) | ((with_reducible refine IF.mk (fun h => ?_) (fun h => ?_)) <;> (try simp (disch := omega) only [hsB, hsC, lnB, wrap64, wrap32, simprocAttr] at h) <;> try (exfalso; omega))) <;> conv => whnf)
        · refine ⟨(1, o2 ++ [l[i].s.t]), ⟨by simp, by dsimp only; rw [hst, blankT_y h, ho2, List.append_assoc]⟩, by simp, ?_⟩
          dsimp only
          conv => whnf
          (refine GOES.keeping h0 [4, 2] rfl rfl rfl (by first | rfl | (simp only [belowO, belowH, plainLL_below _ (plainStrsS _), Bool.and_self, Bool.and_true] <;> rfl)) ?_ ?_ <;> (repeat' (first | (with_reducible rfl) | (exact rows_eq (plainStrsS _) (renLL_plain _ (plainStrsS _))) | (exact rows_eq (plainStrsS _) (by (simp [List.take_of_length_le, ofVal, strRowS]))) | (exact sl_eq rfl (by first | (simp; done) | omega | (simp; omega))) | (exact congrArg (SV.int _) (by first | omega | (simp (disch := omega) only [lnB, wrap64, wrap32] <;> omega) | (simp; done) | (simp <;> omega))) | ((conv => whnf); refine ⟨?_, ?_⟩) | exact trivial | (simp only [ren, renB]; done) | rfl)))
        · refine ⟨(1, o2), ⟨by simp, by dsimp only; rw [hst, blankT_n h, ho2, List.append_nil]⟩, by simp, ?_⟩
          dsimp only
          conv => whnf
          (refine GOES.cutting h0 rfl rfl rfl (by (repeat' (first | (refine belowO_cons rfl ?_ ?_) | exact belowH_rows (plainStrsS _) | exact belowH_renrows (plainStrsS _) | rfl))) ?_ ?_ <;> (repeat' (first | (with_reducible rfl) | exact trivial | (exact sl_eq rfl (by first | omega | (simp (disch := omega) only [lnB, wrap64, wrap32] <;> omega) | (simp; done) | (simp <;> omega))) | (exact congrArg (SV.int _) (by first | omega | (simp (disch := omega) only [lnB, wrap64, wrap32] <;> omega) | (simp; done) | (simp <;> omega))) | (exact box_int (by first | omega | (simp (disch := omega) only [lnB, wrap64, wrap32] <;> omega) | (simp; done) | (simp <;> omega))) | (exact box_sl (by first | omega | (simp (disch := omega) only [lnB, wrap64, wrap32] <;> omega) | (simp; done) | (simp <;> omega))) | (exact renH_plain _ (h := .rows _ _) (plainStrsS _)) | (exact congrArg (Hp.rows _) (by rfl)) | ((conv => whnf); refine ⟨?_, ?_⟩) | rfl)))
      · have hst := (fourP_s l[i]).2.1
        conv => whnf
        repeat' ((first | with_reducible refine IF.tt ?_ | with_reducible refine IF.ff ?_ | (refine NEED.mk ⟨by decide, by decide, rfl⟩ ?_; conv => whnf) | (refine NEED.mk (needApp 16 rfl rfl rfl (by simp) (by omega)) ?_; conv => whnf) | refine NEED.au ?_ | ((with_reducible apply GET.at); rfl) | ((with_reducible apply GETG.at); rfl) | ((with_reducible refine UNK.mk (fun h => ?_) ?_) <;> try (exfalso; omega)) | ((with_reducible refine IF.mk (fun h => ?_) (fun h => ?_)) <;> (try simp (disch := omega) only [hsB, hsC, lnB, wrap64, wrap32, simprocAttr] at h) <;> try (exfalso; omega))) <;> conv => whnf)
        · refine ⟨(2, o2 ++ [l[i].p.t]), ⟨by simp, by dsimp only; rw [hst, blankT_y h, ho2, List.append_assoc]⟩, by simp, ?_⟩
          dsimp only
          conv => whnf
          (refine GOES.keeping h0 [4, 2] rfl rfl rfl (by first | rfl | (simp only [belowO, belowH, plainLL_below _ (plainStrsS _), Bool.and_self, Bool.and_true] <;> rfl)) ?_ ?_ <;> (repeat' (first | (with_reducible rfl) | (exact rows_eq (plainStrsS _) (renLL_plain _ (plainStrsS _))) | (exact rows_eq (plainStrsS _) (by (simp [List.take_of_length_le, ofVal, strRowS]))) | (exact sl_eq rfl (by first | (simp; done) | omega | (simp; omega))) | (exact congrArg (SV.int _) (by first | omega | (simp (disch := omega) only [lnB, wrap64, wrap32] <;> omega) | (simp; done) | (simp <;> omega))) | ((conv => whnf); refine ⟨?_, ?_⟩) | exact trivial | (simp only [ren, renB]; done) | rfl)))
        · refine ⟨(2, o2), ⟨by simp, by dsimp only; rw [hst, blankT_n h, ho2, List.append_nil]⟩, by simp, ?_⟩
          dsimp only
          conv => whnf
          (refine GOES.cutting h0 rfl rfl rfl (by (repeat' (first | (refine belowO_cons rfl ?_ ?_) | exact belowH_rows (plainStrsS _) | exact belowH_renrows (plainStrsS _) | rfl))) ?_ ?_ <;> (repeat' (first | (with_reducible rfl) | exact trivial | (exact sl_eq rfl (by first | omega | (simp (disch := omega) only [lnB, wrap64, wrap32] <;> omega) | (simp; done) | (simp <;> omega))) | (exact congrArg (SV.int _) (by first | omega | (simp (disch := omega) only [lnB, wrap64, wrap32] <;> omega) | (simp; done) | (simp <;> omega))) | (exact box_int (by first | omega | (simp (disch := omega) only [lnB, wrap64, wrap32] <;> omega) | (simp; done) | (simp <;> omega))) | (exact box_sl (by first | omega | (simp (disch := omega) only [lnB, wrap64, wrap32] <;> omega) | (simp; done) | (simp <;> omega))) | (exact renH_plain _ (h := .rows _ _) (plainStrsS _)) | (exact congrArg (Hp.rows _) (by rfl)) | ((conv => whnf); refine ⟨?_, ?_⟩) | rfl)))
      · have hst := (fourP_s l[i]).2.2.1
        conv => whnf
        repeat' ((first | with_reducible refine IF.tt ?_ | with_reducible refine IF.ff ?_ | (refine NEED.mk ⟨by decide, by decide, rfl⟩ ?_; conv => whnf) | (refine NEED.mk (needApp 16 rfl rfl rfl (by simp) (by omega)) ?_; conv => whnf) | refine NEED.au ?_ | ((with_reducible apply GET.at); rfl) | ((with_reducible apply GETG.at); rfl) | ((with_reducible refine UNK.mk (fun h => ?_) ?_) <;> try (exfalso; omega)) | ((with_reducible refine IF.mk (fun h => ?_) (fun h => ?_)) <;> (try simp (disch := omega) only [hsB, hsC, lnB, wrap64, wrap32, simprocAttr] at h) <;> try (exfalso; omega))) <;> conv => whnf)
        · refine ⟨(3, o2 ++ [l[i].o.t]), ⟨by simp, by dsimp only; rw [hst, blankT_y h, ho2, List.append_assoc]⟩, by simp, ?_⟩
          dsimp only
          conv => whnf
          (refine GOES.keeping h0 [4, 2] rfl rfl rfl (by first | rfl | (simp only [belowO, belowH, plainLL_below _ (plainStrsS _), Bool.and_self, Bool.and_true] <;> rfl)) ?_ ?_ <;> (repeat' (first | (with_reducible rfl) | (exact rows_eq (plainStrsS _) (renLL_plain _ (plainStrsS _))) | (exact rows_eq (plainStrsS _) (by (simp [List.take_of_length_le, ofVal, strRowS]))) | (exact sl_eq rfl (by first | (simp; done) | omega | (simp; omega))) | (exact congrArg (SV.int _) (by first | omega | (simp (disch := omega) only [lnB, wrap64, wrap32] <;> omega) | (simp; done) | (simp <;> omega))) | ((conv => whnf); refine ⟨?_, ?_⟩) | exact trivial | (simp only [ren, renB]; done) | rfl)))
        · refine ⟨(3, o2), ⟨by simp, by dsimp only; rw [hst, blankT_n h, ho2, List.append_nil]⟩, by simp, ?_⟩
          dsimp only
          conv => whnf
          (refine GOES.cutting h0 rfl rfl rfl (by (repeat' (first | (refine belowO_cons rfl ?_ ?_) | exact belowH_rows (plainStrsS _) | exact belowH_renrows (plainStrsS _) | rfl))) ?_ ?_ <;> (repeat' (first | (with_reducible rfl) | exact trivial | (exact sl_eq rfl (by first | omega | (simp (disch := omega) only [lnB, wrap64, wrap32] <;> omega) | (simp; done) | (simp <;> omega))) | (exact congrArg (SV.int _) (by first | omega | (simp (disch := omega) only [lnB, wrap64, wrap32] <;> omega) | (simp; done) | (simp <;> omega))) | (exact box_int (by first | omega | (simp (disch := omega) only [lnB, wrap64, wrap32] <;> omega) | (simp; done) | (simp <;> omega))) | (exact box_sl (by first | omega | (simp (disch := omega) only [lnB, wrap64, wrap32] <;> omega) | (simp; done) | (simp <;> omega))) | (exact renH_plain _ (h := .rows _ _) (plainStrsS _)) | (exact congrArg (Hp.rows _) (by rfl)) | ((conv => whnf); refine ⟨?_, ?_⟩) | rfl)))
      · have hst := (fourP_s l[i]).2.2.2
        conv => whnf
        repeat' ((first | with_reducible refine IF.tt ?_ | with_reducible refine IF.ff ?_ | (refine NEED.mk ⟨by decide, by decide, rfl⟩ ?_; conv => whnf) | (refine NEED.mk (needApp 16 rfl rfl rfl (by simp) (by omega)) ?_; conv => whnf) | refine NEED.au ?_ | ((with_reducible apply GET.at); rfl) | ((with_reducible apply GETG.at); rfl) | ((with_reducible refine UNK.mk (fun h => ?_) ?_) <;> try (exfalso; omega)) | ((with_reducible refine IF.mk (fun h => ?_) (fun h => ?_)) <;> (try simp (disch := omega) only [hsB, hsC, lnB, wrap64, wrap32, simprocAttr] at h) <;> try (exfalso; omega))) <;> conv => whnf)
        · refine ⟨(4, o2 ++ [l[i].g.t]), ⟨by simp, by dsimp only; rw [hst, blankT_y h, ho2, List.append_assoc]⟩, by simp, ?_⟩
          dsimp only
          conv => whnf
          (refine GOES.keeping h0 [4, 2] rfl rfl rfl (by first | rfl | (simp only [belowO, belowH, plainLL_below _ (plainStrsS _), Bool.and_self, Bool.and_true] <;> rfl)) ?_ ?_ <;> (repeat' (first | (with_reducible rfl) | (exact rows_eq (plainStrsS _) (renLL_plain _ (plainStrsS _))) | (exact rows_eq (plainStrsS _) (by (simp [List.take_of_length_le, ofVal, strRowS]))) | (exact sl_eq rfl (by first | (simp; done) | omega | (simp; omega))) | (exact congrArg (SV.int _) (by first | omega | (simp (disch := omega) only [lnB, wrap64, wrap32] <;> omega) | (simp; done) | (simp <;> omega))) | ((conv => whnf); refine ⟨?_, ?_⟩) | exact trivial | (simp only [ren, renB]; done) | rfl)))
        · refine ⟨(4, o2), ⟨by simp, by dsimp only; rw [hst, blankT_n h, ho2, List.append_nil]⟩, by simp, ?_⟩
          dsimp only
          conv => whnf
          (refine GOES.cutting h0 rfl rfl rfl (by (repeat' (first | (refine belowO_cons rfl ?_ ?_) | exact belowH_rows (plainStrsS _) | exact belowH_renrows (plainStrsS _) | rfl))) ?_ ?_ <;> (repeat' (first | (with_reducible rfl) | exact trivial | (exact sl_eq rfl (by first | omega | (simp (disch := omega) only [lnB, wrap64, wrap32] <;> omega) | (simp; done) | (simp <;> omega))) | (exact congrArg (SV.int _) (by first | omega | (simp (disch := omega) only [lnB, wrap64, wrap32] <;> omega) | (simp; done) | (simp <;> omega))) | (exact box_int (by first | omega | (simp (disch := omega) only [lnB, wrap64, wrap32] <;> omega) | (simp; done) | (simp <;> omega))) | (exact box_sl (by first | omega | (simp (disch := omega) only [lnB, wrap64, wrap32] <;> omega) | (simp; done) | (simp <;> omega))) | (exact renH_plain _ (h := .rows _ _) (plainStrsS _)) | (exact congrArg (Hp.rows _) (by rfl)) | ((conv => whnf); refine ⟨?_, ?_⟩) | rfl)))
    · obtain rfl : j = 4 := by omega
      rw [fourP_4] at ho2
      conv => whnf
      repeat' ((first | with_reducible refine IF.tt ?_ | with_reducible refine IF.ff ?_ | refine NEED.au ?_ | ((with_reducible apply GET.at); rfl) | ((with_reducible apply GETG.at); rfl) | ((with_reducible refine UNK.mk (fun h => ?_) ?_) <;> try (exfalso; omega)) | ((with_reducible refine IF.mk (fun h => ?_) (fun h => ?_)) <;> (try simp (disch := omega) only [hsB, hsC, lnB, wrap64, wrap32, simprocAttr] at h) <;> try (exfalso; omega))) <;> conv => whnf)
      refine ⟨i + 1, by omega, by omega, ?_⟩
      rw [hs, ← ho2]
      conv => whnf
      (refine GOES.cutting h0 rfl rfl rfl (by first | rfl | (simp only [belowO, belowH, plainLL_below _ (plainStrsS _), Bool.and_self, Bool.and_true] <;> rfl)) ?_ ?_ <;> (repeat' (first | (with_reducible rfl) | (exact sl_eq rfl (by first | (simp; done) | omega | (simp; omega))) | (exact congrArg (SV.int _) (by first | omega | (simp (disch := omega) only [lnB, wrap64, wrap32] <;> omega) | (simp; done) | (simp <;> omega))) | (exact congrArg (Hp.rows _) (by rfl)) | ((conv => whnf); refine ⟨?_, ?_⟩) | exact trivial | rfl)))
  · have hie : i = l.length := by omega
    subst hie
    rw [List.take_length] at hli ⊢
    generalize l.flatMap blanksQ = out at *
    have hm : (out.mergeSort (leC cmpL)).length = out.length := List.length_mergeSort out
    have hcl := compact_len (out.mergeSort (leC cmpL))
    have hcc : (compactM (out.mergeSort (leC cmpL)) ++ List.replicate ((out.mergeSort (leC cmpL)).length - (compactM (out.mergeSort (leC cmpL))).length) ([] : List UInt8)).length * 16 ≤ 140737488351232 := by rw [List.length_append, List.length_replicate]; omega
    repeat' ((first | with_reducible refine IF.tt ?_ | with_reducible refine IF.ff ?_ | refine NEED.au ?_ | ((with_reducible apply GET.at); rfl) | ((with_reducible apply GETG.at); rfl) | ((with_reducible refine UNK.mk (fun h => ?_) ?_) <;> try (exfalso; omega)) | ((with_reducible refine IF.mk (fun h => ?_) (fun h => ?_)) <;> (try simp (disch := omega) only [hsB, hsC, lnB, wrap64, wrap32, simprocAttr] at h) <;> try (exfalso; omega))) <;> conv => whnf)
    refine CALL.at [1] (sortS_does out (by omega)) rfl rfl rfl rfl (by first | rfl | (simp only [belowO, belowH, plainLL_below _ (plainStrsS _), Bool.and_self, Bool.and_true] <;> rfl)) (by first | rfl | (simp only [belowO, belowH, plainLL_below _ (plainStrsS _), Bool.and_self, Bool.and_true] <;> rfl)) (by repeat' (first | exact trivial | exact (renH_plain _ (h := .rows _ _) (plainStrsS _)).symm | exact rfl | exact (renH_plain _ (h := .rows _ _) (plainStrsS _)).trans (renH_plain _ (h := .rows _ _) (plainStrsS _)).symm | ((conv => whnf); refine ⟨?_, ?_⟩))) (by repeat' (first | exact trivial | exact (renH_plain _ (h := .rows _ _) (plainStrsS _)).symm | exact rfl | exact (renH_plain _ (h := .rows _ _) (plainStrsS _)).trans (renH_plain _ (h := .rows _ _) (plainStrsS _)).symm | ((conv => whnf); refine ⟨?_, ?_⟩))) rfl rfl ?_
    rintro r O nx ⟨rfl, rfl, rfl⟩
    conv => whnf
    rw [← hm]
    refine CALL.at [1] (compactS_does (out.mergeSort (leC cmpL)) (by omega)) rfl rfl rfl rfl (by first | rfl | (simp only [belowO, belowH, plainLL_below _ (plainStrsS _), Bool.and_self, Bool.and_true] <;> rfl)) (by first | rfl | (simp only [belowO, belowH, plainLL_below _ (plainStrsS _), Bool.and_self, Bool.and_true] <;> rfl)) (by repeat' (first | exact trivial | exact (renH_plain _ (h := .rows _ _) (plainStrsS _)).symm | exact rfl | exact (renH_plain _ (h := .rows _ _) (plainStrsS _)).trans (renH_plain _ (h := .rows _ _) (plainStrsS _)).symm | ((conv => whnf); refine ⟨?_, ?_⟩))) (by repeat' (first | exact trivial | exact (renH_plain _ (h := .rows _ _) (plainStrsS _)).symm | exact rfl | exact (renH_plain _ (h := .rows _ _) (plainStrsS _)).trans (renH_plain _ (h := .rows _ _) (plainStrsS _)).symm | ((conv => whnf); refine ⟨?_, ?_⟩))) rfl rfl ?_
    rintro r O nx ⟨rfl, rfl, rfl⟩
    conv => whnf
    refine CALL.at [1] (clipS_does (compactM (out.mergeSort (leC cmpL)) ++ List.replicate ((out.mergeSort (leC cmpL)).length - (compactM (out.mergeSort (leC cmpL))).length) ([] : List UInt8)) (compactM (out.mergeSort (leC cmpL))).length (by simp) hcc) rfl rfl rfl rfl (by first | rfl | (simp only [belowO, belowH, plainLL_below _ (plainStrsS _), Bool.and_self, Bool.and_true] <;> rfl)) (by first | rfl | (simp only [belowO, belowH, plainLL_below _ (plainStrsS _), Bool.and_self, Bool.and_true] <;> rfl)) (by repeat' (first | exact trivial | exact (renH_plain _ (h := .rows _ _) (plainStrsS _)).symm | exact rfl | exact (renH_plain _ (h := .rows _ _) (plainStrsS _)).trans (renH_plain _ (h := .rows _ _) (plainStrsS _)).symm | ((conv => whnf); refine ⟨?_, ?_⟩))) (by repeat' (first | exact trivial | exact (renH_plain _ (h := .rows _ _) (plainStrsS _)).symm | exact rfl | exact (renH_plain _ (h := .rows _ _) (plainStrsS _)).trans (renH_plain _ (h := .rows _ _) (plainStrsS _)).symm | ((conv => whnf); refine ⟨?_, ?_⟩))) rfl rfl ?_
    rintro r O nx ⟨rfl, rfl, rfl⟩
    conv => whnf
    refine FIN.at h0 [1] (.sl (.loc 1) 0 1 (setL cmpL out).length (some (setL cmpL out).length)) [(1, .rows 1 ((setL cmpL out ++ List.replicate ((out.mergeSort (leC cmpL)).length - (compactM (out.mergeSort (leC cmpL))).length) ([] : List UInt8)).map strRowS))] rfl rfl rfl (by first | rfl | (simp only [belowO, belowH, plainLL_below _ (plainStrsS _), Bool.and_self, Bool.and_true] <;> rfl)) (by repeat' (first | exact trivial | exact (renH_plain _ (h := .rows _ _) (plainStrsS _)).symm | (with_reducible rfl) | (exact (renH_plain _ (h := .rows _ _) (plainStrsS _)).trans (renH_plain _ (h := .rows _ _) (plainStrsS _)).symm) | (exact rows_eq (plainStrsS _) (by simp [strRowS, ofVal, List.take_of_length_le])) | exact rfl | ((conv => whnf); refine ⟨?_, ?_⟩))) rfl ?_
    exact ⟨_, by unfold setL; omega, rfl, rfl, rfl⟩
end Go.Proofs.Ytillkgjdbnjnoaa
/- The reference's terms (sorted, each once), Terms, Graphs, Blanks; walked. Conditions: none. -/
set_option linter.unusedVariables false
set_option linter.unusedSimpArgs false
set_option maxRecDepth 20000
set_option maxHeartbeats 8000000
namespace Go.Proofs.Ytillkgjdbnjnoaa
open Go.Sx Go.Our
def plRTerms70 : Plan := (planOf [(0, 1), (1, 1), (2, 1), (3, 1), (4, 1), (6, 1), (7, 1), (8, 1), (9, 1), (10, 1), (5, 3), (11, 3), (12, 1), (13, 1)])
def plRTerms71 : Plan := (planOf [(0, 1), (1, 1), (2, 1), (3, 1), (4, 1), (5, 1), (6, 1), (7, 1), (8, 1), (9, 1), (11, 1), (12, 1), (10, 2), (13, 2), (14, 3), (15, 1), (16, 1), (17, 1)])
def plRTerms72 : Plan := (planOf [(0, 1), (1, 1), (2, 1), (3, 1), (4, 1), (5, 1), (6, 1), (7, 1), (8, 1), (9, 2), (10, 2), (11, 1), (12, 1)])
theorem pushN_yes {α : Type} [DecidableEq α] {out : List α} {q : α} (h : out.length = 0 ∨ ∃ h0 : 0 < out.length, out[out.length - 1]'(by omega) ≠ q) : pushN out q = out ++ [q] := by
  unfold pushN
  rcases h with h | ⟨h0, h⟩
  · have := List.length_eq_zero_iff.1 h
    subst this; rfl
  · have hne : out ≠ [] := fun e => by subst e; simp at h0
    rw [List.getLast?_eq_some_getLast hne, List.getLast_eq_getElem]
    simp only
    rw [if_pos h]
theorem pushN_no {α : Type} [DecidableEq α] {out : List α} {q : α} (h : ∃ h0 : 0 < out.length, out[out.length - 1]'(by omega) = q) : pushN out q = out := by
  obtain ⟨h0, h⟩ := h
  unfold pushN
  have hne : out ≠ [] := fun e => by subst e; simp at h0
  rw [List.getLast?_eq_some_getLast hne, List.getLast_eq_getElem]
  simp only
  rw [if_neg (by simpa using h)]
theorem nmerge_nil {α : Type} [DecidableEq α] {c : α → α → Int} (out : List α) : nmerge c out [] [] = out := by unfold nmerge; rfl
theorem nmerge_left {α : Type} [DecidableEq α] {c : α → α → Int} {out a b : List α} (x : α) (h : b = [] ∨ ∃ y t, b = y :: t ∧ c x y ≤ 0) : nmerge c out (x :: a) b = nmerge c (pushN out x) a b := by
  rcases h with rfl | ⟨y, t, rfl, h⟩
  · conv => lhs; unfold nmerge
  · conv => lhs; unfold nmerge
    rw [if_pos h]
theorem nmerge_right {α : Type} [DecidableEq α] {c : α → α → Int} {out a b : List α} (y : α) (h : a = [] ∨ ∃ x t, a = x :: t ∧ ¬ c x y ≤ 0) : nmerge c out a (y :: b) = nmerge c (pushN out y) a b := by
  rcases h with rfl | ⟨x, t, rfl, h⟩
  · conv => lhs; unfold nmerge
  · conv => lhs; unfold nmerge
    rw [if_neg h]
theorem nsort_len {l : List Tm} : (nsort tmCmp l).length ≤ l.length := by
  rw [nsort_set triT _ l (Nat.le_refl _)]; exact set_len l
theorem row_atT {l : List Tm} {i k : Nat} (h : i < l.length) (e : k = i) : (l.map tmRow)[k]? = some (tmRow l[i]) := by subst e; rw [List.getElem?_map, List.getElem?_eq_getElem h]; rfl
/-- The condition under which the next one is taken on. -/
abbrev Newer (out : List Tm) (q : Tm) : Prop := out.length = 0 ∨ ∃ h0 : 0 < out.length, out[out.length - 1]'(by omega) ≠ q
set_option maxHeartbeats 8000000 in
theorem rterms_does (A : List Tm) (hA : A.length * 56 ≤ 140737488351232) : ∀ (k n i : Nat) (hk : n ≤ k) (hi : i + n ≤ A.length), Does Try.prog tab 48 1 [.sl (.loc 0) i 4 n none] [] [(0, .rows 4 (A.map tmRow))] (NewList tmRow 4 1 (nsort tmCmp ((A.drop i).take n)))
  | k, n, i, hk, hi => by
    obtain ⟨l, hl⟩ : ∃ l, l = (A.drop i).take n := ⟨_, rfl⟩
    have hln : l.length = n := by rw [hl]; simp; omega
    have hrows : ((A.map tmRow).drop i).take n = l.map tmRow := by rw [hl, List.map_take, List.map_drop]
    rw [← hl]
    refine Does.enter tabOK (g := 48) (fn := Try.f48) Try.call48 Try.func48 rfl 79 rfl rfl [.tmp 2] rfl ?_
    intro w0 F η0 h0
    conv => whnf
    repeat' ((first | with_reducible refine IF.tt ?_ | with_reducible refine IF.ff ?_ | (rw [hrows]; conv => whnf) | (refine NEED.mk (needApp 56 rfl rfl (by rw [List.length_map]; exact hln) (by simp) (by omega)) ?_; conv => whnf) | refine NEED.au ?_ | ((with_reducible apply GET.at); rfl) | ((with_reducible apply GETG.at); rfl) | ((with_reducible refine UNK.mk (fun h => ?_) ?_) <;> try (exfalso; omega)) | ((with_reducible refine IF.mk (fun h => ?_) (fun h => ?_)) <;> (try simp (disch := omega) only [hsB, hsC, lnB, wrap64, wrap32, simprocAttr] at h) <;> try (exfalso; omega))) <;> conv => whnf)
    · have hs : nsort tmCmp l = l := by unfold nsort; rw [if_pos (by omega)]
      rw [hs]
      rw [Nat.zero_add]
      exact FIN.rows h0 2 4 n rfl rfl rfl (plainTms _) ⟨by rw [hln], rfl, rfl⟩
    · have hs : nsort tmCmp l = nmerge tmCmp [] (nsort tmCmp (l.take (n / 2))) (nsort tmCmp (l.drop (n / 2))) := by
        conv => lhs; unfold nsort
        rw [if_neg (by omega), hln]
      have e1 : l.take (n / 2) = (A.drop i).take (n / 2) := by rw [hl, List.take_take, Nat.min_eq_left (by omega)]
      have e2 : l.drop (n / 2) = (A.drop (i + n / 2)).take (n - n / 2) := by rw [hl, List.drop_take, List.drop_drop]
      have hn2 : 2 ≤ n := by omega
      obtain ⟨k', rfl⟩ : ∃ k', k = k' + 1 := ⟨k - 1, by omega⟩
      have r1 := rterms_does A hA k' (n / 2) i (by omega) (by omega)
      have r2 := rterms_does A hA k' (n - n / 2) (i + n / 2) (by omega) (by omega)
      rw [← e1] at r1
      rw [← e2] at r2
      have l1 := nsort_len (l := l.take (n / 2))
      have l2 := nsort_len (l := l.drop (n / 2))
      generalize nsort tmCmp (l.take (n / 2)) = X at r1 hs l1
      generalize nsort tmCmp (l.drop (n / 2)) = Y at r2 hs l2
      have hw : IntKind.i64.wrap (Int.tdiv (n : Int) 2) = ((n / 2 : Nat) : Int) := by rw [Int.tdiv_eq_ediv_of_nonneg (by omega), wrap64 (by omega) (by omega)]; omega
      repeat' ((first | with_reducible refine IF.tt ?_ | with_reducible refine IF.ff ?_ | refine DRAWN.of (id := 3) tabOK mixed plRTerms70 (by kernel_rfl) ?_ | refine DRAWN.of (id := 7) tabOK mixed plRTerms71 (by kernel_rfl) ?_ | refine DRAWN.of (id := 12) tabOK mixed plRTerms72 (by kernel_rfl) ?_ | with_reducible refine ADD.mk (fun _ _ => ?_) | with_reducible refine NEED.mk (Det.of rfl) ?_ | refine NEED.mk (det_pos (by omega)) ?_ | with_reducible refine FORK.mk ?_ ?_ | (rw [hw]; conv => whnf) | (rw [Int.toNat_natCast]; conv => whnf) | refine NEED.au ?_ | ((with_reducible apply GET.at); rfl) | ((with_reducible apply GETG.at); rfl) | ((with_reducible refine UNK.mk (fun h => ?_) ?_) <;> try (exfalso; omega)) | ((with_reducible refine IF.mk (fun h => ?_) (fun h => ?_)) <;> (try simp (disch := omega) only [hsB, hsC, lnB, wrap64, wrap32, simprocAttr] at h) <;> try (exfalso; omega))) <;> conv => whnf)
      refine CALL.at [0] (r1) rfl rfl rfl rfl (by first | rfl | (simp only [belowO, belowH, plainLL_below _ (plainTms _), Bool.and_self, Bool.and_true] <;> rfl)) (by first | rfl | (simp only [belowO, belowH, plainLL_below _ (plainTms _), Bool.and_self, Bool.and_true] <;> rfl)) (by repeat' (first | exact trivial | exact (renH_plain _ (h := .rows _ _) (plainTms _)).symm | exact rfl | exact (renH_plain _ (h := .rows _ _) (plainTms _)).trans (renH_plain _ (h := .rows _ _) (plainTms _)).symm | ((conv => whnf); refine ⟨?_, ?_⟩))) (by repeat' (first | exact trivial | exact (renH_plain _ (h := .rows _ _) (plainTms _)).symm | exact rfl | exact (renH_plain _ (h := .rows _ _) (plainTms _)).trans (renH_plain _ (h := .rows _ _) (plainTms _)).symm | ((conv => whnf); refine ⟨?_, ?_⟩))) rfl rfl ?_
      rintro r O nx ⟨rfl, rfl, rfl⟩
      conv => whnf
      repeat' ((first | with_reducible refine IF.tt ?_ | with_reducible refine IF.ff ?_ | refine DRAWN.of (id := 3) tabOK mixed plRTerms70 (by kernel_rfl) ?_ | refine DRAWN.of (id := 7) tabOK mixed plRTerms71 (by kernel_rfl) ?_ | refine DRAWN.of (id := 12) tabOK mixed plRTerms72 (by kernel_rfl) ?_ | with_reducible refine ADD.mk (fun _ _ => ?_) | with_reducible refine NEED.mk (Det.of rfl) ?_ | refine NEED.mk (det_pos (by omega)) ?_ | with_reducible refine FORK.mk ?_ ?_ | (rw [hw]; conv => whnf) | (rw [Int.toNat_natCast]; conv => whnf) | refine NEED.au ?_ | ((with_reducible apply GET.at); rfl) | ((with_reducible apply GETG.at); rfl) | ((with_reducible refine UNK.mk (fun h => ?_) ?_) <;> try (exfalso; omega)) | ((with_reducible refine IF.mk (fun h => ?_) (fun h => ?_)) <;> (try simp (disch := omega) only [hsB, hsC, lnB, wrap64, wrap32, simprocAttr] at h) <;> try (exfalso; omega))) <;> conv => whnf)
      refine CALL.at [0] (r2) rfl rfl rfl rfl (by first | rfl | (simp only [belowO, belowH, plainLL_below _ (plainTms _), Bool.and_self, Bool.and_true] <;> rfl)) (by first | rfl | (simp only [belowO, belowH, plainLL_below _ (plainTms _), Bool.and_self, Bool.and_true] <;> rfl)) (by repeat' (first | exact trivial | exact (renH_plain _ (h := .rows _ _) (plainTms _)).symm | exact rfl | exact (renH_plain _ (h := .rows _ _) (plainTms _)).trans (renH_plain _ (h := .rows _ _) (plainTms _)).symm | ((conv => whnf); refine ⟨?_, ?_⟩))) (by repeat' (first | exact trivial | exact (renH_plain _ (h := .rows _ _) (plainTms _)).symm | exact rfl | exact (renH_plain _ (h := .rows _ _) (plainTms _)).trans (renH_plain _ (h := .rows _ _) (plainTms _)).symm | ((conv => whnf); refine ⟨?_, ?_⟩))) rfl rfl ?_
      rintro r O nx ⟨rfl, rfl, rfl⟩
      conv => whnf
      repeat' ((first | with_reducible refine IF.tt ?_ | with_reducible refine IF.ff ?_ | refine DRAWN.of (id := 3) tabOK mixed plRTerms70 (by kernel_rfl) ?_ | refine DRAWN.of (id := 7) tabOK mixed plRTerms71 (by kernel_rfl) ?_ | refine DRAWN.of (id := 12) tabOK mixed plRTerms72 (by kernel_rfl) ?_ | with_reducible refine ADD.mk (fun _ _ => ?_) | with_reducible refine NEED.mk (Det.of rfl) ?_ | refine NEED.mk (det_pos (by omega)) ?_ | with_reducible refine FORK.mk ?_ ?_ | refine NEED.au ?_ | ((with_reducible apply GET.at); rfl) | ((with_reducible apply GETG.at); rfl) | ((with_reducible refine UNK.mk (fun h => ?_) ?_) <;> try (exfalso; omega)) | ((with_reducible refine IF.mk (fun h => ?_) (fun h => ?_)) <;> (try simp (disch := omega) only [hsB, hsC, lnB, wrap64, wrap32, simprocAttr] at h) <;> try (exfalso; omega))) <;> conv => whnf)
      refine LOOP.nil 5 4 rfl ?_
      refine LOOP.go tabOK [] (X := List Tm × Nat × Nat) (fun x => x.2.1 ≤ X.length ∧ x.2.2 ≤ Y.length ∧ x.1.length ≤ x.2.1 + x.2.2 ∧ nsort tmCmp l = nmerge tmCmp x.1 (X.drop x.2.1) (Y.drop x.2.2))
        (fun x => [(3, .sl (.loc 1) x.2.1 4 (X.length - x.2.1) none), (4, .sl (.loc 2) x.2.2 4 (Y.length - x.2.2) none), (5, .sl (.loc 3) 0 4 x.1.length none)]) (fun x => [(1, .rows 4 (X.map tmRow)), (2, .rows 4 (Y.map tmRow)), (3, .rows 4 (x.1.map tmRow))]) 4 (fun x => (X.length - x.2.1) + (Y.length - x.2.2)) ([], 0, 0) ⟨by simp, by simp, by simp, hs⟩ ?_
      conv => whnf
      refine ⟨by (refine GOES.cutting h0 rfl rfl rfl (by (repeat' (first | (refine belowO_cons rfl ?_ ?_) | exact belowH_rows (plainTms _) | exact belowH_renrows (plainTms _) | rfl))) ?_ ?_ <;> (repeat' (first | (with_reducible rfl) | exact trivial | (exact sl_eq rfl (by first | omega | (simp (disch := omega) only [lnB, wrap64, wrap32] <;> omega) | (simp; done) | (simp <;> omega))) | (exact congrArg (SV.int _) (by first | omega | (simp (disch := omega) only [lnB, wrap64, wrap32] <;> omega) | (simp; done) | (simp <;> omega))) | (exact box_int (by first | omega | (simp (disch := omega) only [lnB, wrap64, wrap32] <;> omega) | (simp; done) | (simp <;> omega))) | (exact box_sl (by first | omega | (simp (disch := omega) only [lnB, wrap64, wrap32] <;> omega) | (simp; done) | (simp <;> omega))) | (exact renH_plain _ (h := .rows _ _) (plainTms _)) | (exact congrArg (Hp.rows _) (by rfl)) | ((conv => whnf); refine ⟨?_, ?_⟩) | rfl))), ?_⟩
      rintro ⟨out, p, q⟩ ⟨hp, hq, ho, hr⟩
      dsimp only at hp hq ho hr ⊢
      have hl1 : X.length + Y.length ≤ A.length := by simp at l1 l2; omega
      have hlast : ∀ (h : 0 < out.length), IntKind.i64.wrap ((out.length : Int) - 1) = ((out.length - 1 : Nat) : Int) := fun h => by rw [wrap64 (by omega) (by omega)]; omega
      by_cases hpn : p < X.length <;> by_cases hqm : q < Y.length
      · have ha : X.drop p = X[p] :: X.drop (p + 1) := List.drop_eq_getElem_cons hpn
        have hb : Y.drop q = Y[q] :: Y.drop (q + 1) := List.drop_eq_getElem_cons hqm
        rw [ha, hb] at hr
        by_cases hc : tmCmp X[p] Y[q] ≤ 0
        · rw [nmerge_left _ (.inr ⟨_, _, rfl, hc⟩), ← hb] at hr
          have hN2 : Newer out X[p] ∨ ∃ h0 : 0 < out.length, out[out.length - 1]'(by omega) = X[p] := by
            by_cases h0 : out.length = 0
            · exact .inl (.inl h0)
            · by_cases he : out[out.length - 1]'(by omega) = X[p]
              · exact .inr ⟨by omega, he⟩
              · exact .inl (.inr ⟨by omega, he⟩)
          rcases hN2 with hN | hN
          · have hr := hr.trans (congrArg (fun z => nmerge tmCmp z (X.drop (p + 1)) (Y.drop q)) (pushN_yes hN))
            conv => whnf
            repeat' ((first | with_reducible refine IF.tt ?_ | with_reducible refine IF.ff ?_ | refine DRAWN.of (id := 3) tabOK mixed plRTerms70 (by kernel_rfl) ?_ | refine DRAWN.of (id := 7) tabOK mixed plRTerms71 (by kernel_rfl) ?_ | refine DRAWN.of (id := 12) tabOK mixed plRTerms72 (by kernel_rfl) ?_ | with_reducible refine ADD.mk (fun _ _ => ?_) | with_reducible refine NEED.mk (Det.of rfl) ?_ | refine NEED.mk (det_pos (by omega)) ?_ | with_reducible refine FORK.mk ?_ ?_ | refine CALL.value (rtmCmp_does _ _) rfl rfl ?_ | (refine NEED.mk (needApp 56 rfl rfl rfl (by simp) (by omega)) ?_; conv => whnf) | (refine GET.at (row := tmRow (X[p]'(by omega))) (row_atT (by omega) (by omega)) ?_; conv => whnf) | (refine GET.at (row := tmRow (Y[q]'(by omega))) (row_atT (by omega) (by omega)) ?_; conv => whnf) | (refine GET.at (row := tmRow (out[out.length - 1]'(by omega))) (row_atT (by omega) (by rw [hlast (by omega)]; omega)) ?_; conv => whnf) | refine NEED.au ?_ | ((with_reducible apply GET.at); rfl) | ((with_reducible apply GETG.at); rfl) | ((with_reducible refine UNK.mk (fun h => ?_) ?_) <;> try (exfalso; omega)) | ((with_reducible refine IF.mk (fun h => ?_) (fun h => ?_)) <;> (try simp (disch := omega) only [hsB, hsC, lnB, wrap64, wrap32, simprocAttr] at h) <;> try (exfalso; omega))) <;> conv => whnf)
            all_goals first
              | (exfalso; omega)
              | (exfalso; rcases hN with h1 | ⟨h1, h2⟩; omega; exact h2 (Tm.ext' (by simp only [tmRow, List.cons.injEq, SV.int.injEq, SV.str.injEq, true_and, and_true]; exact h)))
              | (refine ⟨(out ++ [X[p]], p + 1, q), ⟨by dsimp only; omega, by dsimp only; omega, by simp only [List.length_append, List.length_cons, List.length_nil]; omega, hr⟩, by dsimp only; omega, ?_⟩; dsimp only; (conv => whnf); (refine GOES.keeping h0 [1, 2, 6] rfl rfl rfl (by first | rfl | (simp only [belowO, belowH, plainLL_below _ (plainTms _), Bool.and_self, Bool.and_true] <;> rfl)) ?_ ?_ <;> (repeat' (first | (with_reducible rfl) | (exact rows_eq (plainTms _) (renLL_plain _ (plainTms _))) | (exact rows_eq (plainTms _) (by (simp [List.take_of_length_le, ofVal, tmRow]))) | (exact sl_eq rfl (by first | (simp; done) | omega | (simp; omega))) | (exact congrArg (SV.int _) (by first | omega | (simp (disch := omega) only [lnB, wrap64, wrap32] <;> omega) | (simp; done) | (simp <;> omega))) | ((conv => whnf); refine ⟨?_, ?_⟩) | exact trivial | (simp only [ren, renB]; done) | rfl))); done)
              | (refine ⟨(out ++ [X[p]], p + 1, q), ⟨by dsimp only; omega, by dsimp only; omega, by simp only [List.length_append, List.length_cons, List.length_nil]; omega, hr⟩, by dsimp only; omega, ?_⟩; dsimp only; (conv => whnf); (refine GOES.keeping h0 [1, 2, 5] rfl rfl rfl (by first | rfl | (simp only [belowO, belowH, plainLL_below _ (plainTms _), Bool.and_self, Bool.and_true] <;> rfl)) ?_ ?_ <;> (repeat' (first | (with_reducible rfl) | (exact rows_eq (plainTms _) (renLL_plain _ (plainTms _))) | (exact rows_eq (plainTms _) (by (simp [List.take_of_length_le, ofVal, tmRow]))) | (exact sl_eq rfl (by first | (simp; done) | omega | (simp; omega))) | (exact congrArg (SV.int _) (by first | omega | (simp (disch := omega) only [lnB, wrap64, wrap32] <;> omega) | (simp; done) | (simp <;> omega))) | ((conv => whnf); refine ⟨?_, ?_⟩) | exact trivial | (simp only [ren, renB]; done) | rfl))); done)
              | (refine ⟨(out ++ [X[p]], p + 1, q), ⟨by dsimp only; omega, by dsimp only; omega, by simp only [List.length_append, List.length_cons, List.length_nil]; omega, hr⟩, by dsimp only; omega, ?_⟩; dsimp only; (conv => whnf); (refine GOES.keeping h0 [1, 2, 7] rfl rfl rfl (by first | rfl | (simp only [belowO, belowH, plainLL_below _ (plainTms _), Bool.and_self, Bool.and_true] <;> rfl)) ?_ ?_ <;> (repeat' (first | (with_reducible rfl) | (exact rows_eq (plainTms _) (renLL_plain _ (plainTms _))) | (exact rows_eq (plainTms _) (by (simp [List.take_of_length_le, ofVal, tmRow]))) | (exact sl_eq rfl (by first | (simp; done) | omega | (simp; omega))) | (exact congrArg (SV.int _) (by first | omega | (simp (disch := omega) only [lnB, wrap64, wrap32] <;> omega) | (simp; done) | (simp <;> omega))) | ((conv => whnf); refine ⟨?_, ?_⟩) | exact trivial | (simp only [ren, renB]; done) | rfl))); done)
              | trace_state
          · have hr := hr.trans (congrArg (fun z => nmerge tmCmp z (X.drop (p + 1)) (Y.drop q)) (pushN_no hN))
            conv => whnf
            repeat' ((first | with_reducible refine IF.tt ?_ | with_reducible refine IF.ff ?_ | refine DRAWN.of (id := 3) tabOK mixed plRTerms70 (by kernel_rfl) ?_ | refine DRAWN.of (id := 7) tabOK mixed plRTerms71 (by kernel_rfl) ?_ | refine DRAWN.of (id := 12) tabOK mixed plRTerms72 (by kernel_rfl) ?_ | with_reducible refine ADD.mk (fun _ _ => ?_) | with_reducible refine NEED.mk (Det.of rfl) ?_ | refine NEED.mk (det_pos (by omega)) ?_ | with_reducible refine FORK.mk ?_ ?_ | refine CALL.value (rtmCmp_does _ _) rfl rfl ?_ | (refine NEED.mk (needApp 56 rfl rfl rfl (by simp) (by omega)) ?_; conv => whnf) | (refine GET.at (row := tmRow (X[p]'(by omega))) (row_atT (by omega) (by omega)) ?_; conv => whnf) | (refine GET.at (row := tmRow (Y[q]'(by omega))) (row_atT (by omega) (by omega)) ?_; conv => whnf) | (refine GET.at (row := tmRow (out[out.length - 1]'(by omega))) (row_atT (by omega) (by rw [hlast (by omega)]; omega)) ?_; conv => whnf) | refine NEED.au ?_ | ((with_reducible apply GET.at); rfl) | ((with_reducible apply GETG.at); rfl) | ((with_reducible refine UNK.mk (fun h => ?_) ?_) <;> try (exfalso; omega)) | ((with_reducible refine IF.mk (fun h => ?_) (fun h => ?_)) <;> (try simp (disch := omega) only [hsB, hsC, lnB, wrap64, wrap32, simprocAttr] at h) <;> try (exfalso; omega))) <;> conv => whnf)
            all_goals first
              | (exfalso; omega)
              | (exfalso; have h2 := hN.2; rw [h2] at h; simp at h; done)
              | (exfalso; have h2 := hN.1; omega)
              | (refine ⟨(out, p + 1, q), ⟨by dsimp only; omega, by dsimp only; omega, by dsimp only; omega, hr⟩, by dsimp only; omega, ?_⟩; dsimp only; (conv => whnf); (refine GOES.cutting h0 rfl rfl rfl (by first | rfl | (simp only [belowO, belowH, plainLL_below _ (plainTms _), Bool.and_self, Bool.and_true] <;> rfl)) ?_ ?_ <;> (repeat' (first | (with_reducible rfl) | (exact sl_eq rfl (by first | (simp; done) | omega | (simp; omega))) | (exact congrArg (SV.int _) (by first | omega | (simp (disch := omega) only [lnB, wrap64, wrap32] <;> omega) | (simp; done) | (simp <;> omega))) | (exact congrArg (Hp.rows _) (by rfl)) | ((conv => whnf); refine ⟨?_, ?_⟩) | exact trivial | rfl))); done)
              | trace_state
        · rw [nmerge_right _ (.inr ⟨_, _, rfl, hc⟩), ← ha] at hr
          have hN2 : Newer out Y[q] ∨ ∃ h0 : 0 < out.length, out[out.length - 1]'(by omega) = Y[q] := by
            by_cases h0 : out.length = 0
            · exact .inl (.inl h0)
            · by_cases he : out[out.length - 1]'(by omega) = Y[q]
              · exact .inr ⟨by omega, he⟩
              · exact .inl (.inr ⟨by omega, he⟩)
          rcases hN2 with hN | hN
          · have hr := hr.trans (congrArg (fun z => nmerge tmCmp z (X.drop p) (Y.drop (q + 1))) (pushN_yes hN))
            conv => whnf
            repeat' ((first | with_reducible refine IF.tt ?_ | with_reducible refine IF.ff ?_ | refine DRAWN.of (id := 3) tabOK mixed plRTerms70 (by kernel_rfl) ?_ | refine DRAWN.of (id := 7) tabOK mixed plRTerms71 (by kernel_rfl) ?_ | refine DRAWN.of (id := 12) tabOK mixed plRTerms72 (by kernel_rfl) ?_ | with_reducible refine ADD.mk (fun _ _ => ?_) | with_reducible refine NEED.mk (Det.of rfl) ?_ | refine NEED.mk (det_pos (by omega)) ?_ | with_reducible refine FORK.mk ?_ ?_ | refine CALL.value (rtmCmp_does _ _) rfl rfl ?_ | (refine NEED.mk (needApp 56 rfl rfl rfl (by simp) (by omega)) ?_; conv => whnf) | (refine GET.at (row := tmRow (X[p]'(by omega))) (row_atT (by omega) (by omega)) ?_; conv => whnf) | (refine GET.at (row := tmRow (Y[q]'(by omega))) (row_atT (by omega) (by omega)) ?_; conv => whnf) | (refine GET.at (row := tmRow (out[out.length - 1]'(by omega))) (row_atT (by omega) (by rw [hlast (by omega)]; omega)) ?_; conv => whnf) | refine NEED.au ?_ | ((with_reducible apply GET.at); rfl) | ((with_reducible apply GETG.at); rfl) | ((with_reducible refine UNK.mk (fun h => ?_) ?_) <;> try (exfalso; omega)) | ((with_reducible refine IF.mk (fun h => ?_) (fun h => ?_)) <;> (try simp (disch := omega) only [hsB, hsC, lnB, wrap64, wrap32, simprocAttr] at h) <;> try (exfalso; omega))) <;> conv => whnf)
            all_goals first
              | (exfalso; omega)
              | (exfalso; rcases hN with h1 | ⟨h1, h2⟩; omega; exact h2 (Tm.ext' (by simp only [tmRow, List.cons.injEq, SV.int.injEq, SV.str.injEq, true_and, and_true]; exact h)))
              | (refine ⟨(out ++ [Y[q]], p, q + 1), ⟨by dsimp only; omega, by dsimp only; omega, by simp only [List.length_append, List.length_cons, List.length_nil]; omega, hr⟩, by dsimp only; omega, ?_⟩; dsimp only; (conv => whnf); (refine GOES.keeping h0 [1, 2, 6] rfl rfl rfl (by first | rfl | (simp only [belowO, belowH, plainLL_below _ (plainTms _), Bool.and_self, Bool.and_true] <;> rfl)) ?_ ?_ <;> (repeat' (first | (with_reducible rfl) | (exact rows_eq (plainTms _) (renLL_plain _ (plainTms _))) | (exact rows_eq (plainTms _) (by (simp [List.take_of_length_le, ofVal, tmRow]))) | (exact sl_eq rfl (by first | (simp; done) | omega | (simp; omega))) | (exact congrArg (SV.int _) (by first | omega | (simp (disch := omega) only [lnB, wrap64, wrap32] <;> omega) | (simp; done) | (simp <;> omega))) | ((conv => whnf); refine ⟨?_, ?_⟩) | exact trivial | (simp only [ren, renB]; done) | rfl))); done)
              | (refine ⟨(out ++ [Y[q]], p, q + 1), ⟨by dsimp only; omega, by dsimp only; omega, by simp only [List.length_append, List.length_cons, List.length_nil]; omega, hr⟩, by dsimp only; omega, ?_⟩; dsimp only; (conv => whnf); (refine GOES.keeping h0 [1, 2, 5] rfl rfl rfl (by first | rfl | (simp only [belowO, belowH, plainLL_below _ (plainTms _), Bool.and_self, Bool.and_true] <;> rfl)) ?_ ?_ <;> (repeat' (first | (with_reducible rfl) | (exact rows_eq (plainTms _) (renLL_plain _ (plainTms _))) | (exact rows_eq (plainTms _) (by (simp [List.take_of_length_le, ofVal, tmRow]))) | (exact sl_eq rfl (by first | (simp; done) | omega | (simp; omega))) | (exact congrArg (SV.int _) (by first | omega | (simp (disch := omega) only [lnB, wrap64, wrap32] <;> omega) | (simp; done) | (simp <;> omega))) | ((conv => whnf); refine ⟨?_, ?_⟩) | exact trivial | (simp only [ren, renB]; done) | rfl))); done)
              | (refine ⟨(out ++ [Y[q]], p, q + 1), ⟨by dsimp only; omega, by dsimp only; omega, by simp only [List.length_append, List.length_cons, List.length_nil]; omega, hr⟩, by dsimp only; omega, ?_⟩; dsimp only; (conv => whnf); (refine GOES.keeping h0 [1, 2, 7] rfl rfl rfl (by first | rfl | (simp only [belowO, belowH, plainLL_below _ (plainTms _), Bool.and_self, Bool.and_true] <;> rfl)) ?_ ?_ <;> (repeat' (first | (with_reducible rfl) | (exact rows_eq (plainTms _) (renLL_plain _ (plainTms _))) | (exact rows_eq (plainTms _) (by (simp [List.take_of_length_le, ofVal, tmRow]))) | (exact sl_eq rfl (by first | (simp; done) | omega | (simp; omega))) | (exact congrArg (SV.int _) (by first | omega | (simp (disch := omega) only [lnB, wrap64, wrap32] <;> omega) | (simp; done) | (simp <;> omega))) | ((conv => whnf); refine ⟨?_, ?_⟩) | exact trivial | (simp only [ren, renB]; done) | rfl))); done)
              | trace_state
          · have hr := hr.trans (congrArg (fun z => nmerge tmCmp z (X.drop p) (Y.drop (q + 1))) (pushN_no hN))
            conv => whnf
            repeat' ((first | with_reducible refine IF.tt ?_ | with_reducible refine IF.ff ?_ | refine DRAWN.of (id := 3) tabOK mixed plRTerms70 (by kernel_rfl) ?_ | refine DRAWN.of (id := 7) tabOK mixed plRTerms71 (by kernel_rfl) ?_ | refine DRAWN.of (id := 12) tabOK mixed plRTerms72 (by kernel_rfl) ?_ | with_reducible refine ADD.mk (fun _ _ => ?_) | with_reducible refine NEED.mk (Det.of rfl) ?_ | refine NEED.mk (det_pos (by omega)) ?_ | with_reducible refine FORK.mk ?_ ?_ | refine CALL.value (rtmCmp_does _ _) rfl rfl ?_ | (refine NEED.mk (needApp 56 rfl rfl rfl (by simp) (by omega)) ?_; conv => whnf) | (refine GET.at (row := tmRow (X[p]'(by omega))) (row_atT (by omega) (by omega)) ?_; conv => whnf) | (refine GET.at (row := tmRow (Y[q]'(by omega))) (row_atT (by omega) (by omega)) ?_; conv => whnf) | (refine GET.at (row := tmRow (out[out.length - 1]'(by omega))) (row_atT (by omega) (by rw [hlast (by omega)]; omega)) ?_; conv => whnf) | refine NEED.au ?_ | ((with_reducible apply GET.at); rfl) | ((with_reducible apply GETG.at); rfl) | ((with_reducible refine UNK.mk (fun h => ?_) ?_) <;> try (exfalso; omega)) | ((with_reducible refine IF.mk (fun h => ?_) (fun h => ?_)) <;> (try simp (disch := omega) only [hsB, hsC, lnB, wrap64, wrap32, simprocAttr] at h) <;> try (exfalso; omega))) <;> conv => whnf)
            all_goals first
              | (exfalso; omega)
              | (exfalso; have h2 := hN.2; rw [h2] at h; simp at h; done)
              | (exfalso; have h2 := hN.1; omega)
              | (refine ⟨(out, p, q + 1), ⟨by dsimp only; omega, by dsimp only; omega, by dsimp only; omega, hr⟩, by dsimp only; omega, ?_⟩; dsimp only; (conv => whnf); (refine GOES.cutting h0 rfl rfl rfl (by first | rfl | (simp only [belowO, belowH, plainLL_below _ (plainTms _), Bool.and_self, Bool.and_true] <;> rfl)) ?_ ?_ <;> (repeat' (first | (with_reducible rfl) | (exact sl_eq rfl (by first | (simp; done) | omega | (simp; omega))) | (exact congrArg (SV.int _) (by first | omega | (simp (disch := omega) only [lnB, wrap64, wrap32] <;> omega) | (simp; done) | (simp <;> omega))) | (exact congrArg (Hp.rows _) (by rfl)) | ((conv => whnf); refine ⟨?_, ?_⟩) | exact trivial | rfl))); done)
              | trace_state
      · have ha : X.drop p = X[p] :: X.drop (p + 1) := List.drop_eq_getElem_cons hpn
        have hb : Y.drop q = [] := List.drop_eq_nil_of_le (by omega)
        rw [ha, hb, nmerge_left _ (.inl rfl), ← hb] at hr
        have hN2 : Newer out X[p] ∨ ∃ h0 : 0 < out.length, out[out.length - 1]'(by omega) = X[p] := by
          by_cases h0 : out.length = 0
          · exact .inl (.inl h0)
          · by_cases he : out[out.length - 1]'(by omega) = X[p]
            · exact .inr ⟨by omega, he⟩
            · exact .inl (.inr ⟨by omega, he⟩)
        rcases hN2 with hN | hN
        · have hr := hr.trans (congrArg (fun z => nmerge tmCmp z (X.drop (p + 1)) (Y.drop q)) (pushN_yes hN))
          conv => whnf
          repeat' ((first | with_reducible refine IF.tt ?_ | with_reducible refine IF.ff ?_ | refine DRAWN.of (id := 3) tabOK mixed plRTerms70 (by kernel_rfl) ?_ | refine DRAWN.of (id := 7) tabOK mixed plRTerms71 (by kernel_rfl) ?_ | refine DRAWN.of (id := 12) tabOK mixed plRTerms72 (by kernel_rfl) ?_ | with_reducible refine ADD.mk (fun _ _ => ?_) | with_reducible refine NEED.mk (Det.of rfl) ?_ | refine NEED.mk (det_pos (by omega)) ?_ | with_reducible refine FORK.mk ?_ ?_ | refine CALL.value (rtmCmp_does _ _) rfl rfl ?_ | (refine NEED.mk (needApp 56 rfl rfl rfl (by simp) (by omega)) ?_; conv => whnf) | (refine GET.at (row := tmRow (X[p]'(by omega))) (row_atT (by omega) (by omega)) ?_; conv => whnf) | (refine GET.at (row := tmRow (Y[q]'(by omega))) (row_atT (by omega) (by omega)) ?_; conv => whnf) | (refine GET.at (row := tmRow (out[out.length - 1]'(by omega))) (row_atT (by omega) (by rw [hlast (by omega)]; omega)) ?_; conv => whnf) | refine NEED.au ?_ | ((with_reducible apply GET.at); rfl) | ((with_reducible apply GETG.at); rfl) | ((with_reducible refine UNK.mk (fun h => ?_) ?_) <;> try (exfalso; omega)) | ((with_reducible refine IF.mk (fun h => ?_) (fun h => ?_)) <;> (try simp (disch := omega) only [hsB, hsC, lnB, wrap64, wrap32, simprocAttr] at h) <;> try (exfalso; omega))) <;> conv => whnf)
          all_goals first
            | (exfalso; omega)
            | (exfalso; rcases hN with h1 | ⟨h1, h2⟩; omega; exact h2 (Tm.ext' (by simp only [tmRow, List.cons.injEq, SV.int.injEq, SV.str.injEq, true_and, and_true]; exact h)))
            | (refine ⟨(out ++ [X[p]], p + 1, q), ⟨by dsimp only; omega, by dsimp only; omega, by simp only [List.length_append, List.length_cons, List.length_nil]; omega, hr⟩, by dsimp only; omega, ?_⟩; dsimp only; (conv => whnf); (refine GOES.keeping h0 [1, 2, 6] rfl rfl rfl (by first | rfl | (simp only [belowO, belowH, plainLL_below _ (plainTms _), Bool.and_self, Bool.and_true] <;> rfl)) ?_ ?_ <;> (repeat' (first | (with_reducible rfl) | (exact rows_eq (plainTms _) (renLL_plain _ (plainTms _))) | (exact rows_eq (plainTms _) (by (simp [List.take_of_length_le, ofVal, tmRow]))) | (exact sl_eq rfl (by first | (simp; done) | omega | (simp; omega))) | (exact congrArg (SV.int _) (by first | omega | (simp (disch := omega) only [lnB, wrap64, wrap32] <;> omega) | (simp; done) | (simp <;> omega))) | ((conv => whnf); refine ⟨?_, ?_⟩) | exact trivial | (simp only [ren, renB]; done) | rfl))); done)
            | (refine ⟨(out ++ [X[p]], p + 1, q), ⟨by dsimp only; omega, by dsimp only; omega, by simp only [List.length_append, List.length_cons, List.length_nil]; omega, hr⟩, by dsimp only; omega, ?_⟩; dsimp only; (conv => whnf); (refine GOES.keeping h0 [1, 2, 5] rfl rfl rfl (by first | rfl | (simp only [belowO, belowH, plainLL_below _ (plainTms _), Bool.and_self, Bool.and_true] <;> rfl)) ?_ ?_ <;> (repeat' (first | (with_reducible rfl) | (exact rows_eq (plainTms _) (renLL_plain _ (plainTms _))) | (exact rows_eq (plainTms _) (by (simp [List.take_of_length_le, ofVal, tmRow]))) | (exact sl_eq rfl (by first | (simp; done) | omega | (simp; omega))) | (exact congrArg (SV.int _) (by first | omega | (simp (disch := omega) only [lnB, wrap64, wrap32] <;> omega) | (simp; done) | (simp <;> omega))) | ((conv => whnf); refine ⟨?_, ?_⟩) | exact trivial | (simp only [ren, renB]; done) | rfl))); done)
            | (refine ⟨(out ++ [X[p]], p + 1, q), ⟨by dsimp only; omega, by dsimp only; omega, by simp only [List.length_append, List.length_cons, List.length_nil]; omega, hr⟩, by dsimp only; omega, ?_⟩; dsimp only; (conv => whnf); (refine GOES.keeping h0 [1, 2, 7] rfl rfl rfl (by first | rfl | (simp only [belowO, belowH, plainLL_below _ (plainTms _), Bool.and_self, Bool.and_true] <;> rfl)) ?_ ?_ <;> (repeat' (first | (with_reducible rfl) | (exact rows_eq (plainTms _) (renLL_plain _ (plainTms _))) | (exact rows_eq (plainTms _) (by (simp [List.take_of_length_le, ofVal, tmRow]))) | (exact sl_eq rfl (by first | (simp; done) | omega | (simp; omega))) | (exact congrArg (SV.int _) (by first | omega | (simp (disch := omega) only [lnB, wrap64, wrap32] <;> omega) | (simp; done) | (simp <;> omega))) | ((conv => whnf); refine ⟨?_, ?_⟩) | exact trivial | (simp only [ren, renB]; done) | rfl))); done)
            | trace_state
        · have hr := hr.trans (congrArg (fun z => nmerge tmCmp z (X.drop (p + 1)) (Y.drop q)) (pushN_no hN))
          conv => whnf
          repeat' ((first | with_reducible refine IF.tt ?_ | with_reducible refine IF.ff ?_ | refine DRAWN.of (id := 3) tabOK mixed plRTerms70 (by kernel_rfl) ?_ | refine DRAWN.of (id := 7) tabOK mixed plRTerms71 (by kernel_rfl) ?_ | refine DRAWN.of (id := 12) tabOK mixed plRTerms72 (by kernel_rfl) ?_ | with_reducible refine ADD.mk (fun _ _ => ?_) | with_reducible refine NEED.mk (Det.of rfl) ?_ | refine NEED.mk (det_pos (by omega)) ?_ | with_reducible refine FORK.mk ?_ ?_ | refine CALL.value (rtmCmp_does _ _) rfl rfl ?_ | (refine NEED.mk (needApp 56 rfl rfl rfl (by simp) (by omega)) ?_; conv => whnf) | (refine GET.at (row := tmRow (X[p]'(by omega))) (row_atT (by omega) (by omega)) ?_; conv => whnf) | (refine GET.at (row := tmRow (Y[q]'(by omega))) (row_atT (by omega) (by omega)) ?_; conv => whnf) | (refine GET.at (row := tmRow (out[out.length - 1]'(by omega))) (row_atT (by omega) (by rw [hlast (by omega)]; omega)) ?_; conv => whnf) | refine NEED.au ?_ | ((with_reducible apply GET.at); rfl) | ((with_reducible apply GETG.at); rfl) | ((with_reducible refine UNK.mk (fun h => ?_) ?_) <;> try (exfalso; omega)) | ((with_reducible refine IF.mk (fun h => ?_) (fun h => ?_)) <;> (try simp (disch := omega) only [hsB, hsC, lnB, wrap64, wrap32, simprocAttr] at h) <;> try (exfalso; omega))) <;> conv => whnf)
          all_goals first
            | (exfalso; omega)
            | (exfalso; have h2 := hN.2; rw [h2] at h; simp at h; done)
            | (exfalso; have h2 := hN.1; omega)
            | (refine ⟨(out, p + 1, q), ⟨by dsimp only; omega, by dsimp only; omega, by dsimp only; omega, hr⟩, by dsimp only; omega, ?_⟩; dsimp only; (conv => whnf); (refine GOES.cutting h0 rfl rfl rfl (by first | rfl | (simp only [belowO, belowH, plainLL_below _ (plainTms _), Bool.and_self, Bool.and_true] <;> rfl)) ?_ ?_ <;> (repeat' (first | (with_reducible rfl) | (exact sl_eq rfl (by first | (simp; done) | omega | (simp; omega))) | (exact congrArg (SV.int _) (by first | omega | (simp (disch := omega) only [lnB, wrap64, wrap32] <;> omega) | (simp; done) | (simp <;> omega))) | (exact congrArg (Hp.rows _) (by rfl)) | ((conv => whnf); refine ⟨?_, ?_⟩) | exact trivial | rfl))); done)
            | trace_state
      · have hb : Y.drop q = Y[q] :: Y.drop (q + 1) := List.drop_eq_getElem_cons hqm
        have ha : X.drop p = [] := List.drop_eq_nil_of_le (by omega)
        rw [ha, hb, nmerge_right _ (.inl rfl), ← ha] at hr
        have hN2 : Newer out Y[q] ∨ ∃ h0 : 0 < out.length, out[out.length - 1]'(by omega) = Y[q] := by
          by_cases h0 : out.length = 0
          · exact .inl (.inl h0)
          · by_cases he : out[out.length - 1]'(by omega) = Y[q]
            · exact .inr ⟨by omega, he⟩
            · exact .inl (.inr ⟨by omega, he⟩)
        rcases hN2 with hN | hN
        · have hr := hr.trans (congrArg (fun z => nmerge tmCmp z (X.drop p) (Y.drop (q + 1))) (pushN_yes hN))
          conv => whnf
          repeat' ((first | with_reducible refine IF.tt ?_ | with_reducible refine IF.ff ?_ | refine DRAWN.of (id := 3) tabOK mixed plRTerms70 (by kernel_rfl) ?_ | refine DRAWN.of (id := 7) tabOK mixed plRTerms71 (by kernel_rfl) ?_ | refine DRAWN.of (id := 12) tabOK mixed plRTerms72 (by kernel_rfl) ?_ | with_reducible refine ADD.mk (fun _ _ => ?_) | with_reducible refine NEED.mk (Det.of rfl) ?_ | refine NEED.mk (det_pos (by omega)) ?_ | with_reducible refine FORK.mk ?_ ?_ | refine CALL.value (rtmCmp_does _ _) rfl rfl ?_ | (refine NEED.mk (needApp 56 rfl rfl rfl (by simp) (by omega)) ?_; conv => whnf) | (refine GET.at (row := tmRow (X[p]'(by omega))) (row_atT (by omega) (by omega)) ?_; conv => whnf) | (refine GET.at (row := tmRow (Y[q]'(by omega))) (row_atT (by omega) (by omega)) ?_; conv => whnf) | (refine GET.at (row := tmRow (out[out.length - 1]'(by omega))) (row_atT (by omega) (by rw [hlast (by omega)]; omega)) ?_; conv => whnf) | refine NEED.au ?_ | ((with_reducible apply GET.at); rfl) | ((with_reducible apply GETG.at); rfl) | ((with_reducible refine UNK.mk (fun h => ?_) ?_) <;> try (exfalso; omega)) | ((with_reducible refine IF.mk (fun h => ?_) (fun h => ?_)) <;> (try simp (disch := omega) only [hsB, hsC, lnB, wrap64, wrap32, simprocAttr] at h) <;> try (exfalso; omega))) <;> conv => whnf)
          all_goals first
            | (exfalso; omega)
            | (exfalso; rcases hN with h1 | ⟨h1, h2⟩; omega; exact h2 (Tm.ext' (by simp only [tmRow, List.cons.injEq, SV.int.injEq, SV.str.injEq, true_and, and_true]; exact h)))
            | (refine ⟨(out ++ [Y[q]], p, q + 1), ⟨by dsimp only; omega, by dsimp only; omega, by simp only [List.length_append, List.length_cons, List.length_nil]; omega, hr⟩, by dsimp only; omega, ?_⟩; dsimp only; (conv => whnf); (refine GOES.keeping h0 [1, 2, 6] rfl rfl rfl (by first | rfl | (simp only [belowO, belowH, plainLL_below _ (plainTms _), Bool.and_self, Bool.and_true] <;> rfl)) ?_ ?_ <;> (repeat' (first | (with_reducible rfl) | (exact rows_eq (plainTms _) (renLL_plain _ (plainTms _))) | (exact rows_eq (plainTms _) (by (simp [List.take_of_length_le, ofVal, tmRow]))) | (exact sl_eq rfl (by first | (simp; done) | omega | (simp; omega))) | (exact congrArg (SV.int _) (by first | omega | (simp (disch := omega) only [lnB, wrap64, wrap32] <;> omega) | (simp; done) | (simp <;> omega))) | ((conv => whnf); refine ⟨?_, ?_⟩) | exact trivial | (simp only [ren, renB]; done) | rfl))); done)
            | (refine ⟨(out ++ [Y[q]], p, q + 1), ⟨by dsimp only; omega, by dsimp only; omega, by simp only [List.length_append, List.length_cons, List.length_nil]; omega, hr⟩, by dsimp only; omega, ?_⟩; dsimp only; (conv => whnf); (refine GOES.keeping h0 [1, 2, 5] rfl rfl rfl (by first | rfl | (simp only [belowO, belowH, plainLL_below _ (plainTms _), Bool.and_self, Bool.and_true] <;> rfl)) ?_ ?_ <;> (repeat' (first | (with_reducible rfl) | (exact rows_eq (plainTms _) (renLL_plain _ (plainTms _))) | (exact rows_eq (plainTms _) (by (simp [List.take_of_length_le, ofVal, tmRow]))) | (exact sl_eq rfl (by first | (simp; done) | omega | (simp; omega))) | (exact congrArg (SV.int _) (by first | omega | (simp (disch := omega) only [lnB, wrap64, wrap32] <;> omega) | (simp; done) | (simp <;> omega))) | ((conv => whnf); refine ⟨?_, ?_⟩) | exact trivial | (simp only [ren, renB]; done) | rfl))); done)
            | (refine ⟨(out ++ [Y[q]], p, q + 1), ⟨by dsimp only; omega, by dsimp only; omega, by simp only [List.length_append, List.length_cons, List.length_nil]; omega, hr⟩, by dsimp only; omega, ?_⟩; dsimp only; (conv => whnf); (refine GOES.keeping h0 [1, 2, 7] rfl rfl rfl (by first | rfl | (simp only [belowO, belowH, plainLL_below _ (plainTms _), Bool.and_self, Bool.and_true] <;> rfl)) ?_ ?_ <;> (repeat' (first | (with_reducible rfl) | (exact rows_eq (plainTms _) (renLL_plain _ (plainTms _))) | (exact rows_eq (plainTms _) (by (simp [List.take_of_length_le, ofVal, tmRow]))) | (exact sl_eq rfl (by first | (simp; done) | omega | (simp; omega))) | (exact congrArg (SV.int _) (by first | omega | (simp (disch := omega) only [lnB, wrap64, wrap32] <;> omega) | (simp; done) | (simp <;> omega))) | ((conv => whnf); refine ⟨?_, ?_⟩) | exact trivial | (simp only [ren, renB]; done) | rfl))); done)
            | trace_state
        · have hr := hr.trans (congrArg (fun z => nmerge tmCmp z (X.drop p) (Y.drop (q + 1))) (pushN_no hN))
          conv => whnf
          repeat' ((first | with_reducible refine IF.tt ?_ | with_reducible refine IF.ff ?_ | refine DRAWN.of (id := 3) tabOK mixed plRTerms70 (by kernel_rfl) ?_ | refine DRAWN.of (id := 7) tabOK mixed plRTerms71 (by kernel_rfl) ?_ | refine DRAWN.of (id := 12) tabOK mixed plRTerms72 (by kernel_rfl) ?_ | with_reducible refine ADD.mk (fun _ _ => ?_) | with_reducible refine NEED.mk (Det.of rfl) ?_ | refine NEED.mk (det_pos (by omega)) ?_ | with_reducible refine FORK.mk ?_ ?_ | refine CALL.value (rtmCmp_does _ _) rfl rfl ?_ | (refine NEED.mk (needApp 56 rfl rfl rfl (by simp) (by omega)) ?_; conv => whnf) | (refine GET.at (row := tmRow (X[p]'(by omega))) (row_atT (by omega) (by omega)) ?_; conv => whnf) | (refine GET.at (row := tmRow (Y[q]'(by omega))) (row_atT (by omega) (by omega)) ?_; conv => whnf) | (refine GET.at (row := tmRow (out[out.length - 1]'(by omega))) (row_atT (by omega) (by rw [hlast (by omega)]; omega)) ?_; conv => whnf) | refine NEED.au ?_ | ((with_reducible apply GET.at); rfl) | ((with_reducible apply GETG.at); rfl) | ((with_reducible refine UNK.mk (fun h => ?_) ?_) <;> try (exfalso; omega)) | ((with_reducible refine IF.mk (fun h => ?_) (fun h => ?_)) <;> (try simp (disch := omega) only [hsB, hsC, lnB, wrap64, wrap32, simprocAttr] at h) <;> try (exfalso; omega))) <;> conv => whnf)
          all_goals first
            | (exfalso; omega)
            | (exfalso; have h2 := hN.2; rw [h2] at h; simp at h; done)
            | (exfalso; have h2 := hN.1; omega)
            | (refine ⟨(out, p, q + 1), ⟨by dsimp only; omega, by dsimp only; omega, by dsimp only; omega, hr⟩, by dsimp only; omega, ?_⟩; dsimp only; (conv => whnf); (refine GOES.cutting h0 rfl rfl rfl (by first | rfl | (simp only [belowO, belowH, plainLL_below _ (plainTms _), Bool.and_self, Bool.and_true] <;> rfl)) ?_ ?_ <;> (repeat' (first | (with_reducible rfl) | (exact sl_eq rfl (by first | (simp; done) | omega | (simp; omega))) | (exact congrArg (SV.int _) (by first | omega | (simp (disch := omega) only [lnB, wrap64, wrap32] <;> omega) | (simp; done) | (simp <;> omega))) | (exact congrArg (Hp.rows _) (by rfl)) | ((conv => whnf); refine ⟨?_, ?_⟩) | exact trivial | rfl))); done)
            | trace_state
      · have ha : X.drop p = [] := List.drop_eq_nil_of_le (by omega)
        have hb : Y.drop q = [] := List.drop_eq_nil_of_le (by omega)
        rw [ha, hb, nmerge_nil] at hr
        conv => whnf
        repeat' ((first | with_reducible refine IF.tt ?_ | with_reducible refine IF.ff ?_ | refine NEED.au ?_ | ((with_reducible apply GET.at); rfl) | ((with_reducible apply GETG.at); rfl) | ((with_reducible refine UNK.mk (fun h => ?_) ?_) <;> try (exfalso; omega)) | ((with_reducible refine IF.mk (fun h => ?_) (fun h => ?_)) <;> (try simp (disch := omega) only [hsB, hsC, lnB, wrap64, wrap32, simprocAttr] at h) <;> try (exfalso; omega))) <;> conv => whnf)
        rw [hr]
        exact FIN.rows h0 3 4 out.length rfl rfl rfl (plainTms _) ⟨rfl, rfl, rfl⟩
end Go.Proofs.Ytillkgjdbnjnoaa
