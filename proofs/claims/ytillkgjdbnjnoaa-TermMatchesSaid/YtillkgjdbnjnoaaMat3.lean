/- TermMatches: the row out of the walk. Conditions: none beyond the statement's own. -/
import Derived.RangeFuncNested
import Derived.Test.YtillkgjdbnjnoaaRows
import Derived.Test.YtillkgjdbnjnoaaMat2
/- term: Rises, the program's and the reference's, walked. Conditions: none. -/
set_option linter.unusedVariables false
set_option linter.unusedSimpArgs false
set_option maxRecDepth 20000
namespace Go.Proofs.Ytillkgjdbnjnoaa
open Go.Sx Go.Our
def plRise70 : Plan := (planOf [(0, 1), (1, 1), (2, 1), (3, 1), (4, 1), (6, 1), (7, 1), (8, 1), (5, 2), (9, 2), (10, 3), (11, 1)])
def plRise71 : Plan := (planOf [(0, 1), (1, 1), (2, 1), (3, 1), (5, 1), (6, 1), (7, 1), (4, 2), (8, 2), (9, 3), (10, 1)])
theorem qdRow_get2 {l z : List Qd} {i : Nat} (h : i < l.length) : ((l ++ z).map qdRow)[i]? = some (qdRow l[i]) := by
  rw [List.getElem?_map, List.getElem?_append_left h, List.getElem?_eq_getElem h]; rfl
theorem risesG_does (l z : List Qd) {lim : Option Nat} (hl : QdsOK l) : Does Try.prog tab 94 1 [.sl (.loc 0) 0 16 l.length lim, .fn (.func 32) [] []] [] [(0, .rows 16 ((l ++ z).map qdRow))]
    (ValK 1 (.bool (risesM l 1))) := by
  refine Does.enter tabOK (g := 94) (fn := Try.f94) Try.call94 Try.func94 rfl 24 rfl rfl [.tmp 4] rfl ?_
  intro w0 F η0 h0
  conv => whnf
  refine LOOP.go tabOK [0, 1] (X := Nat) (fun i => 1 ≤ i ∧ (i ≤ l.length ∨ i = 1) ∧ risesM l 1 = risesM l i) (fun i => [(5, .int .i64 (i : Int))]) (fun i => []) 1 (fun i => l.length - i) 1 ⟨by omega, by omega, rfl⟩ ?_
  conv => whnf
  refine ⟨by (refine GOES.cutting h0 rfl rfl rfl (by first | rfl | simp [belowO, belowH, plainLL_below, plainLL_map, plainL, plain]) ?_ ?_ <;> (repeat' (first | (with_reducible rfl) | (exact congrArg (fun n => SV.sl _ _ _ n _) (by simp)) | (exact congrArg (Hp.rows _) (by simp)) | (exact congrArg (SV.int _) (by first | omega | (simp (disch := omega) only [lnB, wrap64, wrap32] <;> omega) | (simp; done) | (simp <;> omega))) | ((conv => whnf); refine ⟨?_, ?_⟩) | exact trivial | (simp; done) | rfl))), ?_⟩
  rintro j ⟨hj1, hj, hf⟩
  conv => whnf
  rcases Nat.lt_or_ge j l.length with hjl | hjl
  · rw [rises_at hjl] at hf
    have hj' : (IntKind.i64.wrap ((j : Int) - 1)).toNat = j - 1 := by rw [wrap64 (by omega) (by omega)]; omega
    repeat' ((first | with_reducible refine IF.tt ?_ | with_reducible refine IF.ff ?_ | refine DRAWN.of (id := 4) tabOK mixed plRise70 (by kernel_rfl) ?_ | with_reducible refine ADD.mk (fun _ _ => ?_) | with_reducible refine NEED.mk (Det.of rfl) ?_ | refine NEED.mk (det_pos (by omega)) ?_ | with_reducible refine FORK.mk ?_ ?_ | (refine GET.at (row := qdRow (l[j]'(by omega))) (by rw [show 0 + (j : Int).toNat = j by omega]; exact qdRow_get2 (by omega)) ?_; conv => whnf) | (refine GET.at (row := qdRow (l[j - 1]'(by omega))) (by rw [show 0 + (IntKind.i64.wrap ((j : Int) - 1)).toNat = j - 1 by omega]; exact qdRow_get2 (by omega)) ?_; conv => whnf) | refine CALL.value (qdCmp_does (l[j - 1]'(by omega)) (l[j]'(by omega))) rfl rfl ?_ | ((with_reducible refine NEED.mk ?_ ?_); (first | with_reducible rfl | omega | (simp (disch := omega) only [lnB, wrap64, wrap32] <;> omega) | (intro h; (try simp (disch := omega) only [hsB, hsC, lnB, wrap64, wrap32, simprocAttr] at h); (first | omega | (simp (disch := omega) only [lnB, wrap64, wrap32] <;> omega))) | (exact needApp 256 rfl rfl (by simp) (by simp) (by omega)) | (exact ⟨by omega, le_reach (by omega)⟩) | (exact ⟨by omega, by omega, le_reach (by omega)⟩) | (simp <;> omega))) | ((with_reducible apply GET.at); rfl) | ((with_reducible apply GETG.at); rfl) | ((with_reducible refine UNK.mk (fun h => ?_) ?_) <;> try (exfalso; omega)) | ((with_reducible refine IF.mk (fun h => ?_) (fun h => ?_)) <;> (try simp (disch := omega) only [hsB, hsC, lnB, wrap64, wrap32, simprocAttr] at h) <;> try (exfalso; omega))) <;> conv => whnf)
    · refine FIN.valueK h0 rfl (congrArg SV.bool ?_)
      rw [hf, decide_eq_false (by omega)]; rfl
    · refine ⟨j + 1, ⟨by omega, by omega, by rw [hf, decide_eq_true (by omega)]; rfl⟩, by omega, ?_⟩
      conv => whnf
      (refine GOES.cutting h0 rfl rfl rfl (by first | rfl | simp [belowO, belowH, plainLL_below, plainLL_map, plainL, plain]) ?_ ?_ <;> (repeat' (first | (with_reducible rfl) | (exact congrArg (fun n => SV.sl _ _ _ n _) (by simp)) | (exact congrArg (Hp.rows _) (by simp)) | (exact congrArg (SV.int _) (by first | omega | (simp (disch := omega) only [lnB, wrap64, wrap32] <;> omega) | (simp; done) | (simp <;> omega))) | ((conv => whnf); refine ⟨?_, ?_⟩) | exact trivial | (simp; done) | rfl)))
  · rw [rises_end hjl] at hf
    repeat' ((first | with_reducible refine IF.tt ?_ | with_reducible refine IF.ff ?_ | ((with_reducible refine NEED.mk ?_ ?_); (first | with_reducible rfl | omega | (simp (disch := omega) only [lnB, wrap64, wrap32] <;> omega) | (intro h; (try simp (disch := omega) only [hsB, hsC, lnB, wrap64, wrap32, simprocAttr] at h); (first | omega | (simp (disch := omega) only [lnB, wrap64, wrap32] <;> omega))) | (exact needApp 256 rfl rfl (by simp) (by simp) (by omega)) | (exact ⟨by omega, le_reach (by omega)⟩) | (exact ⟨by omega, by omega, le_reach (by omega)⟩) | (simp <;> omega))) | ((with_reducible apply GET.at); rfl) | ((with_reducible apply GETG.at); rfl) | ((with_reducible refine UNK.mk (fun h => ?_) ?_) <;> try (exfalso; omega)) | ((with_reducible refine IF.mk (fun h => ?_) (fun h => ?_)) <;> (try simp (disch := omega) only [hsB, hsC, lnB, wrap64, wrap32, simprocAttr] at h) <;> try (exfalso; omega))) <;> conv => whnf)
    exact FIN.valueK h0 rfl (congrArg SV.bool hf.symm)
theorem rises_does (l z : List Qd) {lim : Option Nat} (hl : QdsOK l) : Does Try.prog tab 69 1 [.sl (.loc 0) 0 16 l.length lim] [] [(0, .rows 16 ((l ++ z).map qdRow))]
    (ValK 1 (.bool (risesM l 1))) := by
  refine Does.enter tabOK (g := 69) (fn := Try.f69) Try.call69 Try.func69 rfl 5 rfl rfl [.tmp 2] rfl ?_
  intro w0 F η0 h0
  conv => whnf
  refine CALL.at [0] (risesG_does l z (lim := lim) hl) rfl rfl rfl rfl (by first | rfl | (simp only [belowO, belowH, plainLL_below _ (plainQds _), Bool.and_self, Bool.and_true] <;> rfl)) (by first | rfl | (simp only [belowO, belowH, plainLL_below _ (plainQds _), Bool.and_self, Bool.and_true] <;> rfl)) (by repeat' (first | exact trivial | exact (renH_plain _ (h := .rows _ _) (plainQds _)).symm | exact rfl | exact (renH_plain _ (h := .rows _ _) (plainQds _)).trans (renH_plain _ (h := .rows _ _) (plainQds _)).symm | ((conv => whnf); refine ⟨?_, ?_⟩))) (by repeat' (first | exact trivial | exact (renH_plain _ (h := .rows _ _) (plainQds _)).symm | exact rfl | exact (renH_plain _ (h := .rows _ _) (plainQds _)).trans (renH_plain _ (h := .rows _ _) (plainQds _)).symm | ((conv => whnf); refine ⟨?_, ?_⟩))) rfl rfl ?_
  rintro r O' nx' ⟨rfl, rfl, rfl⟩
  conv => whnf
  exact FIN.valueK h0 rfl rfl
theorem rrises_does (l z : List Qd) {lim : Option Nat} (hl : QdsOK l) : Does Try.prog tab 56 1 [.sl (.loc 0) 0 16 l.length lim] [] [(0, .rows 16 ((l ++ z).map qdRow))]
    (ValK 1 (.bool (risesM l 1))) := by
  refine Does.enter tabOK (g := 56) (fn := Try.f56) Try.call56 Try.func56 rfl 21 rfl rfl [.tmp 2] rfl ?_
  intro w0 F η0 h0
  conv => whnf
  refine LOOP.go tabOK [0] (X := Nat) (fun i => 1 ≤ i ∧ (i ≤ l.length ∨ i = 1) ∧ risesM l 1 = risesM l i) (fun i => [(3, .int .i64 (i : Int))]) (fun i => []) 1 (fun i => l.length - i) 1 ⟨by omega, by omega, rfl⟩ ?_
  conv => whnf
  refine ⟨by (refine GOES.cutting h0 rfl rfl rfl (by first | rfl | simp [belowO, belowH, plainLL_below, plainLL_map, plainL, plain]) ?_ ?_ <;> (repeat' (first | (with_reducible rfl) | (exact congrArg (fun n => SV.sl _ _ _ n _) (by simp)) | (exact congrArg (Hp.rows _) (by simp)) | (exact congrArg (SV.int _) (by first | omega | (simp (disch := omega) only [lnB, wrap64, wrap32] <;> omega) | (simp; done) | (simp <;> omega))) | ((conv => whnf); refine ⟨?_, ?_⟩) | exact trivial | (simp; done) | rfl))), ?_⟩
  rintro j ⟨hj1, hj, hf⟩
  conv => whnf
  rcases Nat.lt_or_ge j l.length with hjl | hjl
  · rw [rises_at hjl] at hf
    have hj' : (IntKind.i64.wrap ((j : Int) - 1)).toNat = j - 1 := by rw [wrap64 (by omega) (by omega)]; omega
    repeat' ((first | with_reducible refine IF.tt ?_ | with_reducible refine IF.ff ?_ | refine DRAWN.of (id := 4) tabOK mixed plRise71 (by kernel_rfl) ?_ | with_reducible refine ADD.mk (fun _ _ => ?_) | with_reducible refine NEED.mk (Det.of rfl) ?_ | refine NEED.mk (det_pos (by omega)) ?_ | with_reducible refine FORK.mk ?_ ?_ | (refine GET.at (row := qdRow (l[j]'(by omega))) (by rw [show 0 + (j : Int).toNat = j by omega]; exact qdRow_get2 (by omega)) ?_; conv => whnf) | (refine GET.at (row := qdRow (l[j - 1]'(by omega))) (by rw [show 0 + (IntKind.i64.wrap ((j : Int) - 1)).toNat = j - 1 by omega]; exact qdRow_get2 (by omega)) ?_; conv => whnf) | refine CALL.value (rqdCmp_does (l[j - 1]'(by omega)) (l[j]'(by omega))) rfl rfl ?_ | ((with_reducible refine NEED.mk ?_ ?_); (first | with_reducible rfl | omega | (simp (disch := omega) only [lnB, wrap64, wrap32] <;> omega) | (intro h; (try simp (disch := omega) only [hsB, hsC, lnB, wrap64, wrap32, simprocAttr] at h); (first | omega | (simp (disch := omega) only [lnB, wrap64, wrap32] <;> omega))) | (exact needApp 256 rfl rfl (by simp) (by simp) (by omega)) | (exact ⟨by omega, le_reach (by omega)⟩) | (exact ⟨by omega, by omega, le_reach (by omega)⟩) | (simp <;> omega))) | ((with_reducible apply GET.at); rfl) | ((with_reducible apply GETG.at); rfl) | ((with_reducible refine UNK.mk (fun h => ?_) ?_) <;> try (exfalso; omega)) | ((with_reducible refine IF.mk (fun h => ?_) (fun h => ?_)) <;> (try simp (disch := omega) only [hsB, hsC, lnB, wrap64, wrap32, simprocAttr] at h) <;> try (exfalso; omega))) <;> conv => whnf)
    · refine FIN.valueK h0 rfl (congrArg SV.bool ?_)
      rw [hf, decide_eq_false (by omega)]; rfl
    · refine ⟨j + 1, ⟨by omega, by omega, by rw [hf, decide_eq_true (by omega)]; rfl⟩, by omega, ?_⟩
      conv => whnf
      (refine GOES.cutting h0 rfl rfl rfl (by first | rfl | simp [belowO, belowH, plainLL_below, plainLL_map, plainL, plain]) ?_ ?_ <;> (repeat' (first | (with_reducible rfl) | (exact congrArg (fun n => SV.sl _ _ _ n _) (by simp)) | (exact congrArg (Hp.rows _) (by simp)) | (exact congrArg (SV.int _) (by first | omega | (simp (disch := omega) only [lnB, wrap64, wrap32] <;> omega) | (simp; done) | (simp <;> omega))) | ((conv => whnf); refine ⟨?_, ?_⟩) | exact trivial | (simp; done) | rfl)))
  · rw [rises_end hjl] at hf
    repeat' ((first | with_reducible refine IF.tt ?_ | with_reducible refine IF.ff ?_ | ((with_reducible refine NEED.mk ?_ ?_); (first | with_reducible rfl | omega | (simp (disch := omega) only [lnB, wrap64, wrap32] <;> omega) | (intro h; (try simp (disch := omega) only [hsB, hsC, lnB, wrap64, wrap32, simprocAttr] at h); (first | omega | (simp (disch := omega) only [lnB, wrap64, wrap32] <;> omega))) | (exact needApp 256 rfl rfl (by simp) (by simp) (by omega)) | (exact ⟨by omega, le_reach (by omega)⟩) | (exact ⟨by omega, by omega, le_reach (by omega)⟩) | (simp <;> omega))) | ((with_reducible apply GET.at); rfl) | ((with_reducible apply GETG.at); rfl) | ((with_reducible refine UNK.mk (fun h => ?_) ?_) <;> try (exfalso; omega)) | ((with_reducible refine IF.mk (fun h => ?_) (fun h => ?_)) <;> (try simp (disch := omega) only [hsB, hsC, lnB, wrap64, wrap32, simprocAttr] at h) <;> try (exfalso; omega))) <;> conv => whnf)
    exact FIN.valueK h0 rfl (congrArg SV.bool hf.symm)
end Go.Proofs.Ytillkgjdbnjnoaa
/- Calls walked in place, in the caller's own heap; ranges over functions, the function's walk and the rounds in one. Conditions: none. -/
set_option linter.unusedVariables false
set_option linter.unusedSimpArgs false
namespace Go.Sx
open Go
/-- The same, in another frame, and with these names for what lay there. -/
def Mx.at (M : Mx) (N : Nat) (ro : Option (Nat × Nat)) (η : Env) : Mx := ⟨M.P, ⟨M.C.T, N, M.C.S, ro⟩, M.w0, M.F, η⟩
/-- What stands at the end of a function that is walked in place. -/
def endI (M : Mx) (res : List ResultVar) (K : SV → Hps → Nat → Prop) : Post
  | .normal, fr, O, nx => offGo fr O fun O => retGo M.C fr O res fun vs => K (oneOf vs) O nx
  | .ret, fr, O, nx => offGo fr O fun O => retGo M.C fr O res fun vs => K (oneOf vs) O nx
  | .exit _, _, _, _ => STOP "exit"
/-- The arguments of a round in the slots of what is yielded. -/
def putAK : List Nat → List SV → Fr → (Fr → Prop) → Prop
  | [], ags, fr, K => match ags with
    | [] => match isDfs (lkp DS fr) with
      | true => STOP "round"
      | false => K fr
    | _ :: _ => STOP "round"
  | p :: ps, ags, fr, K => match ags with
    | a :: ags => putAK ps ags ((p, a) :: fr) K
    | [] => STOP "round"
/-- A round's end. -/
def roundB (j : Nat) (K : SV → Hps → Nat → Prop) : Post := fun e fr O nx => match lkp j O with
  | some h => match h with
    | .lp st li fr0 => match st with
      | .busy => match e with
        | .normal => setKK j (.lp .ready li fr0) O fun O => K (.bool true) O nx
        | .ret => setKK j (.lp (.left none) li fr0) O fun O => K (.bool false) O nx
        | .exit id => setKK j (.lp (.left (some id)) li fr0) O fun O => K (.bool false) O nx
      | _ => STOP "record"
    | _ => STOP "record"
  | none => STOP "record"
/-- The body of a round, behind the assignments. -/
def roundA (M : Mx) (j : Nat) (body : Code) (K : SV → Hps → Nat → Prop) : Post := fun e fr O nx => match e with
  | .normal => match lkp j O with
    | some h => match h with
      | .lp st li fr0 => match st with
        | .ready => setKK j (.lp .busy li fr0) O fun O => run M body fr O nx (roundB j K)
        | _ => STOP "record"
      | _ => STOP "record"
    | none => STOP "record"
  | _ => STOP "assignment"
/-- A frame without the calls that are put off. -/
def noDS : Fr → (Fr → Prop) → Prop
  | [], K => K []
  | (t, v) :: r, K => match Nat.beq t DS with
    | true => noDS r K
    | false => noDS r fun r => K ((t, v) :: r)
/-- The frame behind a loop: the place for what its rounds put off is marked. -/
def addDS (fr : Fr) (d : Nat) (K : Fr → Prop) : Prop := match lkp DS fr with
  | some v => match v with
    | .dfs l => K ((DS, .dfs (.ptr (.loc d) 0 0 0 :: l)) :: fr)
    | _ => K ((DS, .dfs [.ptr (.loc d) 0 0 0]) :: fr)
  | none => K ((DS, .dfs [.ptr (.loc d) 0 0 0]) :: fr)
/-- Behind the function that was ranged over: ags the rounds have left the loop. -/
def rangeK (j : Nat) (frK : (Fr → Prop) → Prop) (Q : Post) : SV → Hps → Nat → Prop := fun _ O nx => match lkp j O with
  | some h => match h with
    | .lp st _ _ => match st with
      | .ready => delKK j O fun O => frK fun fr => Q .normal fr O nx
      | .busy => STOP "record"
      | .left jump => match jump with
        | none => delKK j O fun O => frK fun fr => Q .ret fr O nx
        | some id => delKK j O fun O => frK fun fr => Q (.exit id) fr O nx
    | _ => STOP "record"
  | none => STOP "record"
section
variable {M : Mx} {η : Env} {w : World} {O : Hps} {nx : Nat}
theorem SOK.longer (h : SOK M) {η : Env} (hp : M.η0 <+: η) {N : Nat} {ro : Option (Nat × Nat)} : SOK (M.at N ro η) := by
  intro b hh hb
  have hb' : lkS M.C b = some hh := by cases b <;> exact hb
  obtain ⟨h1, h2⟩ := h b hh hb'
  obtain ⟨x, hx, _⟩ := h1.lt
  exact ⟨h1.mono hp, fun k f => h2 k (feet.less hp hx f)⟩
theorem HeapOK.at (H : HeapOK M η w O nx) {N : Nat} {ro : Option (Nat × Nat)} : HeapOK (M.at N ro η) η w O nx := ⟨List.prefix_rfl, H.len, H.own, H.fr, H.sok.longer H.pre⟩
theorem HeapOK.back {η0 : Env} {N : Nat} {ro : Option (Nat × Nat)} (H : HeapOK (M.at N ro η0) η w O nx) (hp : M.η0 <+: η0) (hs : SOK M) : HeapOK M η w O nx := ⟨hp.trans H.pre, H.len, H.own, H.fr, hs⟩
/-- What a function does, by the walk of its body in the caller's own heap. -/
theorem calls_of_run (hT : TabOK M.P M.C.T) {g : FuncId} {fn : Func} {c : Code} (hf : M.P.funcs[g]? = some fn) (hb : fn.body = some c) (N : Nat) (hN : fn.ntmps = N) (hND : N ≤ DS) {args : List SV} (hlen : args.length ≤ N) {res : List ResultVar} (hres : fn.results = res.toArray)
    {K : SV → Hps → Nat → Prop} {vs : List Value} (H : HeapOK M η w O nx) (hd : DenL η args vs) (h : run (M.at N none η) c (argFr 0 args) O nx (endI (M.at N none η) res K))
    {R : Ending → World → Prop} (hR : ∀ v r w' O' nx' η', η <+: η' → HeapOK M η' w' O' nx' → Den η' r v → K r O' nx' → R (.returned v) w') : Calls M.P g ⟨vs⟩ w R := by
  have hl := denL_len hd
  refine callsIn_wide (n := 0) |>.1 (callsIn_of_wp_marks hf hb trivial ?_)
  have hm : Models (M.at N none η) η (argFr 0 args) O nx { tmps := ⟨vs⟩ ++ Array.replicate (fn.ntmps - (Array.mk vs).size) undef, defers := [] } w := by
    refine ⟨H.at, ?_, hND, argFr_nd (Nat.le_trans hlen hND), (fun l j h => by cases h), ?_⟩
    · simp only [Array.size_append, Array.size_replicate, hN, List.size_toArray]
      show vs.length + (N - vs.length) = N
      omega
    · intro t sv ht
      obtain ⟨v, _, h1, h2⟩ := argFr_ok hd ht
      have hlt := (List.getElem?_eq_some_iff.1 h1).1
      simp only [Nat.sub_zero] at h1 hlt
      rw [Array.getD_eq_getD_getElem?, Array.getElem?_append_left (by simpa using hlt)]
      have : (Array.mk vs)[t]? = some v := by simpa using h1
      rw [this]; exact h2
  refine Code.wpIn_mono ?_ (run_sound (M := M.at N none η) hT c h η _ w hm)
  have fin : ∀ {η1 : Env} {fr1 : Fr} {O1 : Hps} {nx1 : Nat} {a : Act} {w1 : World}, Models (M.at N none η) η1 fr1 O1 nx1 a w1 → (offGo fr1 O1 fun O1 => retGo (M.at N none η).C fr1 O1 res fun vs => K (oneOf vs) O1 nx1) →
      LeavesInM Fence.wide 0 M.P fn a.tmps R a.defers .returning w1 := by
    intro η1 fr1 O1 nx1 a w1 hm1 hr
    exact end_sound (M := M.at N none η) hT hres hm1 hr fun w2 O2 v r H2 hd2 hk => hR v r w2 O2 nx1 η1 H2.pre (H2.back H.pre H.sok) hd2 hk
  intro e a w hq
  cases e with
  | normal => obtain ⟨η1, fr1, O1, nx1, hm1, hq⟩ := hq; exact fin hm1 hq
  | ret => obtain ⟨η1, fr1, O1, nx1, hm1, hq⟩ := hq; exact fin hm1 hq
  | exit id => obtain ⟨η1, fr1, O1, nx1, hm1, hq⟩ := hq; exact hq.out.elim
  | goto l => exact hq.elim
  | panic ch => exact hq.elim
  | outgrown => exact hq.elim
/-- A call, walked in place. -/
theorem CALL.inline (hT : TabOK M.P M.C.T) {f g : FuncId} {fn : Func} {c : Code} {args : List SV} {K : SV → Hps → Nat → Prop} (hcall : ∀ args w, (callFunc f args).run M.P w = .ok (.enter g args) w) (hf : M.P.funcs[g]? = some fn) (hb : fn.body = some c) (N : Nat) (hN : fn.ntmps = N)
    (hlen : Nat.ble args.length N = true) (res : List ResultVar) (hres : fn.results = res.toArray) (h : ∀ η0 : Env, η0.length = nx → run (M.at N none η0) c (argFr 0 args) O nx (endI (M.at N none η0) res K)) (hND : Nat.ble N DS = true := by rfl) : CALL M f args O nx K :=
  ⟨fun η w vs H hd => .inl ⟨g, hcall _ _, calls_of_run hT hf hb N hN (Nat.le_of_ble_eq_true hND) (Nat.le_of_ble_eq_true hlen) hres H hd (h η H.len) fun v r w' O' nx' η' hp H' hd' hk => ⟨v, rfl, r, O', nx', η', hp, H', hd', hk⟩⟩⟩
/-! ### Rounds -/
def setAll : List Nat → List Value → Array Value → Array Value
  | p :: ps, v :: vs, t => setAll ps vs (t.setIfInBounds p v)
  | _, _, t => t
theorem foldl_setAll : ∀ (ps : List Nat) (vs : List Value) (t : Array Value), ((ps.toArray.zip ⟨vs⟩).foldl (fun tmps (p : Nat × Value) => tmps.setIfInBounds p.1 p.2) t) = setAll ps vs t := by
  intro ps vs t
  have h1 : (ps.toArray.zip ⟨vs⟩ : Array (Nat × Value)) = (ps.zip vs).toArray := by simp
  rw [h1, ← Array.foldl_toList]
  simp only
  induction ps generalizing vs t with
  | nil => simp [setAll]
  | cons p ps ih =>
    cases vs with
    | nil => simp [setAll]
    | cons v vs =>
      simp only [List.zip_cons_cons, List.foldl_cons, setAll]
      exact ih vs (t.setIfInBounds p v) (by simp)
theorem setAll_size : ∀ (ps : List Nat) (vs : List Value) (t : Array Value), (setAll ps vs t).size = t.size
  | [], vs, t => by simp [setAll]
  | p :: ps, [], t => by simp [setAll]
  | p :: ps, v :: vs, t => by simp only [setAll]; rw [setAll_size ps vs]; simp
theorem putAK_ok {η : Env} : ∀ {ps : List Nat} {ags : List SV} {fr : Fr} {K : Fr → Prop} {vs : List Value} {t : Array Value}, putAK ps ags fr K → DenL η ags vs → TmpsOK η t fr → (∀ p ∈ ps, p < t.size) → ∃ fr', K fr' ∧ isDfs (lkp DS fr') = false ∧ TmpsOK η (setAll ps vs t) fr' ∧ vs.length = ps.length
  | [], ags, fr, K, vs, t, h, hd, ht, hp => by
    simp only [putAK] at h
    split at h
    · split at h
      · exact h.out.elim
      · rename_i hn
        simp only [DenL] at hd
        subst hd
        exact ⟨fr, h, hn, ht, rfl⟩
    · exact h.out.elim
  | p :: ps, ags, fr, K, vs, t, h, hd, ht, hp => by
    simp only [putAK] at h
    split at h
    · rename_i a ags
      simp only [DenL] at hd
      obtain ⟨u, us, rfl, h1, h2⟩ := hd
      have hpt := hp p (List.mem_cons_self ..)
      obtain ⟨fr', h3, h4, h5, h6⟩ := putAK_ok (t := t.setIfInBounds p u) h h2 (fun s sv hs => by
        rw [lkp_cons] at hs
        split at hs
        · rename_i e; subst e; injection hs with hs; subst hs
          simpa [Array.getD_eq_getD_getElem?, Array.getElem?_setIfInBounds, hpt] using h1
        · rename_i e
          rw [Array.getD_eq_getD_getElem?, Array.getElem?_setIfInBounds, if_neg (Ne.symm e), ← Array.getD_eq_getD_getElem?]
          exact ht s sv hs) (fun q hq => by rw [Array.size_setIfInBounds]; exact hp q (List.mem_cons_of_mem _ hq))
      exact ⟨fr', h3, h4, h5, by simp [h6]⟩
    · exact h.out.elim
/-- The record is turned. -/
theorem HeapOK.record (H : HeapOK M η w O nx) {j : Nat} {st st' : LpS} {li : LpI} {fr0 : Fr} (hj : lkp j O = some (.lp st li fr0)) {e : Ent} (he : η[j]? = some (some e)) :
    ∃ r, w.heap[e.g]? = some (.loop r) ∧ r.state = st.state ∧ r.pending = st.jump ∧ ∀ r' : Loop, r'.state = st'.state → r'.pending = st'.jump → r'.params = r.params → r'.assign = r.assign → r'.body = r.body → r'.tmps = r.tmps → HeapOK M η (w.putObj e.g (.loop r')) (setK j (.lp st' li fr0) O) nx := by
  have hs := (H.own.1 j _ hj).1
  simp only [HpSat] at hs
  obtain ⟨e', r, h1, h2, h3, h4, h5, h6, h7, h8, h9, h10⟩ := hs
  have h1' : η[j]? = some (some e') := h1
  rw [he] at h1'
  injection h1' with h1'
  injection h1' with h1'
  subst h1'
  have hlt := (Array.getElem?_eq_some_iff.1 h3).1
  refine ⟨r, h3, h4, h5, fun r' q1 q2 q3 q4 q5 q6 => ?_⟩
  refine H.upd hj he (fun k hk => World.putObj_heap_other hk) World.putObj_size rfl rfl rfl ?_
  simp only [HpSat]
  exact ⟨e, r', h1, h2, World.putObj_heap_same hlt, q1, q2, by rw [q3]; exact h6, by rw [q4]; exact h7, by rw [q5]; exact h8, by rw [q6]; exact h9, by rw [q6]; exact h10⟩
/-- A round: the assignments and the body are walked in place, in the frame with which the loop was come to. -/
theorem YIELD.of (hT : TabOK M.P M.C.T) {j : Nat} {li : LpI} {fr0 : Fr} {args : List SV} {K : SV → Hps → Nat → Prop} (hj : lkp j O = some (.lp .ready li fr0)) (hps : li.ps.all (fun p => Nat.blt p li.N) = true) (hND : Nat.ble li.N DS = true)
    (h : ∀ (η1 : Env) (l : Nat), η1.length = nx → putAK li.ps args fr0 fun fr => run (M.at li.N (some (l, j)) η1) li.asg fr O nx (roundA (M.at li.N (some (l, j)) η1) j li.body K)) : YIELD M j args O nx K := by
  refine ⟨fun η w vs e H hd he => ?_⟩
  obtain ⟨r, hr, hst, hpe, _⟩ := H.record (st' := .ready) hj he
  have hs := (H.own.1 j _ hj).1
  simp only [HpSat] at hs
  obtain ⟨e', r', h1, h2, h3, h4, h5, h6, h7, h8, h9, h10⟩ := hs
  have h1' : η[j]? = some (some e') := h1
  rw [he] at h1'
  injection h1' with h1'
  injection h1' with h1'
  subst h1'
  rw [hr] at h3
  injection h3 with h3
  injection h3 with h3
  subst h3
  obtain ⟨fr, hrun, hnd, htm, hlen⟩ := putAK_ok (h η e.g H.len) hd h10 (fun p hp => by rw [h9]; simpa [Nat.blt_eq] using List.all_eq_true.1 hps p hp)
  have hpr : r.params = li.ps.toArray := by rw [← h6]
  refine ⟨r.fn, _, r.assign, r.body, run_yield hr (by rw [hpr]; simpa using hlen), ?_⟩
  rw [h7, h8]
  have hfold : ((r.params.zip ⟨vs⟩).foldl (fun tmps (x : Nat × Value) => tmps.setIfInBounds x.1 x.2) r.tmps) = setAll li.ps vs r.tmps := by rw [hpr]; exact foldl_setAll li.ps vs r.tmps
  have hfold' : ((r.params.zip ⟨vs⟩).foldl (fun tmps x => match x with | (t, a) => tmps.setIfInBounds t a) r.tmps) = setAll li.ps vs r.tmps := hfold
  rw [hfold']
  generalize hMr : M.at li.N (some (e.g, j)) η = Mr at hrun
  have hTr : TabOK Mr.P Mr.C.T := by subst hMr; exact hT
  have hPr : Mr.P = M.P := by subst hMr; rfl
  have hfr : Mr.fence = Fence.wide.inRound e.g := by subst hMr; rfl
  have hm : Models Mr η fr O nx { tmps := setAll li.ps vs r.tmps, defers := [] } w := by
    subst hMr
    refine ⟨H.at, by rw [setAll_size]; exact h9, Nat.le_of_ble_eq_true hND, (DfOK.no hnd).2 rfl, fun l' j' hl => ?_, htm⟩
    injection hl with hl
    injection hl with hl1 hl2
    subst hl1 hl2
    exact ⟨e, he, rfl⟩
  refine roundIn_of_wpIn trivial ?_
  rw [← hPr, ← hfr]
  refine Code.wpIn_mono ?_ (run_sound hTr li.asg hrun η _ w hm)
  intro ex a1 w1 hq
  cases ex with
  | exit id => obtain ⟨η1, fr1, O1, nx1, hm1, hq⟩ := hq; exact hq.out.elim
  | ret => obtain ⟨η1, fr1, O1, nx1, hm1, hq⟩ := hq; exact hq.out.elim
  | goto l => exact hq.elim
  | panic ch => exact hq.elim
  | outgrown => exact hq.elim
  | normal =>
    obtain ⟨η1, fr1, O1, nx1, hm1, hq⟩ := hq
    simp only [roundA] at hq
    split at hq
    case h_2 => exact hq.out.elim
    rename_i hh hj1
    split at hq
    case h_2 => exact hq.out.elim
    rename_i st1 li1 fr01
    split at hq
    case h_2 => exact hq.out.elim
    rw [setKK_iff] at hq
    obtain ⟨e1, he1, heg⟩ := hm1.ro e.g j (by subst hMr; rfl)
    obtain ⟨r1, hr1, hs1, hp1, hup1⟩ := hm1.heap.record (st' := .busy) hj1 he1
    rw [heg] at hr1 hup1
    refine ⟨_, run_beginRound hr1 hs1, ?_⟩
    have hm2 : Models Mr η1 fr1 (setK j (.lp .busy li1 fr01) O1) nx1 a1 (w1.putObj e.g (.loop { r1 with state := .busy })) := ⟨hup1 _ rfl hp1 rfl rfl rfl rfl, hm1.size, hm1.nds, hm1.defers, hm1.ro, hm1.frame⟩
    refine Code.wpIn_mono ?_ (run_sound hTr li.body hq η1 a1 _ hm2)
    -- the end of the round
    have fin : ∀ {ex : Ex} {η2 : Env} {fr2 : Fr} {O2 : Hps} {nx2 : Nat} {a2 : Act} {w2 : World} (jump : Option Code), Models Mr η2 fr2 O2 nx2 a2 w2 → roundB j K ex fr2 O2 nx2 → (match ex with | .normal => jump = none | .ret => jump = some .ret | .exit id => jump = some (.exit id)) →
        ∃ v w', (Instr.endRound e.g jump).run Mr.P w2 = .ok v w' ∧ ∃ v', Ending.returned v = .returned v' ∧ ∃ r O' nx' η', η <+: η' ∧ HeapOK M η' w' O' nx' ∧ Den η' r v' ∧ K r O' nx' := by
      intro ex η2 fr2 O2 nx2 a2 w2 jump hm2 hq hj'
      unfold roundB at hq
      split at hq
      case h_2 => exact hq.out.elim
      rename_i hh hj2
      split at hq
      case h_2 => exact hq.out.elim
      rename_i st2 li2 fr02
      split at hq
      case h_2 => exact hq.out.elim
      obtain ⟨e2, he2, heg2⟩ := hm2.ro e.g j (by subst hMr; rfl)
      have hpre : η <+: η2 := by have := hm2.heap.pre; subst hMr; exact this
      have back : ∀ {w' : World} {O' : Hps}, HeapOK Mr η2 w' O' nx2 → HeapOK M η2 w' O' nx2 := fun h => by subst hMr; exact h.back H.pre H.sok
      cases ex with
      | normal =>
        simp only at hj'
        subst hj'
        simp only [setKK_iff] at hq
        obtain ⟨r2, hr2, hs2, hp2, hup2⟩ := hm2.heap.record (st' := .ready) hj2 he2
        rw [heg2] at hr2 hup2
        exact ⟨_, _, run_endRound none hr2, _, rfl, .bool true, _, _, η2, hpre, back (hup2 _ rfl rfl rfl rfl rfl rfl), (by simp only [Den]; rfl), hq⟩
      | ret =>
        simp only at hj'
        subst hj'
        simp only [setKK_iff] at hq
        obtain ⟨r2, hr2, hs2, hp2, hup2⟩ := hm2.heap.record (st' := .left none) hj2 he2
        rw [heg2] at hr2 hup2
        exact ⟨_, _, run_endRound (some .ret) hr2, _, rfl, .bool false, _, _, η2, hpre, back (hup2 _ rfl rfl rfl rfl rfl rfl), (by simp only [Den]; rfl), hq⟩
      | exit id =>
        simp only at hj'
        subst hj'
        simp only [setKK_iff] at hq
        obtain ⟨r2, hr2, hs2, hp2, hup2⟩ := hm2.heap.record (st' := .left (some id)) hj2 he2
        rw [heg2] at hr2 hup2
        exact ⟨_, _, run_endRound (some (.exit id)) hr2, _, rfl, .bool false, _, _, η2, hpre, back (hup2 _ rfl rfl rfl rfl rfl rfl), (by simp only [Den]; rfl), hq⟩
    intro ex a2 w2 hq2
    cases ex with
    | normal => obtain ⟨η2, fr2, O2, nx2, hm2, hq2⟩ := hq2; exact fin none hm2 hq2 rfl
    | ret => obtain ⟨η2, fr2, O2, nx2, hm2, hq2⟩ := hq2; exact fin (some .ret) hm2 hq2 rfl
    | exit id => obtain ⟨η2, fr2, O2, nx2, hm2, hq2⟩ := hq2; exact fin (some (.exit id)) hm2 hq2 rfl
    | goto l => exact hq2.elim
    | panic ch => exact hq2.elim
    | outgrown => exact hq2.elim
/-! ### The statement -/
theorem noDS_ok {K : Fr → Prop} : ∀ {fr : Fr}, noDS fr K → ∃ fr0, K fr0 ∧ lkp DS fr0 = none ∧ ∀ t v, lkp t fr0 = some v → lkp t fr = some v
  | [], h => ⟨[], h, rfl, fun t v h => h⟩
  | (d, u) :: r, h => by
    unfold noDS at h
    split at h
    · rename_i e
      have e := beq_eq e
      obtain ⟨fr0, h1, h0, h2⟩ := noDS_ok h
      refine ⟨fr0, h1, h0, fun t v ht => ?_⟩
      rw [lkp_cons]
      split
      · rename_i e2
        rw [e2, e, h0] at ht; cases ht
      · exact h2 t v ht
    · rename_i e
      have e := ne_of_beq e
      obtain ⟨fr0, h1, h0, h2⟩ := noDS_ok h
      refine ⟨(d, u) :: fr0, h1, by rw [lkp_cons, if_neg (Ne.symm e)]; exact h0, fun t v ht => ?_⟩
      rw [lkp_cons] at ht ⊢
      split
      · rename_i e; rw [if_pos e] at ht; exact ht
      · rename_i e; rw [if_neg e] at ht; exact h2 t v ht
theorem range_core (hT : TabOK M.P M.C.T) {gf g : FuncId} {fn : Func} {c : Code} {cap : List SV} (hcall : ∀ args w, (callFunc gf args).run M.P w = .ok (.enter g args) w) (hf : M.P.funcs[g]? = some fn) (hb : fn.body = some c) (N : Nat) (hN : fn.ntmps = N) (hND : N ≤ DS) (hlen : cap.length + 1 ≤ N) (hres : fn.results = #[])
    {f : Operand} {Q : Post} {a a' : Act} {η1 : Env} {w1 : World} {O1 : Hps} {n1 j l : Nat} (hev : ∃ vs, a.eval f = .func (.func gf) #[] ⟨vs⟩ ∧ DenL η1 cap vs) (H1 : HeapOK M η1 w1 O1 n1) (hj : η1[j]? = some (some ⟨l, 0, 0⟩)) {frK : (Fr → Prop) → Prop}
    (hfrK : ∀ {K : Fr → Prop}, frK K → ∃ fr', K fr' ∧ ∀ η' w' O' nx', η1 <+: η' → HeapOK M η' w' O' nx' → Models M η' fr' O' nx' a' w')
    (h : run (M.at N none η1) c (argFr 0 (.yf (.loc j) :: cap)) O1 n1 (endI (M.at N none η1) [] (rangeK j frK Q))) :
    ∃ (d : Deferred) (w1' : World) (f' : FuncId) (args : Array Value) (w2 : World), (resolve a.eval (rangeCall f l) 0).run M.P w1 = .ok d w1' ∧ (∀ f', Target.leads M.P w1' d.target d.args = some f' → M.fence.fn f') ∧ (invoke d.target d.args).run M.P w1' = .ok (.enter f' args) w2 ∧
      (M.fence.depth.isSome = true → 1 ≤ 0) ∧ CallsIn M.fence (0 - 1) M.P f' args w2 (rangePost M.fence 0 M.P l (liftQ M Q) a') := by
  obtain ⟨vs, hv, hd⟩ := hev
  refine ⟨{ target := .fn (.func gf) ⟨vs⟩, args := #[.func (.yield l) #[] #[]] }, w1, g, #[.func (.yield l) #[] #[]] ++ ⟨vs⟩, w1, ?_, fun f' _ => M.all f', ?_, (fun h => by cases h), ?_⟩
  · simp only [resolve, hv]
    simp [go_sem]
  · simp [invoke, go_sem, hcall]
  · have hargs : (#[.func (.yield l) #[] #[]] ++ (⟨vs⟩ : Array Value)) = ⟨Value.func (.yield l) #[] #[] :: vs⟩ := by apply Array.ext'; simp
    rw [hargs]
    have hd1 : DenL η1 (.yf (.loc j) :: cap) (Value.func (.yield l) #[] #[] :: vs) := by
      simp only [DenL, Den]
      exact ⟨_, _, rfl, ⟨_, hj, rfl⟩, hd⟩
    refine callsIn_wide.2 (calls_of_run hT hf hb N hN hND (by simpa using hlen) (by simpa using hres) H1 hd1 h fun v r w' O' nx' η' hp H' hd' hk => ?_)
    unfold rangeK at hk
    split at hk
    case h_2 => exact hk.out.elim
    rename_i hh hj'
    split at hk
    case h_2 => exact hk.out.elim
    rename_i st li fr0
    have hje : η'[j]? = some (some ⟨l, 0, 0⟩) := Env.get_mono (b := .loc j) hp hj
    obtain ⟨r1, hr1, hs1, hp1, _⟩ := H'.record (st' := .ready) hj' hje
    obtain ⟨s1, p1, c1, c2, c3, c4, c5, c6⟩ := r1
    simp only at hr1 hs1 hp1
    subst hs1 hp1
    have hdrop : HeapOK M η' (w'.putObj l (.loop { state := .exhausted, pending := st.jump, fn := c1, tmps := c2, params := c3, assign := c4, body := c5, defers := c6 })) (delK j O') nx' := H'.drop hj' hje (fun k hk => World.putObj_heap_other hk) World.putObj_size rfl rfl rfl (Nat.le_refl _)
    split at hk
    · rw [delKK_iff] at hk
      obtain ⟨fr', h1, h2⟩ := hfrK hk
      exact ⟨_, _, run_endLoop hr1 (by simp [LpS.state]), ⟨η', fr', _, nx', h2 η' _ _ _ hp hdrop, h1⟩⟩
    · exact hk.out.elim
    · split at hk
      · rw [delKK_iff] at hk
        obtain ⟨fr', h1, h2⟩ := hfrK hk
        exact ⟨_, _, run_endLoop hr1 (by simp [LpS.state]), wpIn_ret ⟨η', fr', _, nx', h2 η' _ _ _ hp hdrop, h1⟩⟩
      · rw [delKK_iff] at hk
        obtain ⟨fr', h1, h2⟩ := hfrK hk
        exact ⟨_, _, run_endLoop hr1 (by simp [LpS.state]), wpIn_exit ⟨η', fr', _, nx', h2 η' _ _ _ hp hdrop, h1⟩⟩
theorem addDS_ok {fr : Fr} {d : Nat} {K : Fr → Prop} (h : addDS fr d K) : ∃ l, K ((DS, .dfs (.ptr (.loc d) 0 0 0 :: l)) :: fr) ∧ ∀ {η : Env} {ds : List Deferred}, DfOK η ds (lkp DS fr) → DfL η l ds := by
  unfold addDS at h
  split at h
  · rename_i v hv
    split at h
    · rename_i l
      exact ⟨l, h, fun hd => by rw [hv] at hd; exact hd⟩
    · rename_i hn
      refine ⟨[], h, fun hd => ?_⟩
      rw [hv] at hd
      have : isDfs (some v) = false := by cases v <;> first | rfl | exact (hn _ rfl).elim
      rw [DfOK.no this] at hd
      subst hd; rfl
  · rename_i hv
    refine ⟨[], h, fun hd => ?_⟩
    rw [hv] at hd
    have hd : _ = [] := hd
    subst hd; rfl
/-- A range over a function that stands in no round: it and its rounds are walked in one. -/
theorem RANGEF.of (hT : TabOK M.P M.C.T) {f : Operand} {ps : Array Tmp} {asg body : Code} {fr : Fr} {Q : Post} {gf g : FuncId} {cap : List SV} {fn : Func} {c : Code} (hcall : ∀ args w, (callFunc gf args).run M.P w = .ok (.enter g args) w) (hf : M.P.funcs[g]? = some fn) (hb : fn.body = some c) (N : Nat) (hN : fn.ntmps = N)
    (li : LpI) (hli : li = ⟨M.C.N, ps.toList, asg, body⟩) (hv : lookF fr f = some (.fn (.func gf) [] cap)) (hlen : Nat.ble (cap.length + 1) N = true) (hres : fn.results = #[]) (hro : M.C.ro = none)
    (h : noDS fr fun fr0 => ∀ η1 : Env, η1.length = nx + 2 → run (M.at N none η1) c (argFr 0 (.yf (.loc (nx + 1)) :: cap)) ((nx + 1, .lp .ready li fr0) :: (nx, .dfr) :: O) (nx + 2) (endI (M.at N none η1) [] (rangeK (nx + 1) (addDS fr nx) Q))) (hND : Nat.ble N DS = true := by rfl) : RANGEF M f ps asg body fr O nx Q := by
  obtain ⟨fr0, h, _, hfr0⟩ := noDS_ok h
  refine ⟨fun η a w hm => wpIn_rangeFunc fun fnid _ => ?_⟩
  have hround : M.fence.round = none := by simp [Mx.fence, hro]
  rw [hround]
  obtain ⟨rec, hrec⟩ : ∃ rec : Loop, rec = { state := .ready, pending := none, fn := fnid, tmps := a.tmps, params := ps, assign := asg, body, defers := w.heap.size } := ⟨_, rfl⟩
  have hl := hm.heap.len
  obtain ⟨η1, hη1⟩ : ∃ η1 : Env, η1 = η ++ [some ⟨w.heap.size, 0, 0⟩] := ⟨_, rfl⟩
  have H1 : HeapOK M η1 (w.alloc (.deferred (some []))) ((nx, .dfr) :: O) (nx + 1) := by
    rw [hη1]
    refine hm.heap.alloc (w' := w.alloc (.deferred (some []))) (o := .deferred (some [])) (h := .dfr) rfl rfl rfl rfl 0 0 ?_
    simp only [HpSat]
    exact ⟨⟨w.heap.size, 0, 0⟩, by simp [Env.get, ← hl], rfl, World.alloc_heap_new w _⟩
  have hl1 := H1.len
  obtain ⟨η2, hη2⟩ : ∃ η2 : Env, η2 = η1 ++ [some ⟨w.heap.size + 1, 0, 0⟩] := ⟨_, rfl⟩
  have hsz : (w.alloc (.deferred (some []))).heap.size = w.heap.size + 1 := World.size_alloc _ _
  have hpre : η <+: η2 := by rw [hη2, hη1, List.append_assoc]; exact List.prefix_append _ _
  have hj2 : η2[nx + 1]? = some (some ⟨w.heap.size + 1, 0, 0⟩) := by rw [hη2, ← hl1]; simp
  have hd2 : η2[nx]? = some (some ⟨w.heap.size, 0, 0⟩) := by
    rw [hη2, List.getElem?_append_left (by omega), hη1, ← hl]; simp
  have H2 : HeapOK M η2 ((w.alloc (.deferred (some []))).alloc (.loop rec)) ((nx + 1, .lp .ready li fr0) :: (nx, .dfr) :: O) (nx + 2) := by
    have := H1.alloc (w' := (w.alloc (.deferred (some []))).alloc (.loop rec)) (o := .loop rec) (h := .lp .ready li fr0) rfl rfl rfl rfl 0 0 (by
      rw [hsz, ← hη2]
      simp only [HpSat]
      refine ⟨_, rec, hj2, rfl, by rw [← hsz]; exact World.alloc_heap_new _ _, ?_⟩
      subst hrec hli
      exact ⟨rfl, rfl, rfl, rfl, rfl, hm.size, fun t sv ht => (hm.frame t sv (hfr0 t sv ht)).mono hpre⟩)
    rw [hsz, ← hη2] at this
    exact this
  have hev : ∃ vs, a.eval f = .func (.func gf) #[] ⟨vs⟩ ∧ DenL η2 cap vs := by
    have := lookF_den hm.frame hv
    simp only [Den, DenL] at this
    obtain ⟨us, vs, h1, rfl, h3⟩ := this
    exact ⟨vs, h1, h3.mono hpre⟩
  obtain ⟨d, w1', f', args, w2, q1, q2, q3, q4, q5⟩ := range_core (a' := { a with defers := [{ target := .collected w.heap.size, args := #[] }] ++ a.defers }) hT hcall hf hb N hN (Nat.le_of_ble_eq_true hND) (Nat.le_of_ble_eq_true hlen) hres hev H2 hj2 (frK := addDS fr nx) (fun {K} hk => by
    obtain ⟨l, h1, h2⟩ := addDS_ok hk
    refine ⟨_, h1, fun η' w' O' nx' hp H' => ⟨H', hm.size, hm.nds, ?_, ro_mono (hpre.trans hp) hm.ro, fun t sv ht => ?_⟩⟩
    · rw [lkp_cons, if_pos rfl]
      exact ⟨⟨w.heap.size, 0, 0⟩, a.defers, Env.get_mono (b := .loc nx) hp hd2, rfl, h2 (hm.defers.mono (hpre.trans hp))⟩
    · rw [lkp_cons] at ht
      split at ht
      · injection ht with ht; subst ht; simp only [Den]
      · exact (hm.frame t sv ht).mono (hpre.trans hp)) (h η2 H2.len)
  refine ⟨w.heap.size + 1, [{ target := .collected w.heap.size, args := #[] }], _, d, w1', f', args, w2, run_enterLoop_outer _ _ _ _ _, ?_, q2, q3, q4, q5⟩
  rw [hrec] at q1
  exact q1
/-- A range over a function within a round. -/
theorem RANGEF.within (hT : TabOK M.P M.C.T) {f : Operand} {ps : Array Tmp} {asg body : Code} {fr : Fr} {Q : Post} {gf g : FuncId} {cap : List SV} {fn : Func} {c : Code} (hcall : ∀ args w, (callFunc gf args).run M.P w = .ok (.enter g args) w) (hf : M.P.funcs[g]? = some fn) (hb : fn.body = some c) (N : Nat) (hN : fn.ntmps = N)
    (li : LpI) (hli : li = ⟨M.C.N, ps.toList, asg, body⟩) (hv : lookF fr f = some (.fn (.func gf) [] cap)) (hlen : Nat.ble (cap.length + 1) N = true) (hres : fn.results = #[]) {l0 j0 : Nat} (hro : M.C.ro = some (l0, j0)) {st0 : LpS} {li0 : LpI} {fr00 : Fr} (hj0 : lkp j0 O = some (.lp st0 li0 fr00))
    (h : noDS fr fun fr0 => ∀ η1 : Env, η1.length = nx + 1 → run (M.at N none η1) c (argFr 0 (.yf (.loc nx) :: cap)) ((nx, .lp .ready li fr0) :: O) (nx + 1) (endI (M.at N none η1) [] (rangeK nx (fun K => K fr) Q))) (hND : Nat.ble N DS = true := by rfl) : RANGEF M f ps asg body fr O nx Q := by
  obtain ⟨fr0, h, _, hfr0⟩ := noDS_ok h
  refine ⟨fun η a w hm => wpIn_rangeFunc fun fnid _ => ?_⟩
  have hround : M.fence.round = some l0 := by simp [Mx.fence, hro]
  rw [hround]
  obtain ⟨e0, he0, rfl⟩ := hm.ro l0 j0 hro
  obtain ⟨r0, hr0, _⟩ := hm.heap.record (st' := .ready) hj0 he0
  obtain ⟨rec, hrec⟩ : ∃ rec : Loop, rec = { state := .ready, pending := none, fn := fnid, tmps := a.tmps, params := ps, assign := asg, body, defers := r0.defers } := ⟨_, rfl⟩
  have hl := hm.heap.len
  obtain ⟨η2, hη2⟩ : ∃ η2 : Env, η2 = η ++ [some ⟨w.heap.size, 0, 0⟩] := ⟨_, rfl⟩
  have hpre : η <+: η2 := by rw [hη2]; exact List.prefix_append _ _
  have hj2 : η2[nx]? = some (some ⟨w.heap.size, 0, 0⟩) := by rw [hη2, ← hl]; simp
  have H2 : HeapOK M η2 (w.alloc (.loop rec)) ((nx, .lp .ready li fr0) :: O) (nx + 1) := by
    rw [hη2]
    refine hm.heap.alloc (w' := w.alloc (.loop rec)) (o := .loop rec) (h := .lp .ready li fr0) rfl rfl rfl rfl 0 0 ?_
    rw [← hη2]
    simp only [HpSat]
    refine ⟨_, rec, hj2, rfl, World.alloc_heap_new _ _, ?_⟩
    subst hrec hli
    exact ⟨rfl, rfl, rfl, rfl, rfl, hm.size, fun t sv ht => (hm.frame t sv (hfr0 t sv ht)).mono hpre⟩
  have hev : ∃ vs, a.eval f = .func (.func gf) #[] ⟨vs⟩ ∧ DenL η2 cap vs := by
    have := lookF_den hm.frame hv
    simp only [Den, DenL] at this
    obtain ⟨us, vs, h1, rfl, h3⟩ := this
    exact ⟨vs, h1, h3.mono hpre⟩
  obtain ⟨d, w1', f', args, w2, q1, q2, q3, q4, q5⟩ := range_core (a' := { a with defers := [] ++ a.defers }) hT hcall hf hb N hN (Nat.le_of_ble_eq_true hND) (Nat.le_of_ble_eq_true hlen) hres hev H2 hj2 (frK := fun K => K fr) (fun {K} hk =>
    ⟨_, hk, fun η' w' O' nx' hp H' => ⟨H', hm.size, hm.nds, hm.defers.mono (hpre.trans hp), ro_mono (hpre.trans hp) hm.ro, fun t sv ht => (hm.frame t sv ht).mono (hpre.trans hp)⟩⟩) (h η2 H2.len)
  refine ⟨w.heap.size, [], _, d, w1', f', args, w2, run_enterLoop_inner hr0 _ _ _ _ _, ?_, q2, q3, q4, q5⟩
  rw [hrec] at q1
  exact q1
end
theorem FIN.weak {M : Mx} {O O1 : Hps} {nx n1 : Nat} {r r1 : SV} {Q : SV → Hps → Nat → Prop} (h : ∀ η w v, HeapOK M η w O nx → Den η r v → ∃ η', η <+: η' ∧ HeapOK M η' w O1 n1 ∧ Den η' r1 v) (hf : FIN M O1 n1 r1 Q) : FIN M O nx r Q :=
  ⟨fun η w v H hd => let ⟨η1, h1, h2, h3⟩ := h η w v H hd; hf.out η1 w v h2 h3⟩
theorem FIN.nil {M : Mx} {O : Hps} {nx : Nat} {Q : SV → Hps → Nat → Prop} (es : Nat) (hf : FIN M ((nx, .rows es []) :: O) (nx + 1) (.sl (.loc nx) 0 es 0 none) Q) : FIN M O nx (.val (.slice none 0 0)) Q := by
  refine FIN.weak (fun η w v H hd => ?_) hf
  have hnew : (η ++ [none])[nx]? = some none := by rw [List.getElem?_append_right (by rw [H.len]; omega), H.len]; simp
  refine ⟨η ++ [none], List.prefix_append _ _, H.push none (fun _ _ => rfl) (Nat.le_refl _) rfl rfl rfl (Nat.le_refl _) (.inl ⟨hnew, rfl⟩) (fun k f => (feet.none (b := .loc nx) hnew f).elim) (fun k f => (feet.none (b := .loc nx) hnew f).elim), ?_⟩
  simp only [Den] at hd ⊢
  exact .inl ⟨hnew, hd.1, trivial⟩
theorem FIN.nilCell {M : Mx} {O : Hps} {nx : Nat} {r : SV} {Q : SV → Hps → Nat → Prop} (i j es : Nat) {row row' : List SV} (hi : lkp i O = some (.box row)) (hr : nilAt nx es j row = some row') (hf : FIN M ((nx, .rows es []) :: setK i (.box row') O) (nx + 1) r Q) : FIN M O nx r Q :=
  FIN.weak (fun η w v H hd => let ⟨η', h1, h2⟩ := H.nilCell hi hr; ⟨η', h1, h2, Den.mono h1 hd⟩) hf
/-- A tuple whose head is a nil slice: by a name of its own. -/
theorem FIN.nilT {M : Mx} {O : Hps} {nx : Nat} {Q : SV → Hps → Nat → Prop} (es : Nat) {vs : List SV} (hf : FIN M ((nx, .rows es []) :: O) (nx + 1) (.tup (.sl (.loc nx) 0 es 0 none :: vs)) Q) : FIN M O nx (.tup (.val (.slice none 0 0) :: vs)) Q := by
  refine FIN.weak (fun η w v H hd => ?_) hf
  have hnew : (η ++ [none])[nx]? = some none := by rw [List.getElem?_append_right (by rw [H.len]; omega), H.len]; simp
  refine ⟨η ++ [none], List.prefix_append _ _, H.push none (fun _ _ => rfl) (Nat.le_refl _) rfl rfl rfl (Nat.le_refl _) (.inl ⟨hnew, rfl⟩) (fun k f => (feet.none (b := .loc nx) hnew f).elim) (fun k f => (feet.none (b := .loc nx) hnew f).elim), ?_⟩
  simp only [Den, DenL] at hd ⊢
  obtain ⟨xs, h1, u, us, h2, h3, h4⟩ := hd
  exact ⟨xs, h1, u, us, h2, .inl ⟨hnew, h3.1, trivial⟩, h4.mono (List.prefix_append _ _)⟩
theorem le_reach {O : Hps} {b : Blk} {r len : Nat} {lim : Option Nat} {n : Nat} (h : n ≤ len) : (n : Int) ≤ (reach O b r len lim : Nat) := by
  have : len ≤ reach O b r len lim := by
    unfold reach
    split
    · exact Nat.le_refl _
    · split
      · exact Nat.le_max_left _ _
      · exact Nat.le_refl _
  omega
theorem det_pos {b : Blk} {r es len : Nat} {lim : Option Nat} (h : 0 < len) : Det (.sl b r es len lim) := by
  intro η u u' h1 h2
  simp only [Den] at h1 h2
  rcases h1 with ⟨_, _, h0⟩ | ⟨e, o, g1, rfl, g3, g4, g5⟩
  · omega
  rcases h2 with ⟨_, _, h0⟩ | ⟨e', o', k1, rfl, k3, k4, k5⟩
  · omega
  rw [g1] at k1
  injection k1 with k1
  injection k1 with k1
  subst k1
  rw [g5 (.inl (by omega)), k5 (.inl (by omega))]
end Go.Sx
/- Loops that leave most of the heap alone. Conditions: none. -/
set_option linter.unusedVariables false
set_option linter.unusedSimpArgs false
namespace Go.Sx
open Go
/-- What stays of a heap, by names. -/
def keepHK : List Nat → Hps → (Hps → Prop) → Prop
  | [], _, K => K []
  | i :: is, O, K => match lkp i O with
    | some h => keepHK is O fun r => K ((i, h) :: r)
    | none => STOP "kept"
def appHK : Hps → Hps → (Hps → Prop) → Prop
  | [], r, K => K r
  | (i, h) :: l, r, K => appHK l r fun r => K ((i, h) :: r)
theorem keepHK_iff : ∀ {ts : List Nat} {O : Hps} {K : Hps → Prop}, keepHK ts O K → ∃ r, K r
  | [], O, K, h => ⟨_, h⟩
  | t :: ts, O, K, h => by
    simp only [keepHK] at h
    split at h
    · obtain ⟨r, hr⟩ := keepHK_iff h; exact ⟨_, hr⟩
    · exact h.out.elim
theorem appHK_iff : ∀ {l r : Hps} {K : Hps → Prop}, appHK l r K ↔ K (l ++ r)
  | [], r, K => Iff.rfl
  | (t, v) :: l, r, K => by simp only [appHK, List.cons_append, appHK_iff]
theorem belowO_cons {m i : Nat} {h : Hp} {O : Hps} (h1 : Nat.blt i m = true) (h2 : belowH m h = true) (h3 : belowO m O = true) : belowO m ((i, h) :: O) = true := by simp only [belowO, h1, h2, h3, Bool.and_self]
theorem belowH_rows {m es : Nat} {rs : List (List SV)} (h : plainLL rs = true) : belowH m (.rows es rs) = true := by simp only [belowH, plainLL_below _ h]
theorem belowH_renrows {m es : Nat} {σ : Nat → Nat} {rs : List (List SV)} (h : plainLL rs = true) : belowH m (renH σ (.rows es rs)) = true := by rw [renH_plain _ (h := .rows es rs) h]; exact belowH_rows h
theorem box_int {k : IntKind} {a b : Int} (h : a = b) : Hp.box [.int k a] = Hp.box [.int k b] := by rw [h]
theorem box_sl {b : Blk} {r es n n' : Nat} {lim : Option Nat} (h : n = n') : Hp.box [.sl b r es n lim] = Hp.box [.sl b r es n' lim] := by rw [h]
section
variable {M : Mx} {fr : Fr} {O : Hps} {nx : Nat}
/-- A loop, of whose heap the entries ko stay as they are. -/
theorem LOOP.gok {body : Code} {Q : Post} (hT : TabOK M.P M.C.T) (ks ko : List Nat) {X : Type} (P : X → Prop) (chg : X → Fr) (Ox : X → Hps) (n0 : Nat) (μ : X → Nat) (x0 : X) (hP : P x0)
    (h : keepK ks fr fun fr0 => keepHK ko O fun O0 => (appK (chg x0) fr0 fun fr' => appHK (Ox x0) O0 fun O' => GOES M fr O nx fr' O' n0) ∧
      ∀ x, P x → appK (chg x) fr0 fun fr1 => appHK (Ox x) O0 fun O1 => run M body fr1 O1 n0 fun e fr O nx => match e with
        | .normal => ∃ x', P x' ∧ μ x' < μ x ∧ appK (chg x') fr0 fun fr' => appHK (Ox x') O0 fun O' => GOES M fr O nx fr' O' n0
        | e => Q e fr O nx) : LOOP M body fr O nx Q := by
  obtain ⟨fr0, h⟩ := keepK_iff h
  obtain ⟨O0, h1, h2⟩ := keepHK_iff h
  simp only [appK_iff, appHK_iff] at h1 h2
  exact LOOP.inv hT P (fun x => (chg x ++ fr0, Ox x ++ O0, n0)) μ x0 hP h1 h2
/-- A nil slice in a box's cell, ahead of a loop. -/
theorem LOOP.nilCell {body : Code} {Q : Post} (i j es : Nat) {row row' : List SV} (hi : lkp i O = some (.box row)) (hr : nilAt nx es j row = some row') (k : LOOP M body fr ((nx, .rows es []) :: setK i (.box row') O) (nx + 1) Q) : LOOP M body fr O nx Q :=
  LOOP.goes ⟨fun η a w hm => let ⟨η', hp, H⟩ := hm.heap.nilCell hi hr; ⟨η', H, hm.size, hm.nds, hm.defers.mono hp, ro_mono hp hm.ro, fun t v ht => (hm.frame t v ht).mono hp⟩⟩ k
end
end Go.Sx
/- term: each and Fits; the reference's Fits; walked. Conditions: none. -/
set_option linter.unusedVariables false
set_option linter.unusedSimpArgs false
set_option maxRecDepth 20000
namespace Go.Proofs.Ytillkgjdbnjnoaa
open Go.Sx Go.Our
def plFits70 : Plan := (planOf [(0, 1), (1, 1), (2, 1), (3, 1), (4, 1), (5, 1), (6, 1), (7, 1), (8, 1), (9, 1), (10, 1), (11, 1), (12, 1), (13, 0)])
def plFits71 : Plan := (planOf [(0, 1), (1, 1), (2, 1), (3, 2), (4, 1), (5, 1), (6, 1), (7, 1), (9, 1), (10, 1), (8, 2), (11, 2), (12, 1), (13, 2), (14, 1), (15, 1)])
def fitT (p x : Tm) : Bool := decide (p.k = 4) || decide (p = x)
def fitsM (p q : Qd) : Bool := fitT p.s q.s && fitT p.p q.p && fitT p.o q.o && fitT p.g q.g
theorem tm_iff {a b : Tm} : a = b ↔ a.k = b.k ∧ a.t = b.t ∧ a.y = b.y ∧ a.l = b.l := ⟨fun h => by subst h; simp, fun h => by cases a; cases b; simp_all⟩
theorem rfits_does (p q : Qd) : Does Try.prog tab 6 0 [.agg (qdRow p), .agg (qdRow q)] [] [] (Val (.bool (fitsM p q))) := by
  refine Does.enter tabOK (g := 6) (fn := Try.f6) Try.call6 Try.func6 rfl 55 rfl rfl [.tmp 4] rfl ?_
  intro w0 F η0 h0
  conv => whnf
  repeat' ((first | with_reducible refine IF.tt ?_ | with_reducible refine IF.ff ?_ | with_reducible refine ADD.mk (fun _ _ => ?_) | with_reducible refine NEED.mk (Det.of rfl) ?_ | refine NEED.mk (det_pos (by omega)) ?_ | with_reducible refine FORK.mk ?_ ?_ | ((with_reducible refine NEED.mk ?_ ?_); (first | with_reducible rfl | omega | (simp (disch := omega) only [lnB, wrap64, wrap32] <;> omega) | (intro h; (try simp (disch := omega) only [hsB, hsC, lnB, wrap64, wrap32, simprocAttr] at h); (first | omega | (simp (disch := omega) only [lnB, wrap64, wrap32] <;> omega))) | (exact needApp 256 rfl rfl (by simp) (by simp) (by omega)) | (exact ⟨by omega, le_reach (by omega)⟩) | (exact ⟨by omega, by omega, le_reach (by omega)⟩) | (simp <;> omega))) | ((with_reducible apply GET.at); rfl) | ((with_reducible apply GETG.at); rfl) | ((with_reducible refine UNK.mk (fun h => ?_) ?_) <;> try (exfalso; omega)) | ((with_reducible refine IF.mk (fun h => ?_) (fun h => ?_)) <;> (try simp (disch := omega) only [hsB, hsC, lnB, wrap64, wrap32, simprocAttr] at h) <;> try (exfalso; omega))) <;> conv => whnf)
  refine FIN.value h0 rfl (congrArg SV.bool ?_)
  rw [Bool.eq_iff_iff]
  simp [fitsM, fitT, tm_iff]
theorem each_does (q : Qd) : Does Try.prog tab 28 1 [.ptr (.loc 0) 0 0 0] [] [(0, .box (qdRow q))] (ValK 1 (.arr 1 [[.ptr (.loc 0) 0 0 0], [.ptr (.loc 0) 0 0 4], [.ptr (.loc 0) 0 0 8], [.ptr (.loc 0) 0 0 12]])) := by
  refine Does.enter tabOK (g := 28) (fn := Try.f28) Try.call28 Try.func28 rfl 16 rfl rfl [.cell 2 52] rfl ?_
  intro w0 F η0 h0
  conv => whnf
  repeat' ((first | with_reducible refine IF.tt ?_ | with_reducible refine IF.ff ?_ | refine DRAWN.of (id := 1) tabOK mixed plFits70 (by kernel_rfl) ?_ | with_reducible refine ADD.mk (fun _ _ => ?_) | with_reducible refine NEED.mk (Det.of rfl) ?_ | refine NEED.mk (det_pos (by omega)) ?_ | with_reducible refine FORK.mk ?_ ?_ | ((with_reducible refine NEED.mk ?_ ?_); (first | with_reducible rfl | omega | (simp (disch := omega) only [lnB, wrap64, wrap32] <;> omega) | (intro h; (try simp (disch := omega) only [hsB, hsC, lnB, wrap64, wrap32, simprocAttr] at h); (first | omega | (simp (disch := omega) only [lnB, wrap64, wrap32] <;> omega))) | (exact needApp 256 rfl rfl (by simp) (by simp) (by omega)) | (exact ⟨by omega, le_reach (by omega)⟩) | (exact ⟨by omega, by omega, le_reach (by omega)⟩) | (simp <;> omega))) | ((with_reducible apply GET.at); rfl) | ((with_reducible apply GETG.at); rfl) | ((with_reducible refine UNK.mk (fun h => ?_) ?_) <;> try (exfalso; omega)) | ((with_reducible refine IF.mk (fun h => ?_) (fun h => ?_)) <;> (try simp (disch := omega) only [hsB, hsC, lnB, wrap64, wrap32, simprocAttr] at h) <;> try (exfalso; omega))) <;> conv => whnf)
  exact FIN.here h0 (rc := .arr 1 [[.ptr (.loc 0) 0 0 0], [.ptr (.loc 0) 0 0 4], [.ptr (.loc 0) 0 0 8], [.ptr (.loc 0) 0 0 12]]) (Oc := []) rfl rfl rfl trivial ⟨rfl, rfl, rfl⟩
set_option maxHeartbeats 4000000 in
theorem fits_does (p q : Qd) : Does Try.prog tab 7 0 [.agg (qdRow p), .agg (qdRow q)] [] [] (Val (.bool (fitsM p q))) := by
  refine Does.enter tabOK (g := 7) (fn := Try.f7) Try.call7 Try.func7 rfl 31 rfl rfl [.tmp 4] rfl ?_
  intro w0 F η0 h0
  conv => whnf
  refine CALL.at [1] (each_does q) rfl rfl rfl rfl (by first | rfl | (simp only [belowO, belowH, plainLL_below _ (plainQds _), Bool.and_self, Bool.and_true] <;> rfl)) (by first | rfl | (simp only [belowO, belowH, plainLL_below _ (plainQds _), Bool.and_self, Bool.and_true] <;> rfl)) (by repeat' (first | exact trivial | exact (renH_plain _ (h := .rows _ _) (plainQds _)).symm | exact rfl | exact (renH_plain _ (h := .rows _ _) (plainQds _)).trans (renH_plain _ (h := .rows _ _) (plainQds _)).symm | ((conv => whnf); refine ⟨?_, ?_⟩))) (by repeat' (first | exact trivial | exact (renH_plain _ (h := .rows _ _) (plainQds _)).symm | exact rfl | exact (renH_plain _ (h := .rows _ _) (plainQds _)).trans (renH_plain _ (h := .rows _ _) (plainQds _)).symm | ((conv => whnf); refine ⟨?_, ?_⟩))) rfl rfl ?_
  rintro r O nx ⟨rfl, rfl, rfl⟩
  conv => whnf
  repeat' ((first | with_reducible refine IF.tt ?_ | with_reducible refine IF.ff ?_ | (refine NEED.mk ⟨rfl, rfl, rfl, rfl, rfl⟩ ?_; conv => whnf) | ((with_reducible refine NEED.mk ?_ ?_); (first | with_reducible rfl | omega | (simp (disch := omega) only [lnB, wrap64, wrap32] <;> omega) | (intro h; (try simp (disch := omega) only [hsB, hsC, lnB, wrap64, wrap32, simprocAttr] at h); (first | omega | (simp (disch := omega) only [lnB, wrap64, wrap32] <;> omega))) | (exact needApp 256 rfl rfl (by simp) (by simp) (by omega)) | (exact ⟨by omega, le_reach (by omega)⟩) | (exact ⟨by omega, by omega, le_reach (by omega)⟩) | (simp <;> omega))) | ((with_reducible apply GET.at); rfl) | ((with_reducible apply GETG.at); rfl) | ((with_reducible refine UNK.mk (fun h => ?_) ?_) <;> try (exfalso; omega)) | ((with_reducible refine IF.mk (fun h => ?_) (fun h => ?_)) <;> (try simp (disch := omega) only [hsB, hsC, lnB, wrap64, wrap32, simprocAttr] at h) <;> try (exfalso; omega))) <;> conv => whnf)
  refine CALL.at [0] (each_does p) rfl rfl rfl rfl (by first | rfl | (simp only [belowO, belowH, plainLL_below _ (plainQds _), Bool.and_self, Bool.and_true] <;> rfl)) (by first | rfl | (simp only [belowO, belowH, plainLL_below _ (plainQds _), Bool.and_self, Bool.and_true] <;> rfl)) (by repeat' (first | exact trivial | exact (renH_plain _ (h := .rows _ _) (plainQds _)).symm | exact rfl | exact (renH_plain _ (h := .rows _ _) (plainQds _)).trans (renH_plain _ (h := .rows _ _) (plainQds _)).symm | ((conv => whnf); refine ⟨?_, ?_⟩))) (by repeat' (first | exact trivial | exact (renH_plain _ (h := .rows _ _) (plainQds _)).symm | exact rfl | exact (renH_plain _ (h := .rows _ _) (plainQds _)).trans (renH_plain _ (h := .rows _ _) (plainQds _)).symm | ((conv => whnf); refine ⟨?_, ?_⟩))) rfl rfl ?_
  rintro r O nx ⟨rfl, rfl, rfl⟩
  conv => whnf
  repeat' ((first | with_reducible refine IF.tt ?_ | with_reducible refine IF.ff ?_ | refine DRAWN.of (id := 5) tabOK mixed plFits71 (by kernel_rfl) ?_ | with_reducible refine ADD.mk (fun _ _ => ?_) | with_reducible refine NEED.mk (Det.of rfl) ?_ | refine NEED.mk (det_pos (by omega)) ?_ | with_reducible refine FORK.mk ?_ ?_ | (refine LOOP.once tabOK ?_; conv => whnf) | (refine NEED.mk ⟨by decide, by decide, rfl⟩ ?_; conv => whnf) | ((with_reducible refine NEED.mk ?_ ?_); (first | with_reducible rfl | omega | (simp (disch := omega) only [lnB, wrap64, wrap32] <;> omega) | (intro h; (try simp (disch := omega) only [hsB, hsC, lnB, wrap64, wrap32, simprocAttr] at h); (first | omega | (simp (disch := omega) only [lnB, wrap64, wrap32] <;> omega))) | (exact needApp 256 rfl rfl (by simp) (by simp) (by omega)) | (exact ⟨by omega, le_reach (by omega)⟩) | (exact ⟨by omega, by omega, le_reach (by omega)⟩) | (simp <;> omega))) | ((with_reducible apply GET.at); rfl) | ((with_reducible apply GETG.at); rfl) | ((with_reducible refine UNK.mk (fun h => ?_) ?_) <;> try (exfalso; omega)) | ((with_reducible refine IF.mk (fun h => ?_) (fun h => ?_)) <;> (try simp (disch := omega) only [hsB, hsC, lnB, wrap64, wrap32, simprocAttr] at h) <;> try (exfalso; omega))) <;> conv => whnf)
  all_goals
    refine FIN.value h0 rfl (congrArg SV.bool (Eq.symm ?_))
    first
      | (simp [fitsM, fitT, tm_iff, *]; done)
      | (rw [Bool.eq_false_iff]; intro hc; simp only [fitsM, fitT, tm_iff, Bool.and_eq_true, Bool.or_eq_true, decide_eq_true_iff] at hc; grind)
      | trace_state
end Go.Proofs.Ytillkgjdbnjnoaa
/- Chapter 7's law of Match, walked: a range over a function within another. Conditions: none. -/
set_option linter.unusedVariables false
set_option linter.unusedSimpArgs false
set_option maxRecDepth 20000
namespace Go.Proofs.Ytillkgjdbnjnoaa
open Go.Sx Go.Our
def plLawMatch0 : Plan := (planOf [(2, 1), (0, 2), (1, 2), (3, 1), (4, 2), (5, 3), (6, 1)])
def plLawMatch1 : Plan := (planOf [(2, 1), (6, 1), (0, 2), (1, 2), (3, 1), (4, 2), (5, 3), (7, 1)])
def plLawMatch2 : Plan := (planOf [(0, 2), (1, 2), (2, 1), (3, 1), (4, 1), (5, 1), (6, 2), (7, 2), (8, 1), (9, 2), (10, 1), (11, 1), (12, 1), (15, 1), (13, 2), (14, 2), (16, 1), (17, 2), (18, 1), (19, 1)])
def natRow (j : Nat) : List SV := [.int .i64 (j : Int)]
theorem plainNats (l : List Nat) : plainLL (l.map natRow) = true := plainLL_map _ (fun _ => rfl) l
/-- Where the first i quads fit. -/
def fitP (p : Qd) (l : List Qd) (i : Nat) : List Nat := (List.range i).filter fun j => fitsM p (l.getD j zeroQd)
theorem fitP_succ {p : Qd} {l : List Qd} {i : Nat} (h : i < l.length) : fitP p l (i + 1) = if fitsM p l[i] = true then fitP p l i ++ [i] else fitP p l i := by
  unfold fitP
  rw [List.range_succ, List.filter_append, List.filter_cons, List.filter_nil]
  have : l.getD i zeroQd = l[i] := by simp [List.getD, h]
  rw [this]
  split <;> simp
theorem fitP_len (p : Qd) (l : List Qd) (i : Nat) : (fitP p l i).length ≤ i := by
  unfold fitP
  exact Nat.le_trans (List.length_filter_le _ _) (by simp)
theorem fitP_mono {p : Qd} {l : List Qd} {i : Nat} : ∀ {n : Nat}, i ≤ n → n ≤ l.length → ∃ r, fitP p l n = fitP p l i ++ r
  | 0, h, _ => ⟨[], by rw [show i = 0 by omega]; simp⟩
  | n + 1, h, hn => by
    rcases Nat.lt_or_ge n i with h1 | h1
    · exact ⟨[], by rw [show i = n + 1 by omega]; simp⟩
    · obtain ⟨r, hr⟩ := fitP_mono (p := p) (l := l) h1 (by omega)
      rw [fitP_succ (by omega), hr]
      split
      · exact ⟨r ++ [n], by simp⟩
      · exact ⟨r, rfl⟩
/-- The place told next is the next of them all. -/
theorem fitP_at {p : Qd} {l : List Qd} {i : Nat} (h : i < l.length) (hf : fitsM p l[i] = true) : (fitP p l l.length)[(fitP p l i).length]? = some i ∧ (fitP p l i).length < (fitP p l l.length).length := by
  obtain ⟨r, hr⟩ := fitP_mono (p := p) (l := l) (i := i + 1) (n := l.length) (by omega) (Nat.le_refl _)
  rw [fitP_succ h, if_pos hf] at hr
  rw [hr]
  constructor
  · rw [List.append_assoc, List.getElem?_append_right (Nat.le_refl _)]; simp
  · simp
theorem mid_at2 {l z : List Qd} {i k : Nat} (h : i < l.length) (e : k = i) : ((l ++ z).map qdRow)[k]? = some (qdRow l[i]) := by subst e; exact qdRow_get2 h
theorem match_does (p : Qd) (n : Nat) : Does Try.prog tab 9 1 [.sl (.loc 0) 0 16 n none, .agg (qdRow p)] [] []
    (fun r O nx => r = .fn (.func 30) [] [.ptr (.loc 1) 0 0 0, .ptr (.loc 2) 0 0 0] ∧ O = [(1, .box [.sl (.loc 0) 0 16 n none]), (2, .box (qdRow p))] ∧ nx = 3) := by
  refine Does.enter tabOK (g := 9) (fn := Try.f9) Try.call9 Try.func9 rfl 6 rfl rfl [.tmp 4] rfl ?_
  intro w0 F η0 h0
  conv => whnf
  repeat' ((first | with_reducible refine IF.tt ?_ | with_reducible refine IF.ff ?_ | ((with_reducible refine NEED.mk ?_ ?_); (first | with_reducible rfl | omega | (simp (disch := omega) only [lnB, wrap64, wrap32] <;> omega) | (intro h; (try simp (disch := omega) only [hsB, hsC, lnB, wrap64, wrap32, simprocAttr] at h); (first | omega | (simp (disch := omega) only [lnB, wrap64, wrap32] <;> omega))) | (exact needApp 256 rfl rfl (by simp) (by simp) (by omega)) | (exact ⟨by omega, le_reach (by omega)⟩) | (exact ⟨by omega, by omega, le_reach (by omega)⟩) | (simp <;> omega))) | ((with_reducible apply GET.at); rfl) | ((with_reducible apply GETG.at); rfl) | ((with_reducible refine UNK.mk (fun h => ?_) ?_) <;> try (exfalso; omega)) | ((with_reducible refine IF.mk (fun h => ?_) (fun h => ?_)) <;> (try simp (disch := omega) only [hsB, hsC, lnB, wrap64, wrap32, simprocAttr] at h) <;> try (exfalso; omega))) <;> conv => whnf)
  refine FIN.at h0 [1, 2] (.fn (.func 30) [] [.ptr (.loc 1) 0 0 0, .ptr (.loc 2) 0 0 0]) [(1, .box [.sl (.loc 0) 0 16 n none]), (2, .box (qdRow p))] rfl rfl rfl rfl ⟨rfl, rfl, trivial⟩ rfl ⟨rfl, rfl, rfl⟩
set_option maxHeartbeats 8000000 in
theorem lawMatch_does (l : List Qd) (p : Qd) (stop inner : Int) (hl : QdsOK l) (hs : -9223372036854775808 ≤ stop ∧ stop ≤ 9223372036854775807) : Does Try.prog tab 3 1 [.sl (.loc 0) 0 16 l.length none, .agg (qdRow p), .int .i64 stop, .int .i64 inner] [] [(0, .rows 16 (l.map qdRow))] (ValK 1 (.bool true)) := by
  unfold QdsOK at hl
  have hlen := fitP_len p l
  refine Does.enter tabOK (g := 3) (fn := Try.f3) Try.call3 Try.func3 rfl 131 rfl rfl [.cell 8 4] rfl ?_
  intro w0 F η0 h0
  conv => whnf
  repeat' ((first | with_reducible refine IF.tt ?_ | with_reducible refine IF.ff ?_ | ((with_reducible refine NEED.mk ?_ ?_); (first | with_reducible rfl | omega | (simp (disch := omega) only [lnB, wrap64, wrap32] <;> omega) | (intro h; (try simp (disch := omega) only [hsB, hsC, lnB, wrap64, wrap32, simprocAttr] at h); (first | omega | (simp (disch := omega) only [lnB, wrap64, wrap32] <;> omega))) | (exact needApp 256 rfl rfl (by simp) (by simp) (by omega)) | (exact ⟨by omega, le_reach (by omega)⟩) | (exact ⟨by omega, by omega, le_reach (by omega)⟩) | (simp <;> omega))) | ((with_reducible apply GET.at); rfl) | ((with_reducible apply GETG.at); rfl) | ((with_reducible refine UNK.mk (fun h => ?_) ?_) <;> try (exfalso; omega)) | ((with_reducible refine IF.mk (fun h => ?_) (fun h => ?_)) <;> (try simp (disch := omega) only [hsB, hsC, lnB, wrap64, wrap32, simprocAttr] at h) <;> try (exfalso; omega))) <;> conv => whnf)
  refine LOOP.nilCell 6 0 1 rfl rfl ?_
  refine LOOP.go tabOK [4, 5, 6, 7, 8, 9] (X := Nat) (fun i => i ≤ l.length) (fun i => [(10, .int .i64 (i : Int))]) (fun i => [(1, .box [.sl (.loc 0) 0 16 l.length none]), (2, .box (qdRow p)), (3, .box [.int .i64 stop]), (4, .box [.int .i64 inner]), (5, .box [.bool false]), (6, .box [.sl (.loc 7) 0 1 (fitP p l i).length none]), (7, .rows 1 ((fitP p l i).map natRow))]) 8 (fun i => l.length - i) 0 (by omega) ?_
  conv => whnf
  refine ⟨by (refine GOES.cutting h0 rfl rfl rfl (by first | rfl | (simp only [belowO, belowH, plainLL_below _ (plainNats _), Bool.and_self, Bool.and_true] <;> rfl)) ?_ ?_ <;> (repeat' (first | (with_reducible rfl) | (exact sl_eq rfl (by first | (simp; done) | omega | (simp; omega))) | (exact congrArg (SV.int _) (by first | omega | (simp (disch := omega) only [lnB, wrap64, wrap32] <;> omega) | (simp; done) | (simp <;> omega))) | (exact congrArg (Hp.rows _) (by rfl)) | ((conv => whnf); refine ⟨?_, ?_⟩) | exact trivial | rfl))), ?_⟩
  intro i hi
  have hli := hlen i
  conv => whnf
  by_cases hil : i < l.length
  · have hs := fitP_succ (p := p) hil
    have hfl := hlen (i + 1)
    repeat' ((first | with_reducible refine IF.tt ?_ | with_reducible refine IF.ff ?_ | refine DRAWN.of (id := 5) tabOK mixed plLawMatch0 (by kernel_rfl) ?_ | refine DRAWN.of (id := 6) tabOK mixed plLawMatch1 (by kernel_rfl) ?_ | refine DRAWN.of (id := 21) tabOK mixed plLawMatch2 (by kernel_rfl) ?_ | with_reducible refine ADD.mk (fun _ _ => ?_) | with_reducible refine NEED.mk (Det.of rfl) ?_ | refine NEED.mk (det_pos (by omega)) ?_ | with_reducible refine FORK.mk ?_ ?_ | refine CALL.value (rfits_does p (l[i]'(by omega))) rfl rfl ?_ | refine CALL.value (fits_does p (l[i]'(by omega))) rfl rfl ?_ | (refine GET.at (row := qdRow (l[i]'(by omega))) (row_at0 (by omega) (by omega)) ?_; conv => whnf) | (refine NEED.mk (needApp 8 rfl rfl rfl (by simp) (by omega)) ?_; conv => whnf) | ((with_reducible refine NEED.mk ?_ ?_); (first | with_reducible rfl | omega | (simp (disch := omega) only [lnB, wrap64, wrap32] <;> omega) | (intro h; (try simp (disch := omega) only [hsB, hsC, lnB, wrap64, wrap32, simprocAttr] at h); (first | omega | (simp (disch := omega) only [lnB, wrap64, wrap32] <;> omega))) | (exact needApp 256 rfl rfl (by simp) (by simp) (by omega)) | (exact ⟨by omega, le_reach (by omega)⟩) | (exact ⟨by omega, by omega, le_reach (by omega)⟩) | (simp <;> omega))) | ((with_reducible apply GET.at); rfl) | ((with_reducible apply GETG.at); rfl) | ((with_reducible refine UNK.mk (fun h => ?_) ?_) <;> try (exfalso; omega)) | ((with_reducible refine IF.mk (fun h => ?_) (fun h => ?_)) <;> (try simp (disch := omega) only [hsB, hsC, lnB, wrap64, wrap32, simprocAttr] at h) <;> try (exfalso; omega))) <;> conv => whnf)
    · refine ⟨i + 1, by omega, by omega, ?_⟩
      rw [hs, if_pos h]
      conv => whnf
      (refine GOES.keeping h0 [1, 2, 3, 4, 5, 6, 9] rfl rfl rfl (by first | rfl | (simp only [belowO, belowH, plainLL_below _ (plainNats _), Bool.and_self, Bool.and_true] <;> rfl)) ?_ ?_ <;> (repeat' (first | (with_reducible rfl) | (exact rows_eq (plainNats _) (renLL_plain _ (plainNats _))) | (exact rows_eq (plainNats _) (by (simp [List.take_of_length_le, ofVal, natRow]))) | (exact sl_eq rfl (by first | (simp; done) | omega | (simp; omega))) | (exact congrArg (SV.int _) (by first | omega | (simp (disch := omega) only [lnB, wrap64, wrap32] <;> omega) | (simp; done) | (simp <;> omega))) | ((conv => whnf); refine ⟨?_, ?_⟩) | exact trivial | (simp only [ren, renB]; done) | rfl)))
      exact congrArg (fun n => Hp.box [SV.sl (Blk.loc 9) 0 1 n none]) (by simp)
    · refine ⟨i + 1, by omega, by omega, ?_⟩
      rw [hs, if_neg (by rw [h]; simp)]
      conv => whnf
      (refine GOES.cutting h0 rfl rfl rfl (by first | rfl | (simp only [belowO, belowH, plainLL_below _ (plainNats _), Bool.and_self, Bool.and_true] <;> rfl)) ?_ ?_ <;> (repeat' (first | (with_reducible rfl) | (exact sl_eq rfl (by first | (simp; done) | omega | (simp; omega))) | (exact congrArg (SV.int _) (by first | omega | (simp (disch := omega) only [lnB, wrap64, wrap32] <;> omega) | (simp; done) | (simp <;> omega))) | (exact congrArg (Hp.rows _) (by rfl)) | ((conv => whnf); refine ⟨?_, ?_⟩) | exact trivial | rfl)))
  · have hie : i = l.length := by omega
    subst hie
    repeat' ((first | with_reducible refine IF.tt ?_ | with_reducible refine IF.ff ?_ | ((with_reducible refine NEED.mk ?_ ?_); (first | with_reducible rfl | omega | (simp (disch := omega) only [lnB, wrap64, wrap32] <;> omega) | (intro h; (try simp (disch := omega) only [hsB, hsC, lnB, wrap64, wrap32, simprocAttr] at h); (first | omega | (simp (disch := omega) only [lnB, wrap64, wrap32] <;> omega))) | (exact needApp 256 rfl rfl (by simp) (by simp) (by omega)) | (exact ⟨by omega, le_reach (by omega)⟩) | (exact ⟨by omega, by omega, le_reach (by omega)⟩) | (simp <;> omega))) | ((with_reducible apply GET.at); rfl) | ((with_reducible apply GETG.at); rfl) | ((with_reducible refine UNK.mk (fun h => ?_) ?_) <;> try (exfalso; omega)) | ((with_reducible refine IF.mk (fun h => ?_) (fun h => ?_)) <;> (try simp (disch := omega) only [hsB, hsC, lnB, wrap64, wrap32, simprocAttr] at h) <;> try (exfalso; omega))) <;> conv => whnf)
    refine CALL.at [0] (roomy_does l hl) rfl rfl rfl rfl (by first | rfl | (simp only [belowO, belowH, plainLL_below _ (plainQds _), Bool.and_self, Bool.and_true] <;> rfl)) (by first | rfl | (simp only [belowO, belowH, plainLL_below _ (plainQds _), Bool.and_self, Bool.and_true] <;> rfl)) (by repeat' (first | exact trivial | exact (renH_plain _ (h := .rows _ _) (plainQds _)).symm | exact rfl | exact (renH_plain _ (h := .rows _ _) (plainQds _)).trans (renH_plain _ (h := .rows _ _) (plainQds _)).symm | ((conv => whnf); refine ⟨?_, ?_⟩))) (by repeat' (first | exact trivial | exact (renH_plain _ (h := .rows _ _) (plainQds _)).symm | exact rfl | exact (renH_plain _ (h := .rows _ _) (plainQds _)).trans (renH_plain _ (h := .rows _ _) (plainQds _)).symm | ((conv => whnf); refine ⟨?_, ?_⟩))) rfl rfl ?_
    rintro r O nx ⟨rfl, rfl, rfl⟩
    conv => whnf
    repeat' ((first | with_reducible refine IF.tt ?_ | with_reducible refine IF.ff ?_ | ((with_reducible refine NEED.mk ?_ ?_); (first | with_reducible rfl | omega | (simp (disch := omega) only [lnB, wrap64, wrap32] <;> omega) | (intro h; (try simp (disch := omega) only [hsB, hsC, lnB, wrap64, wrap32, simprocAttr] at h); (first | omega | (simp (disch := omega) only [lnB, wrap64, wrap32] <;> omega))) | (exact needApp 256 rfl rfl (by simp) (by simp) (by omega)) | (exact ⟨by omega, le_reach (by omega)⟩) | (exact ⟨by omega, by omega, le_reach (by omega)⟩) | (simp <;> omega))) | ((with_reducible apply GET.at); rfl) | ((with_reducible apply GETG.at); rfl) | ((with_reducible refine UNK.mk (fun h => ?_) ?_) <;> try (exfalso; omega)) | ((with_reducible refine IF.mk (fun h => ?_) (fun h => ?_)) <;> (try simp (disch := omega) only [hsB, hsC, lnB, wrap64, wrap32, simprocAttr] at h) <;> try (exfalso; omega))) <;> conv => whnf)
    refine CALL.at [8] (match_does p l.length) rfl rfl rfl rfl (by first | rfl | (simp only [belowO, belowH, plainLL_below _ (plainQds _), Bool.and_self, Bool.and_true] <;> rfl)) (by first | rfl | (simp only [belowO, belowH, plainLL_below _ (plainQds _), Bool.and_self, Bool.and_true] <;> rfl)) (by repeat' (first | exact trivial | exact (renH_plain _ (h := .rows _ _) (plainQds _)).symm | exact rfl | exact (renH_plain _ (h := .rows _ _) (plainQds _)).trans (renH_plain _ (h := .rows _ _) (plainQds _)).symm | ((conv => whnf); refine ⟨?_, ?_⟩))) (by repeat' (first | exact trivial | exact (renH_plain _ (h := .rows _ _) (plainQds _)).symm | exact rfl | exact (renH_plain _ (h := .rows _ _) (plainQds _)).trans (renH_plain _ (h := .rows _ _) (plainQds _)).symm | ((conv => whnf); refine ⟨?_, ?_⟩))) rfl rfl ?_
    rintro r O nx ⟨rfl, rfl, rfl⟩
    conv => whnf
    repeat' ((first | with_reducible refine IF.tt ?_ | with_reducible refine IF.ff ?_ | ((with_reducible refine NEED.mk ?_ ?_); (first | with_reducible rfl | omega | (simp (disch := omega) only [lnB, wrap64, wrap32] <;> omega) | (intro h; (try simp (disch := omega) only [hsB, hsC, lnB, wrap64, wrap32, simprocAttr] at h); (first | omega | (simp (disch := omega) only [lnB, wrap64, wrap32] <;> omega))) | (exact needApp 256 rfl rfl (by simp) (by simp) (by omega)) | (exact ⟨by omega, le_reach (by omega)⟩) | (exact ⟨by omega, by omega, le_reach (by omega)⟩) | (simp <;> omega))) | ((with_reducible apply GET.at); rfl) | ((with_reducible apply GETG.at); rfl) | ((with_reducible refine UNK.mk (fun h => ?_) ?_) <;> try (exfalso; omega)) | ((with_reducible refine IF.mk (fun h => ?_) (fun h => ?_)) <;> (try simp (disch := omega) only [hsB, hsC, lnB, wrap64, wrap32, simprocAttr] at h) <;> try (exfalso; omega))) <;> conv => whnf)
    have hout := h0
    apply loopOnce (X := Unit) (n := 14) (fun _ => True) (fun _ => [(DS, .dfs [.ptr (.loc 12) 0 0 0]), (4, .ptr (.loc 1) 0 0 0), (6, .ptr (.loc 3) 0 0 0), (7, .ptr (.loc 4) 0 0 0), (8, .ptr (.loc 5) 0 0 0), (9, .ptr (.loc 6) 0 0 0), (12, .sl (.loc 8) 0 16 l.length none), (13, .ptr (.loc 11) 0 0 0), (14, .ptr (.loc 13) 0 0 0)]) (fun _ => [(1, .box [.sl (.loc 0) 0 16 l.length none]), (2, .box (qdRow p)), (3, .box [.int .i64 stop]), (4, .box [.int .i64 inner]), (5, .box [.bool false]), (6, .box [.sl (.loc 7) 0 1 (fitP p l l.length).length none]), (7, .rows 1 ((fitP p l l.length).map natRow)), (8, .rows 16 ((l ++ [markQd, markQd]).map qdRow)), (9, .box [.sl (.loc 8) 0 16 l.length none]), (10, .box (qdRow p)), (11, .box [.fn (.func 30) [] [.ptr (.loc 9) 0 0 0, .ptr (.loc 10) 0 0 0]]), (12, .dfr), (13, .box [.int .i64 1])])
    · intro hk
      refine LOOP.once tabOK ?_
      conv => whnf
      repeat' ((first | with_reducible refine IF.tt ?_ | with_reducible refine IF.ff ?_ | ((with_reducible refine NEED.mk ?_ ?_); (first | with_reducible rfl | omega | (simp (disch := omega) only [lnB, wrap64, wrap32] <;> omega) | (intro h; (try simp (disch := omega) only [hsB, hsC, lnB, wrap64, wrap32, simprocAttr] at h); (first | omega | (simp (disch := omega) only [lnB, wrap64, wrap32] <;> omega))) | (exact needApp 256 rfl rfl (by simp) (by simp) (by omega)) | (exact ⟨by omega, le_reach (by omega)⟩) | (exact ⟨by omega, by omega, le_reach (by omega)⟩) | (simp <;> omega))) | ((with_reducible apply GET.at); rfl) | ((with_reducible apply GETG.at); rfl) | ((with_reducible refine UNK.mk (fun h => ?_) ?_) <;> try (exfalso; omega)) | ((with_reducible refine IF.mk (fun h => ?_) (fun h => ?_)) <;> (try simp (disch := omega) only [hsB, hsC, lnB, wrap64, wrap32, simprocAttr] at h) <;> try (exfalso; omega))) <;> conv => whnf)
      refine RANGEF.of tabOK (gf := 30) (g := 30) (fn := Try.f30) (cap := [.ptr (.loc 9) 0 0 0, .ptr (.loc 10) 0 0 0]) Try.call30 Try.func30 rfl 24 rfl _ rfl rfl rfl rfl rfl ?_
      conv => whnf
      intro η1 h0
      conv => whnf
      refine LOOP.gok tabOK [0, 2, 6, 7] [1, 2, 3, 4, 5, 6, 7, 8, 9, 10, 11, 12, 14, 15] (X := Nat) (fun i => i ≤ l.length ∧ ∀ m, 1 ≤ m → m ≤ (fitP p l i).length → (m : Int) ≠ IntKind.i64.wrap (stop + 1)) (fun i => [(8, .int .i64 (i : Int))]) (fun i => [(13, .box [.int .i64 ((fitP p l i).length : Int)])]) 16 (fun i => l.length - i) 0 ⟨by omega, fun m h1 h2 => by have := hlen 0; omega⟩ ?_
      conv => whnf
      refine ⟨by (refine GOES.cutting h0 rfl rfl rfl (by (repeat' (first | (refine belowO_cons rfl ?_ ?_) | exact belowH_rows (plainQds _) | exact belowH_renrows (plainQds _) | exact belowH_rows (plainNats _) | exact belowH_renrows (plainNats _) | rfl))) ?_ ?_ <;> (repeat' (first | (with_reducible rfl) | exact trivial | (exact sl_eq rfl (by first | omega | (simp (disch := omega) only [lnB, wrap64, wrap32] <;> omega) | (simp; done) | (simp <;> omega))) | (exact congrArg (SV.int _) (by first | omega | (simp (disch := omega) only [lnB, wrap64, wrap32] <;> omega) | (simp; done) | (simp <;> omega))) | (exact box_int (by first | omega | (simp (disch := omega) only [lnB, wrap64, wrap32] <;> omega) | (simp; done) | (simp <;> omega))) | (exact box_sl (by first | omega | (simp (disch := omega) only [lnB, wrap64, wrap32] <;> omega) | (simp; done) | (simp <;> omega))) | (exact renH_plain _ (h := .rows _ _) (plainQds _)) | (exact renH_plain _ (h := .rows _ _) (plainNats _)) | (exact congrArg (Hp.rows _) (by rfl)) | ((conv => whnf); refine ⟨?_, ?_⟩) | rfl))), ?_⟩
      rintro i ⟨hi, hst⟩
      have hli := hlen i
      conv => whnf
      by_cases hil : i < l.length
      · have hs := fitP_succ (p := p) hil
        have hfl := hlen (i + 1)
        repeat' ((first | with_reducible refine IF.tt ?_ | with_reducible refine IF.ff ?_ | refine CALL.value (fits_does p (l[i]'(by omega))) rfl rfl ?_ | (refine GET.at (row := qdRow (l[i]'(by omega))) (by first | exact mid_at2 (by omega) (by omega) | (rw [renLL_plain _ (plainQds _)]; exact mid_at2 (by omega) (by omega))) ?_; conv => whnf) | ((with_reducible refine NEED.mk ?_ ?_); (first | with_reducible rfl | omega | (simp (disch := omega) only [lnB, wrap64, wrap32] <;> omega) | (intro h; (try simp (disch := omega) only [hsB, hsC, lnB, wrap64, wrap32, simprocAttr] at h); (first | omega | (simp (disch := omega) only [lnB, wrap64, wrap32] <;> omega))) | (exact needApp 256 rfl rfl (by simp) (by simp) (by omega)) | (exact ⟨by omega, le_reach (by omega)⟩) | (exact ⟨by omega, by omega, le_reach (by omega)⟩) | (simp <;> omega))) | ((with_reducible apply GET.at); rfl) | ((with_reducible apply GETG.at); rfl) | ((with_reducible refine UNK.mk (fun h => ?_) ?_) <;> try (exfalso; omega)) | ((with_reducible refine IF.mk (fun h => ?_) (fun h => ?_)) <;> (try simp (disch := omega) only [hsB, hsC, lnB, wrap64, wrap32, simprocAttr] at h) <;> try (exfalso; omega))) <;> conv => whnf)
        · have hin := h0
          refine YIELD.of tabOK rfl rfl rfl ?_
          intro η2 ro2 h0
          conv => whnf
          have hat := (fitP_at hil h).1
          have hlt := (fitP_at hil h).2
          have hgN : ((fitP p l l.length).map natRow)[(fitP p l i).length]? = some (natRow i) := by rw [List.getElem?_map, hat]; rfl
          rw [if_pos h] at hs
          have hs1 : (fitP p l (i + 1)).length = (fitP p l i).length + 1 := by rw [hs]; simp
          repeat' ((first | with_reducible refine IF.tt ?_ | with_reducible refine IF.ff ?_ | refine DRAWN.of (id := 5) tabOK mixed plLawMatch0 (by kernel_rfl) ?_ | refine DRAWN.of (id := 6) tabOK mixed plLawMatch1 (by kernel_rfl) ?_ | refine DRAWN.of (id := 21) tabOK mixed plLawMatch2 (by kernel_rfl) ?_ | with_reducible refine ADD.mk (fun _ _ => ?_) | with_reducible refine NEED.mk (Det.of rfl) ?_ | refine NEED.mk (det_pos (by omega)) ?_ | with_reducible refine FORK.mk ?_ ?_ | (refine GET.at (row := qdRow (l[i]'(by omega))) (row_at0 (by omega) (by omega)) ?_; conv => whnf) | (refine GET.at (row := natRow i) (by rw [show (0 + ((fitP p l i).length : Int).toNat) = (fitP p l i).length by omega]; exact hgN) ?_; conv => whnf) | (refine GETG.at (row := natRow i) (by rw [show (0 + ((fitP p l i).length : Int).toNat) = (fitP p l i).length by omega]; exact hgN) ?_; conv => whnf) | ((with_reducible refine NEED.mk ?_ ?_); (first | with_reducible rfl | omega | (simp (disch := omega) only [lnB, wrap64, wrap32] <;> omega) | (intro h; (try simp (disch := omega) only [hsB, hsC, lnB, wrap64, wrap32, simprocAttr] at h); (first | omega | (simp (disch := omega) only [lnB, wrap64, wrap32] <;> omega))) | (exact needApp 256 rfl rfl (by simp) (by simp) (by omega)) | (exact ⟨by omega, le_reach (by omega)⟩) | (exact ⟨by omega, by omega, le_reach (by omega)⟩) | (simp <;> omega))) | ((with_reducible apply GET.at); rfl) | ((with_reducible apply GETG.at); rfl) | ((with_reducible refine UNK.mk (fun h => ?_) ?_) <;> try (exfalso; omega)) | ((with_reducible refine IF.mk (fun h => ?_) (fun h => ?_)) <;> (try simp (disch := omega) only [hsB, hsC, lnB, wrap64, wrap32, simprocAttr] at h) <;> try (exfalso; omega))) <;> conv => whnf)
          all_goals first
            | (exfalso; simp_all; done)
            | (exfalso; omega)
            | skip
          · skip
            refine RANGEF.within tabOK (gf := 30) (g := 30) (fn := Try.f30) (cap := [.ptr (.loc 9) 0 0 0, .ptr (.loc 10) 0 0 0]) Try.call30 Try.func30 rfl 24 rfl _ rfl rfl rfl rfl rfl rfl ?_
            conv => whnf
            intro η3 h0
            conv => whnf
            refine LOOP.gok tabOK [0, 2, 6, 7] [1, 2, 3, 4, 5, 6, 7, 8, 9, 10, 11, 12, 13, 14, 15, 16, 17, 19] (X := Nat) (fun j => j ≤ l.length) (fun j => [(8, .int .i64 (j : Int))]) (fun j => [(18, .box [.int .i64 ((fitP p l j).length : Int)])]) 20 (fun j => l.length - j) 0 (by omega) ?_
            conv => whnf
            refine ⟨by (refine GOES.cutting h0 rfl rfl rfl (by (repeat' (first | (refine belowO_cons rfl ?_ ?_) | exact belowH_rows (plainQds _) | exact belowH_renrows (plainQds _) | exact belowH_rows (plainNats _) | exact belowH_renrows (plainNats _) | rfl))) ?_ ?_ <;> (repeat' (first | (with_reducible rfl) | exact trivial | (exact sl_eq rfl (by first | omega | (simp (disch := omega) only [lnB, wrap64, wrap32] <;> omega) | (simp; done) | (simp <;> omega))) | (exact congrArg (SV.int _) (by first | omega | (simp (disch := omega) only [lnB, wrap64, wrap32] <;> omega) | (simp; done) | (simp <;> omega))) | (exact box_int (by first | omega | (simp (disch := omega) only [lnB, wrap64, wrap32] <;> omega) | (simp; done) | (simp <;> omega))) | (exact box_sl (by first | omega | (simp (disch := omega) only [lnB, wrap64, wrap32] <;> omega) | (simp; done) | (simp <;> omega))) | (exact renH_plain _ (h := .rows _ _) (plainQds _)) | (exact renH_plain _ (h := .rows _ _) (plainNats _)) | (exact congrArg (Hp.rows _) (by rfl)) | ((conv => whnf); refine ⟨?_, ?_⟩) | rfl))), ?_⟩
            intro j hj
            have hlj := hlen j
            conv => whnf
            by_cases hjl : j < l.length
            · have hsj := fitP_succ (p := p) hjl
              have hfj := hlen (j + 1)
              repeat' ((first | with_reducible refine IF.tt ?_ | with_reducible refine IF.ff ?_ | refine CALL.value (fits_does p (l[j]'(by omega))) rfl rfl ?_ | (refine GET.at (row := qdRow (l[j]'(by omega))) (by first | exact mid_at2 (by omega) (by omega) | (rw [renLL_plain _ (plainQds _)]; exact mid_at2 (by omega) (by omega))) ?_; conv => whnf) | ((with_reducible refine NEED.mk ?_ ?_); (first | with_reducible rfl | omega | (simp (disch := omega) only [lnB, wrap64, wrap32] <;> omega) | (intro h; (try simp (disch := omega) only [hsB, hsC, lnB, wrap64, wrap32, simprocAttr] at h); (first | omega | (simp (disch := omega) only [lnB, wrap64, wrap32] <;> omega))) | (exact needApp 256 rfl rfl (by simp) (by simp) (by omega)) | (exact ⟨by omega, le_reach (by omega)⟩) | (exact ⟨by omega, by omega, le_reach (by omega)⟩) | (simp <;> omega))) | ((with_reducible apply GET.at); rfl) | ((with_reducible apply GETG.at); rfl) | ((with_reducible refine UNK.mk (fun h => ?_) ?_) <;> try (exfalso; omega)) | ((with_reducible refine IF.mk (fun h => ?_) (fun h => ?_)) <;> (try simp (disch := omega) only [hsB, hsC, lnB, wrap64, wrap32, simprocAttr] at h) <;> try (exfalso; omega))) <;> conv => whnf)
              · have hfit := h
                refine YIELD.of tabOK rfl rfl rfl ?_
                intro η4 ro4 h4
                conv => whnf
                have hatj := (fitP_at hjl hfit).1
                have hltj := (fitP_at hjl hfit).2
                have hgJ : ((fitP p l l.length).map natRow)[(fitP p l j).length]? = some (natRow j) := by rw [List.getElem?_map, hatj]; rfl
                rw [if_pos hfit] at hsj
                have hsj1 : (fitP p l (j + 1)).length = (fitP p l j).length + 1 := by rw [hsj]; simp
                repeat' ((first | with_reducible refine IF.tt ?_ | with_reducible refine IF.ff ?_ | (refine GET.at (row := natRow j) (by rw [show (0 + ((fitP p l j).length : Int).toNat) = (fitP p l j).length by omega]; exact hgJ) ?_; conv => whnf) | (refine GETG.at (row := natRow j) (by rw [show (0 + ((fitP p l j).length : Int).toNat) = (fitP p l j).length by omega]; exact hgJ) ?_; conv => whnf) | ((with_reducible refine NEED.mk ?_ ?_); (first | with_reducible rfl | omega | (simp (disch := omega) only [lnB, wrap64, wrap32] <;> omega) | (intro h; (try simp (disch := omega) only [hsB, hsC, lnB, wrap64, wrap32, simprocAttr] at h); (first | omega | (simp (disch := omega) only [lnB, wrap64, wrap32] <;> omega))) | (exact needApp 256 rfl rfl (by simp) (by simp) (by omega)) | (exact ⟨by omega, le_reach (by omega)⟩) | (exact ⟨by omega, by omega, le_reach (by omega)⟩) | (simp <;> omega))) | ((with_reducible apply GET.at); rfl) | ((with_reducible apply GETG.at); rfl) | ((with_reducible refine UNK.mk (fun h => ?_) ?_) <;> try (exfalso; omega)) | ((with_reducible refine IF.mk (fun h => ?_) (fun h => ?_)) <;> (try simp (disch := omega) only [hsB, hsC, lnB, wrap64, wrap32, simprocAttr] at h) <;> try (exfalso; omega))) <;> conv => whnf)
                all_goals first
                  | (exfalso; simp_all; done)
                  | (exfalso; omega)
                  | (refine ⟨j + 1, by omega, by omega, ?_⟩; (conv => whnf); (refine GOES.cutting h0 rfl rfl rfl (by (repeat' (first | (refine belowO_cons rfl ?_ ?_) | exact belowH_rows (plainQds _) | exact belowH_renrows (plainQds _) | exact belowH_rows (plainNats _) | exact belowH_renrows (plainNats _) | rfl))) ?_ ?_ <;> (repeat' (first | (with_reducible rfl) | exact trivial | (exact sl_eq rfl (by first | omega | (simp (disch := omega) only [lnB, wrap64, wrap32] <;> omega) | (simp; done) | (simp <;> omega))) | (exact congrArg (SV.int _) (by first | omega | (simp (disch := omega) only [lnB, wrap64, wrap32] <;> omega) | (simp; done) | (simp <;> omega))) | (exact box_int (by first | omega | (simp (disch := omega) only [lnB, wrap64, wrap32] <;> omega) | (simp; done) | (simp <;> omega))) | (exact box_sl (by first | omega | (simp (disch := omega) only [lnB, wrap64, wrap32] <;> omega) | (simp; done) | (simp <;> omega))) | (exact renH_plain _ (h := .rows _ _) (plainQds _)) | (exact renH_plain _ (h := .rows _ _) (plainNats _)) | (exact congrArg (Hp.rows _) (by rfl)) | ((conv => whnf); refine ⟨?_, ?_⟩) | rfl))); done)
                  | trace_state
              · have hfit := h
                refine ⟨j + 1, by omega, by omega, ?_⟩
                rw [hsj, if_neg (by rw [hfit]; simp)]
                conv => whnf
                (refine GOES.cutting h0 rfl rfl rfl (by (repeat' (first | (refine belowO_cons rfl ?_ ?_) | exact belowH_rows (plainQds _) | exact belowH_renrows (plainQds _) | exact belowH_rows (plainNats _) | exact belowH_renrows (plainNats _) | rfl))) ?_ ?_ <;> (repeat' (first | (with_reducible rfl) | exact trivial | (exact sl_eq rfl (by first | omega | (simp (disch := omega) only [lnB, wrap64, wrap32] <;> omega) | (simp; done) | (simp <;> omega))) | (exact congrArg (SV.int _) (by first | omega | (simp (disch := omega) only [lnB, wrap64, wrap32] <;> omega) | (simp; done) | (simp <;> omega))) | (exact box_int (by first | omega | (simp (disch := omega) only [lnB, wrap64, wrap32] <;> omega) | (simp; done) | (simp <;> omega))) | (exact box_sl (by first | omega | (simp (disch := omega) only [lnB, wrap64, wrap32] <;> omega) | (simp; done) | (simp <;> omega))) | (exact renH_plain _ (h := .rows _ _) (plainQds _)) | (exact renH_plain _ (h := .rows _ _) (plainNats _)) | (exact congrArg (Hp.rows _) (by rfl)) | ((conv => whnf); refine ⟨?_, ?_⟩) | rfl)))
            · have hje : j = l.length := by omega
              subst hje
              repeat' ((first | with_reducible refine IF.tt ?_ | with_reducible refine IF.ff ?_ | ((with_reducible refine NEED.mk ?_ ?_); (first | with_reducible rfl | omega | (simp (disch := omega) only [lnB, wrap64, wrap32] <;> omega) | (intro h; (try simp (disch := omega) only [hsB, hsC, lnB, wrap64, wrap32, simprocAttr] at h); (first | omega | (simp (disch := omega) only [lnB, wrap64, wrap32] <;> omega))) | (exact needApp 256 rfl rfl (by simp) (by simp) (by omega)) | (exact ⟨by omega, le_reach (by omega)⟩) | (exact ⟨by omega, by omega, le_reach (by omega)⟩) | (simp <;> omega))) | ((with_reducible apply GET.at); rfl) | ((with_reducible apply GETG.at); rfl) | ((with_reducible refine UNK.mk (fun h => ?_) ?_) <;> try (exfalso; omega)) | ((with_reducible refine IF.mk (fun h => ?_) (fun h => ?_)) <;> (try simp (disch := omega) only [hsB, hsC, lnB, wrap64, wrap32, simprocAttr] at h) <;> try (exfalso; omega))) <;> conv => whnf)
              all_goals try (exfalso; simp_all; done)
              all_goals try (exfalso; omega)
              all_goals first
                | ((with_reducible refine Exists.intro (i + 1) ?_); (refine ⟨⟨by omega, fun m h1 h2 => by rw [hs1] at h2; rcases Nat.lt_or_eq_of_le h2 with h3 | h3 <;> first | exact hst m h1 (by omega) | omega⟩, by omega, ?_⟩; (conv => whnf); (refine GOES.cutting hin rfl rfl rfl (by (repeat' (first | (refine belowO_cons rfl ?_ ?_) | exact belowH_rows (plainQds _) | exact belowH_renrows (plainQds _) | exact belowH_rows (plainNats _) | exact belowH_renrows (plainNats _) | rfl))) ?_ ?_ <;> (repeat' (first | (with_reducible rfl) | exact trivial | (exact sl_eq rfl (by first | omega | (simp (disch := omega) only [lnB, wrap64, wrap32] <;> omega) | (simp; done) | (simp <;> omega))) | (exact congrArg (SV.int _) (by first | omega | (simp (disch := omega) only [lnB, wrap64, wrap32] <;> omega) | (simp; done) | (simp <;> omega))) | (exact box_int (by first | omega | (simp (disch := omega) only [lnB, wrap64, wrap32] <;> omega) | (simp; done) | (simp <;> omega))) | (exact box_sl (by first | omega | (simp (disch := omega) only [lnB, wrap64, wrap32] <;> omega) | (simp; done) | (simp <;> omega))) | (exact renH_plain _ (h := .rows _ _) (plainQds _)) | (exact renH_plain _ (h := .rows _ _) (plainNats _)) | (exact congrArg (Hp.rows _) (by rfl)) | ((conv => whnf); refine ⟨?_, ?_⟩) | rfl)))))
                | ((with_reducible refine LOOP.goes ?_ (hk () trivial)); (refine GOES.keeping hout [1, 2, 3, 4, 5, 6, 7, 8, 9, 10, 11, 14, 20] rfl rfl rfl (by (repeat' (first | (refine belowO_cons rfl ?_ ?_) | exact belowH_rows (plainQds _) | exact belowH_rows (plainNats _) | rfl))) ?_ ?_ <;> (repeat' (first | (with_reducible rfl) | exact trivial | (exact (renH_plain _ (h := .rows _ _) (plainQds _)).symm) | (exact (renH_plain _ (h := .rows _ _) (plainNats _)).symm) | (exact (renH_plain _ (h := .rows _ _) (plainQds _)).trans (renH_plain _ (h := .rows _ _) (plainQds _)).symm) | ((conv => whnf); refine ⟨?_, ?_⟩) | rfl))))
          all_goals first
            | ((with_reducible refine Exists.intro (i + 1) ?_); (refine ⟨⟨by omega, fun m h1 h2 => by rw [hs1] at h2; rcases Nat.lt_or_eq_of_le h2 with h3 | h3 <;> first | exact hst m h1 (by omega) | omega⟩, by omega, ?_⟩; (conv => whnf); (refine GOES.cutting hin rfl rfl rfl (by (repeat' (first | (refine belowO_cons rfl ?_ ?_) | exact belowH_rows (plainQds _) | exact belowH_renrows (plainQds _) | exact belowH_rows (plainNats _) | exact belowH_renrows (plainNats _) | rfl))) ?_ ?_ <;> (repeat' (first | (with_reducible rfl) | exact trivial | (exact sl_eq rfl (by first | omega | (simp (disch := omega) only [lnB, wrap64, wrap32] <;> omega) | (simp; done) | (simp <;> omega))) | (exact congrArg (SV.int _) (by first | omega | (simp (disch := omega) only [lnB, wrap64, wrap32] <;> omega) | (simp; done) | (simp <;> omega))) | (exact box_int (by first | omega | (simp (disch := omega) only [lnB, wrap64, wrap32] <;> omega) | (simp; done) | (simp <;> omega))) | (exact box_sl (by first | omega | (simp (disch := omega) only [lnB, wrap64, wrap32] <;> omega) | (simp; done) | (simp <;> omega))) | (exact renH_plain _ (h := .rows _ _) (plainQds _)) | (exact renH_plain _ (h := .rows _ _) (plainNats _)) | (exact congrArg (Hp.rows _) (by rfl)) | ((conv => whnf); refine ⟨?_, ?_⟩) | rfl)))))
            | ((with_reducible refine LOOP.goes ?_ (hk () trivial)); (refine GOES.keeping hout [1, 2, 3, 4, 5, 6, 7, 8, 9, 10, 11, 14, 18] rfl rfl rfl (by (repeat' (first | (refine belowO_cons rfl ?_ ?_) | exact belowH_rows (plainQds _) | exact belowH_rows (plainNats _) | rfl))) ?_ ?_ <;> (repeat' (first | (with_reducible rfl) | exact trivial | (exact (renH_plain _ (h := .rows _ _) (plainQds _)).symm) | (exact (renH_plain _ (h := .rows _ _) (plainNats _)).symm) | (exact (renH_plain _ (h := .rows _ _) (plainQds _)).trans (renH_plain _ (h := .rows _ _) (plainQds _)).symm) | ((conv => whnf); refine ⟨?_, ?_⟩) | rfl))))
        · refine ⟨i + 1, ⟨by omega, by first | exact trivial | (rw [hs, if_neg (by rw [h]; simp)]; exact hst)⟩, by omega, ?_⟩
          rw [hs, if_neg (by rw [h]; simp)]
          conv => whnf
          (refine GOES.cutting h0 rfl rfl rfl (by (repeat' (first | (refine belowO_cons rfl ?_ ?_) | exact belowH_rows (plainQds _) | exact belowH_renrows (plainQds _) | exact belowH_rows (plainNats _) | exact belowH_renrows (plainNats _) | rfl))) ?_ ?_ <;> (repeat' (first | (with_reducible rfl) | exact trivial | (exact sl_eq rfl (by first | omega | (simp (disch := omega) only [lnB, wrap64, wrap32] <;> omega) | (simp; done) | (simp <;> omega))) | (exact congrArg (SV.int _) (by first | omega | (simp (disch := omega) only [lnB, wrap64, wrap32] <;> omega) | (simp; done) | (simp <;> omega))) | (exact box_int (by first | omega | (simp (disch := omega) only [lnB, wrap64, wrap32] <;> omega) | (simp; done) | (simp <;> omega))) | (exact box_sl (by first | omega | (simp (disch := omega) only [lnB, wrap64, wrap32] <;> omega) | (simp; done) | (simp <;> omega))) | (exact renH_plain _ (h := .rows _ _) (plainQds _)) | (exact renH_plain _ (h := .rows _ _) (plainNats _)) | (exact congrArg (Hp.rows _) (by rfl)) | ((conv => whnf); refine ⟨?_, ?_⟩) | rfl)))
      · have hie : i = l.length := by omega
        subst hie
        repeat' ((first | with_reducible refine IF.tt ?_ | with_reducible refine IF.ff ?_ | ((with_reducible refine NEED.mk ?_ ?_); (first | with_reducible rfl | omega | (simp (disch := omega) only [lnB, wrap64, wrap32] <;> omega) | (intro h; (try simp (disch := omega) only [hsB, hsC, lnB, wrap64, wrap32, simprocAttr] at h); (first | omega | (simp (disch := omega) only [lnB, wrap64, wrap32] <;> omega))) | (exact needApp 256 rfl rfl (by simp) (by simp) (by omega)) | (exact ⟨by omega, le_reach (by omega)⟩) | (exact ⟨by omega, by omega, le_reach (by omega)⟩) | (simp <;> omega))) | ((with_reducible apply GET.at); rfl) | ((with_reducible apply GETG.at); rfl) | ((with_reducible refine UNK.mk (fun h => ?_) ?_) <;> try (exfalso; omega)) | ((with_reducible refine IF.mk (fun h => ?_) (fun h => ?_)) <;> (try simp (disch := omega) only [hsB, hsC, lnB, wrap64, wrap32, simprocAttr] at h) <;> try (exfalso; omega))) <;> conv => whnf)
        all_goals first
          | (exfalso; simp_all; done)
          | (exfalso; omega)
          | ((with_reducible refine LOOP.goes ?_ (hk () trivial)); (refine GOES.keeping hout [1, 2, 3, 4, 5, 6, 7, 8, 9, 10, 11, 14, 16] rfl rfl rfl (by (repeat' (first | (refine belowO_cons rfl ?_ ?_) | exact belowH_rows (plainQds _) | exact belowH_rows (plainNats _) | rfl))) ?_ ?_ <;> (repeat' (first | (with_reducible rfl) | exact trivial | (exact (renH_plain _ (h := .rows _ _) (plainQds _)).symm) | (exact (renH_plain _ (h := .rows _ _) (plainNats _)).symm) | (exact (renH_plain _ (h := .rows _ _) (plainQds _)).trans (renH_plain _ (h := .rows _ _) (plainQds _)).symm) | ((conv => whnf); refine ⟨?_, ?_⟩) | rfl))))
    · intro _ _
      refine LOOP.once tabOK ?_
      conv => whnf
      repeat' ((first | with_reducible refine IF.tt ?_ | with_reducible refine IF.ff ?_ | ((with_reducible refine NEED.mk ?_ ?_); (first | with_reducible rfl | omega | (simp (disch := omega) only [lnB, wrap64, wrap32] <;> omega) | (intro h; (try simp (disch := omega) only [hsB, hsC, lnB, wrap64, wrap32, simprocAttr] at h); (first | omega | (simp (disch := omega) only [lnB, wrap64, wrap32] <;> omega))) | (exact needApp 256 rfl rfl (by simp) (by simp) (by omega)) | (exact ⟨by omega, le_reach (by omega)⟩) | (exact ⟨by omega, by omega, le_reach (by omega)⟩) | (simp <;> omega))) | ((with_reducible apply GET.at); rfl) | ((with_reducible apply GETG.at); rfl) | ((with_reducible refine UNK.mk (fun h => ?_) ?_) <;> try (exfalso; omega)) | ((with_reducible refine IF.mk (fun h => ?_) (fun h => ?_)) <;> (try simp (disch := omega) only [hsB, hsC, lnB, wrap64, wrap32, simprocAttr] at h) <;> try (exfalso; omega))) <;> conv => whnf)
      refine RANGEF.of tabOK (gf := 30) (g := 30) (fn := Try.f30) (cap := [.ptr (.loc 9) 0 0 0, .ptr (.loc 10) 0 0 0]) Try.call30 Try.func30 rfl 24 rfl _ rfl rfl rfl rfl rfl ?_
      conv => whnf
      intro η1 h0
      conv => whnf
      refine LOOP.gok tabOK [0, 2, 6, 7] [1, 2, 3, 4, 5, 6, 7, 8, 9, 10, 11, 12, 13, 15, 16] (X := Nat) (fun i => i ≤ l.length ∧ True) (fun i => [(8, .int .i64 (i : Int))]) (fun i => [(14, .box [.int .i64 ((fitP p l i).length : Int)])]) 17 (fun i => l.length - i) 0 ⟨by omega, trivial⟩ ?_
      conv => whnf
      refine ⟨by (refine GOES.cutting h0 rfl rfl rfl (by (repeat' (first | (refine belowO_cons rfl ?_ ?_) | exact belowH_rows (plainQds _) | exact belowH_renrows (plainQds _) | exact belowH_rows (plainNats _) | exact belowH_renrows (plainNats _) | rfl))) ?_ ?_ <;> (repeat' (first | (with_reducible rfl) | exact trivial | (exact sl_eq rfl (by first | omega | (simp (disch := omega) only [lnB, wrap64, wrap32] <;> omega) | (simp; done) | (simp <;> omega))) | (exact congrArg (SV.int _) (by first | omega | (simp (disch := omega) only [lnB, wrap64, wrap32] <;> omega) | (simp; done) | (simp <;> omega))) | (exact box_int (by first | omega | (simp (disch := omega) only [lnB, wrap64, wrap32] <;> omega) | (simp; done) | (simp <;> omega))) | (exact box_sl (by first | omega | (simp (disch := omega) only [lnB, wrap64, wrap32] <;> omega) | (simp; done) | (simp <;> omega))) | (exact renH_plain _ (h := .rows _ _) (plainQds _)) | (exact renH_plain _ (h := .rows _ _) (plainNats _)) | (exact congrArg (Hp.rows _) (by rfl)) | ((conv => whnf); refine ⟨?_, ?_⟩) | rfl))), ?_⟩
      rintro i ⟨hi, hst⟩
      have hli := hlen i
      conv => whnf
      by_cases hil : i < l.length
      · have hs := fitP_succ (p := p) hil
        have hfl := hlen (i + 1)
        repeat' ((first | with_reducible refine IF.tt ?_ | with_reducible refine IF.ff ?_ | refine CALL.value (fits_does p (l[i]'(by omega))) rfl rfl ?_ | (refine GET.at (row := qdRow (l[i]'(by omega))) (by first | exact mid_at2 (by omega) (by omega) | (rw [renLL_plain _ (plainQds _)]; exact mid_at2 (by omega) (by omega))) ?_; conv => whnf) | ((with_reducible refine NEED.mk ?_ ?_); (first | with_reducible rfl | omega | (simp (disch := omega) only [lnB, wrap64, wrap32] <;> omega) | (intro h; (try simp (disch := omega) only [hsB, hsC, lnB, wrap64, wrap32, simprocAttr] at h); (first | omega | (simp (disch := omega) only [lnB, wrap64, wrap32] <;> omega))) | (exact needApp 256 rfl rfl (by simp) (by simp) (by omega)) | (exact ⟨by omega, le_reach (by omega)⟩) | (exact ⟨by omega, by omega, le_reach (by omega)⟩) | (simp <;> omega))) | ((with_reducible apply GET.at); rfl) | ((with_reducible apply GETG.at); rfl) | ((with_reducible refine UNK.mk (fun h => ?_) ?_) <;> try (exfalso; omega)) | ((with_reducible refine IF.mk (fun h => ?_) (fun h => ?_)) <;> (try simp (disch := omega) only [hsB, hsC, lnB, wrap64, wrap32, simprocAttr] at h) <;> try (exfalso; omega))) <;> conv => whnf)
        · have hin := h0
          refine YIELD.of tabOK rfl rfl rfl ?_
          intro η2 ro2 h0
          conv => whnf
          have hat := (fitP_at hil h).1
          have hlt := (fitP_at hil h).2
          have hgN : ((fitP p l l.length).map natRow)[(fitP p l i).length]? = some (natRow i) := by rw [List.getElem?_map, hat]; rfl
          rw [if_pos h] at hs
          have hs1 : (fitP p l (i + 1)).length = (fitP p l i).length + 1 := by rw [hs]; simp
          repeat' ((first | with_reducible refine IF.tt ?_ | with_reducible refine IF.ff ?_ | refine DRAWN.of (id := 5) tabOK mixed plLawMatch0 (by kernel_rfl) ?_ | refine DRAWN.of (id := 6) tabOK mixed plLawMatch1 (by kernel_rfl) ?_ | refine DRAWN.of (id := 21) tabOK mixed plLawMatch2 (by kernel_rfl) ?_ | with_reducible refine ADD.mk (fun _ _ => ?_) | with_reducible refine NEED.mk (Det.of rfl) ?_ | refine NEED.mk (det_pos (by omega)) ?_ | with_reducible refine FORK.mk ?_ ?_ | (refine GET.at (row := qdRow (l[i]'(by omega))) (row_at0 (by omega) (by omega)) ?_; conv => whnf) | (refine GET.at (row := natRow i) (by rw [show (0 + ((fitP p l i).length : Int).toNat) = (fitP p l i).length by omega]; exact hgN) ?_; conv => whnf) | (refine GETG.at (row := natRow i) (by rw [show (0 + ((fitP p l i).length : Int).toNat) = (fitP p l i).length by omega]; exact hgN) ?_; conv => whnf) | ((with_reducible refine NEED.mk ?_ ?_); (first | with_reducible rfl | omega | (simp (disch := omega) only [lnB, wrap64, wrap32] <;> omega) | (intro h; (try simp (disch := omega) only [hsB, hsC, lnB, wrap64, wrap32, simprocAttr] at h); (first | omega | (simp (disch := omega) only [lnB, wrap64, wrap32] <;> omega))) | (exact needApp 256 rfl rfl (by simp) (by simp) (by omega)) | (exact ⟨by omega, le_reach (by omega)⟩) | (exact ⟨by omega, by omega, le_reach (by omega)⟩) | (simp <;> omega))) | ((with_reducible apply GET.at); rfl) | ((with_reducible apply GETG.at); rfl) | ((with_reducible refine UNK.mk (fun h => ?_) ?_) <;> try (exfalso; omega)) | ((with_reducible refine IF.mk (fun h => ?_) (fun h => ?_)) <;> (try simp (disch := omega) only [hsB, hsC, lnB, wrap64, wrap32, simprocAttr] at h) <;> try (exfalso; omega))) <;> conv => whnf)
          all_goals first
            | (exfalso; simp_all; done)
            | (exfalso; omega)
            | skip
          · skip
            refine RANGEF.within tabOK (gf := 30) (g := 30) (fn := Try.f30) (cap := [.ptr (.loc 9) 0 0 0, .ptr (.loc 10) 0 0 0]) Try.call30 Try.func30 rfl 24 rfl _ rfl rfl rfl rfl rfl rfl ?_
            conv => whnf
            intro η3 h0
            conv => whnf
            refine LOOP.gok tabOK [0, 2, 6, 7] [1, 2, 3, 4, 5, 6, 7, 8, 9, 10, 11, 12, 13, 14, 15, 16, 17, 18, 20] (X := Nat) (fun j => j ≤ l.length) (fun j => [(8, .int .i64 (j : Int))]) (fun j => [(19, .box [.int .i64 ((fitP p l j).length : Int)])]) 21 (fun j => l.length - j) 0 (by omega) ?_
            conv => whnf
            refine ⟨by (refine GOES.cutting h0 rfl rfl rfl (by (repeat' (first | (refine belowO_cons rfl ?_ ?_) | exact belowH_rows (plainQds _) | exact belowH_renrows (plainQds _) | exact belowH_rows (plainNats _) | exact belowH_renrows (plainNats _) | rfl))) ?_ ?_ <;> (repeat' (first | (with_reducible rfl) | exact trivial | (exact sl_eq rfl (by first | omega | (simp (disch := omega) only [lnB, wrap64, wrap32] <;> omega) | (simp; done) | (simp <;> omega))) | (exact congrArg (SV.int _) (by first | omega | (simp (disch := omega) only [lnB, wrap64, wrap32] <;> omega) | (simp; done) | (simp <;> omega))) | (exact box_int (by first | omega | (simp (disch := omega) only [lnB, wrap64, wrap32] <;> omega) | (simp; done) | (simp <;> omega))) | (exact box_sl (by first | omega | (simp (disch := omega) only [lnB, wrap64, wrap32] <;> omega) | (simp; done) | (simp <;> omega))) | (exact renH_plain _ (h := .rows _ _) (plainQds _)) | (exact renH_plain _ (h := .rows _ _) (plainNats _)) | (exact congrArg (Hp.rows _) (by rfl)) | ((conv => whnf); refine ⟨?_, ?_⟩) | rfl))), ?_⟩
            intro j hj
            have hlj := hlen j
            conv => whnf
            by_cases hjl : j < l.length
            · have hsj := fitP_succ (p := p) hjl
              have hfj := hlen (j + 1)
              repeat' ((first | with_reducible refine IF.tt ?_ | with_reducible refine IF.ff ?_ | refine CALL.value (fits_does p (l[j]'(by omega))) rfl rfl ?_ | (refine GET.at (row := qdRow (l[j]'(by omega))) (by first | exact mid_at2 (by omega) (by omega) | (rw [renLL_plain _ (plainQds _)]; exact mid_at2 (by omega) (by omega))) ?_; conv => whnf) | ((with_reducible refine NEED.mk ?_ ?_); (first | with_reducible rfl | omega | (simp (disch := omega) only [lnB, wrap64, wrap32] <;> omega) | (intro h; (try simp (disch := omega) only [hsB, hsC, lnB, wrap64, wrap32, simprocAttr] at h); (first | omega | (simp (disch := omega) only [lnB, wrap64, wrap32] <;> omega))) | (exact needApp 256 rfl rfl (by simp) (by simp) (by omega)) | (exact ⟨by omega, le_reach (by omega)⟩) | (exact ⟨by omega, by omega, le_reach (by omega)⟩) | (simp <;> omega))) | ((with_reducible apply GET.at); rfl) | ((with_reducible apply GETG.at); rfl) | ((with_reducible refine UNK.mk (fun h => ?_) ?_) <;> try (exfalso; omega)) | ((with_reducible refine IF.mk (fun h => ?_) (fun h => ?_)) <;> (try simp (disch := omega) only [hsB, hsC, lnB, wrap64, wrap32, simprocAttr] at h) <;> try (exfalso; omega))) <;> conv => whnf)
              · have hfit := h
                refine YIELD.of tabOK rfl rfl rfl ?_
                intro η4 ro4 h4
                conv => whnf
                have hatj := (fitP_at hjl hfit).1
                have hltj := (fitP_at hjl hfit).2
                have hgJ : ((fitP p l l.length).map natRow)[(fitP p l j).length]? = some (natRow j) := by rw [List.getElem?_map, hatj]; rfl
                rw [if_pos hfit] at hsj
                have hsj1 : (fitP p l (j + 1)).length = (fitP p l j).length + 1 := by rw [hsj]; simp
                repeat' ((first | with_reducible refine IF.tt ?_ | with_reducible refine IF.ff ?_ | (refine GET.at (row := natRow j) (by rw [show (0 + ((fitP p l j).length : Int).toNat) = (fitP p l j).length by omega]; exact hgJ) ?_; conv => whnf) | (refine GETG.at (row := natRow j) (by rw [show (0 + ((fitP p l j).length : Int).toNat) = (fitP p l j).length by omega]; exact hgJ) ?_; conv => whnf) | ((with_reducible refine NEED.mk ?_ ?_); (first | with_reducible rfl | omega | (simp (disch := omega) only [lnB, wrap64, wrap32] <;> omega) | (intro h; (try simp (disch := omega) only [hsB, hsC, lnB, wrap64, wrap32, simprocAttr] at h); (first | omega | (simp (disch := omega) only [lnB, wrap64, wrap32] <;> omega))) | (exact needApp 256 rfl rfl (by simp) (by simp) (by omega)) | (exact ⟨by omega, le_reach (by omega)⟩) | (exact ⟨by omega, by omega, le_reach (by omega)⟩) | (simp <;> omega))) | ((with_reducible apply GET.at); rfl) | ((with_reducible apply GETG.at); rfl) | ((with_reducible refine UNK.mk (fun h => ?_) ?_) <;> try (exfalso; omega)) | ((with_reducible refine IF.mk (fun h => ?_) (fun h => ?_)) <;> (try simp (disch := omega) only [hsB, hsC, lnB, wrap64, wrap32, simprocAttr] at h) <;> try (exfalso; omega))) <;> conv => whnf)
                all_goals first
                  | (exfalso; simp_all; done)
                  | (exfalso; omega)
                  | (refine ⟨j + 1, by omega, by omega, ?_⟩; (conv => whnf); (refine GOES.cutting h0 rfl rfl rfl (by (repeat' (first | (refine belowO_cons rfl ?_ ?_) | exact belowH_rows (plainQds _) | exact belowH_renrows (plainQds _) | exact belowH_rows (plainNats _) | exact belowH_renrows (plainNats _) | rfl))) ?_ ?_ <;> (repeat' (first | (with_reducible rfl) | exact trivial | (exact sl_eq rfl (by first | omega | (simp (disch := omega) only [lnB, wrap64, wrap32] <;> omega) | (simp; done) | (simp <;> omega))) | (exact congrArg (SV.int _) (by first | omega | (simp (disch := omega) only [lnB, wrap64, wrap32] <;> omega) | (simp; done) | (simp <;> omega))) | (exact box_int (by first | omega | (simp (disch := omega) only [lnB, wrap64, wrap32] <;> omega) | (simp; done) | (simp <;> omega))) | (exact box_sl (by first | omega | (simp (disch := omega) only [lnB, wrap64, wrap32] <;> omega) | (simp; done) | (simp <;> omega))) | (exact renH_plain _ (h := .rows _ _) (plainQds _)) | (exact renH_plain _ (h := .rows _ _) (plainNats _)) | (exact congrArg (Hp.rows _) (by rfl)) | ((conv => whnf); refine ⟨?_, ?_⟩) | rfl))); done)
                  | trace_state
              · have hfit := h
                refine ⟨j + 1, by omega, by omega, ?_⟩
                rw [hsj, if_neg (by rw [hfit]; simp)]
                conv => whnf
                (refine GOES.cutting h0 rfl rfl rfl (by (repeat' (first | (refine belowO_cons rfl ?_ ?_) | exact belowH_rows (plainQds _) | exact belowH_renrows (plainQds _) | exact belowH_rows (plainNats _) | exact belowH_renrows (plainNats _) | rfl))) ?_ ?_ <;> (repeat' (first | (with_reducible rfl) | exact trivial | (exact sl_eq rfl (by first | omega | (simp (disch := omega) only [lnB, wrap64, wrap32] <;> omega) | (simp; done) | (simp <;> omega))) | (exact congrArg (SV.int _) (by first | omega | (simp (disch := omega) only [lnB, wrap64, wrap32] <;> omega) | (simp; done) | (simp <;> omega))) | (exact box_int (by first | omega | (simp (disch := omega) only [lnB, wrap64, wrap32] <;> omega) | (simp; done) | (simp <;> omega))) | (exact box_sl (by first | omega | (simp (disch := omega) only [lnB, wrap64, wrap32] <;> omega) | (simp; done) | (simp <;> omega))) | (exact renH_plain _ (h := .rows _ _) (plainQds _)) | (exact renH_plain _ (h := .rows _ _) (plainNats _)) | (exact congrArg (Hp.rows _) (by rfl)) | ((conv => whnf); refine ⟨?_, ?_⟩) | rfl)))
            · have hje : j = l.length := by omega
              subst hje
              repeat' ((first | with_reducible refine IF.tt ?_ | with_reducible refine IF.ff ?_ | ((with_reducible refine NEED.mk ?_ ?_); (first | with_reducible rfl | omega | (simp (disch := omega) only [lnB, wrap64, wrap32] <;> omega) | (intro h; (try simp (disch := omega) only [hsB, hsC, lnB, wrap64, wrap32, simprocAttr] at h); (first | omega | (simp (disch := omega) only [lnB, wrap64, wrap32] <;> omega))) | (exact needApp 256 rfl rfl (by simp) (by simp) (by omega)) | (exact ⟨by omega, le_reach (by omega)⟩) | (exact ⟨by omega, by omega, le_reach (by omega)⟩) | (simp <;> omega))) | ((with_reducible apply GET.at); rfl) | ((with_reducible apply GETG.at); rfl) | ((with_reducible refine UNK.mk (fun h => ?_) ?_) <;> try (exfalso; omega)) | ((with_reducible refine IF.mk (fun h => ?_) (fun h => ?_)) <;> (try simp (disch := omega) only [hsB, hsC, lnB, wrap64, wrap32, simprocAttr] at h) <;> try (exfalso; omega))) <;> conv => whnf)
              all_goals try (exfalso; simp_all; done)
              all_goals try (exfalso; omega)
              all_goals first
                | ((with_reducible refine Exists.intro (i + 1) ?_); (refine ⟨⟨by omega, trivial⟩, by omega, ?_⟩; (conv => whnf); (refine GOES.cutting hin rfl rfl rfl (by (repeat' (first | (refine belowO_cons rfl ?_ ?_) | exact belowH_rows (plainQds _) | exact belowH_renrows (plainQds _) | exact belowH_rows (plainNats _) | exact belowH_renrows (plainNats _) | rfl))) ?_ ?_ <;> (repeat' (first | (with_reducible rfl) | exact trivial | (exact sl_eq rfl (by first | omega | (simp (disch := omega) only [lnB, wrap64, wrap32] <;> omega) | (simp; done) | (simp <;> omega))) | (exact congrArg (SV.int _) (by first | omega | (simp (disch := omega) only [lnB, wrap64, wrap32] <;> omega) | (simp; done) | (simp <;> omega))) | (exact box_int (by first | omega | (simp (disch := omega) only [lnB, wrap64, wrap32] <;> omega) | (simp; done) | (simp <;> omega))) | (exact box_sl (by first | omega | (simp (disch := omega) only [lnB, wrap64, wrap32] <;> omega) | (simp; done) | (simp <;> omega))) | (exact renH_plain _ (h := .rows _ _) (plainQds _)) | (exact renH_plain _ (h := .rows _ _) (plainNats _)) | (exact congrArg (Hp.rows _) (by rfl)) | ((conv => whnf); refine ⟨?_, ?_⟩) | rfl)))))
                | trace_state
          all_goals first
            | ((with_reducible refine Exists.intro (i + 1) ?_); (refine ⟨⟨by omega, trivial⟩, by omega, ?_⟩; (conv => whnf); (refine GOES.cutting hin rfl rfl rfl (by (repeat' (first | (refine belowO_cons rfl ?_ ?_) | exact belowH_rows (plainQds _) | exact belowH_renrows (plainQds _) | exact belowH_rows (plainNats _) | exact belowH_renrows (plainNats _) | rfl))) ?_ ?_ <;> (repeat' (first | (with_reducible rfl) | exact trivial | (exact sl_eq rfl (by first | omega | (simp (disch := omega) only [lnB, wrap64, wrap32] <;> omega) | (simp; done) | (simp <;> omega))) | (exact congrArg (SV.int _) (by first | omega | (simp (disch := omega) only [lnB, wrap64, wrap32] <;> omega) | (simp; done) | (simp <;> omega))) | (exact box_int (by first | omega | (simp (disch := omega) only [lnB, wrap64, wrap32] <;> omega) | (simp; done) | (simp <;> omega))) | (exact box_sl (by first | omega | (simp (disch := omega) only [lnB, wrap64, wrap32] <;> omega) | (simp; done) | (simp <;> omega))) | (exact renH_plain _ (h := .rows _ _) (plainQds _)) | (exact renH_plain _ (h := .rows _ _) (plainNats _)) | (exact congrArg (Hp.rows _) (by rfl)) | ((conv => whnf); refine ⟨?_, ?_⟩) | rfl)))))
            | trace_state
        · refine ⟨i + 1, ⟨by omega, by first | exact trivial | (rw [hs, if_neg (by rw [h]; simp)]; exact hst)⟩, by omega, ?_⟩
          rw [hs, if_neg (by rw [h]; simp)]
          conv => whnf
          (refine GOES.cutting h0 rfl rfl rfl (by (repeat' (first | (refine belowO_cons rfl ?_ ?_) | exact belowH_rows (plainQds _) | exact belowH_renrows (plainQds _) | exact belowH_rows (plainNats _) | exact belowH_renrows (plainNats _) | rfl))) ?_ ?_ <;> (repeat' (first | (with_reducible rfl) | exact trivial | (exact sl_eq rfl (by first | omega | (simp (disch := omega) only [lnB, wrap64, wrap32] <;> omega) | (simp; done) | (simp <;> omega))) | (exact congrArg (SV.int _) (by first | omega | (simp (disch := omega) only [lnB, wrap64, wrap32] <;> omega) | (simp; done) | (simp <;> omega))) | (exact box_int (by first | omega | (simp (disch := omega) only [lnB, wrap64, wrap32] <;> omega) | (simp; done) | (simp <;> omega))) | (exact box_sl (by first | omega | (simp (disch := omega) only [lnB, wrap64, wrap32] <;> omega) | (simp; done) | (simp <;> omega))) | (exact renH_plain _ (h := .rows _ _) (plainQds _)) | (exact renH_plain _ (h := .rows _ _) (plainNats _)) | (exact congrArg (Hp.rows _) (by rfl)) | ((conv => whnf); refine ⟨?_, ?_⟩) | rfl)))
      · have hie : i = l.length := by omega
        subst hie
        repeat' ((first | with_reducible refine IF.tt ?_ | with_reducible refine IF.ff ?_ | ((with_reducible refine NEED.mk ?_ ?_); (first | with_reducible rfl | omega | (simp (disch := omega) only [lnB, wrap64, wrap32] <;> omega) | (intro h; (try simp (disch := omega) only [hsB, hsC, lnB, wrap64, wrap32, simprocAttr] at h); (first | omega | (simp (disch := omega) only [lnB, wrap64, wrap32] <;> omega))) | (exact needApp 256 rfl rfl (by simp) (by simp) (by omega)) | (exact ⟨by omega, le_reach (by omega)⟩) | (exact ⟨by omega, by omega, le_reach (by omega)⟩) | (simp <;> omega))) | ((with_reducible apply GET.at); rfl) | ((with_reducible apply GETG.at); rfl) | ((with_reducible refine UNK.mk (fun h => ?_) ?_) <;> try (exfalso; omega)) | ((with_reducible refine IF.mk (fun h => ?_) (fun h => ?_)) <;> (try simp (disch := omega) only [hsB, hsC, lnB, wrap64, wrap32, simprocAttr] at h) <;> try (exfalso; omega))) <;> conv => whnf)
        all_goals first
          | (exfalso; simp_all; done)
          | (exfalso; omega)
          | (refine LOOP.once tabOK ?_; (conv => whnf); repeat' ((first | with_reducible refine IF.tt ?_ | with_reducible refine IF.ff ?_ | ((with_reducible refine NEED.mk ?_ ?_); (first | with_reducible rfl | omega | (simp (disch := omega) only [lnB, wrap64, wrap32] <;> omega) | (intro h; (try simp (disch := omega) only [hsB, hsC, lnB, wrap64, wrap32, simprocAttr] at h); (first | omega | (simp (disch := omega) only [lnB, wrap64, wrap32] <;> omega))) | (exact needApp 256 rfl rfl (by simp) (by simp) (by omega)) | (exact ⟨by omega, le_reach (by omega)⟩) | (exact ⟨by omega, by omega, le_reach (by omega)⟩) | (simp <;> omega))) | ((with_reducible apply GET.at); rfl) | ((with_reducible apply GETG.at); rfl) | ((with_reducible refine UNK.mk (fun h => ?_) ?_) <;> try (exfalso; omega)) | ((with_reducible refine IF.mk (fun h => ?_) (fun h => ?_)) <;> (try simp (disch := omega) only [hsB, hsC, lnB, wrap64, wrap32, simprocAttr] at h) <;> try (exfalso; omega))) <;> conv => whnf); refine CALL.at [0, 8] (kept_does l hl) rfl rfl rfl rfl (by first | rfl | (simp only [belowO, belowH, plainLL_below _ (plainQds _), Bool.and_self, Bool.and_true] <;> rfl)) (by first | rfl | (simp only [belowO, belowH, plainLL_below _ (plainQds _), Bool.and_self, Bool.and_true] <;> rfl)) (by repeat' (first | exact trivial | exact (renH_plain _ (h := .rows _ _) (plainQds _)).symm | exact rfl | exact (renH_plain _ (h := .rows _ _) (plainQds _)).trans (renH_plain _ (h := .rows _ _) (plainQds _)).symm | ((conv => whnf); refine ⟨?_, ?_⟩))) (by repeat' (first | exact trivial | exact (renH_plain _ (h := .rows _ _) (plainQds _)).symm | exact rfl | exact (renH_plain _ (h := .rows _ _) (plainQds _)).trans (renH_plain _ (h := .rows _ _) (plainQds _)).symm | ((conv => whnf); refine ⟨?_, ?_⟩))) rfl rfl ?_; rintro r O nx ⟨rfl, rfl, rfl⟩; (conv => whnf); exact FIN.valueK hout rfl rfl)
end Go.Proofs.Ytillkgjdbnjnoaa
/- TermMatches: the row out of the walk. Conditions: none beyond the statement's own. -/
set_option linter.unusedVariables false
namespace Go.Proofs.Ytillkgjdbnjnoaa.termMatches
open Go.ChangeShapes Go.WideShapes Go.ChangeAt Go.RowKit Go.Our
open Go.ChangeMaps (open_string shut_string)
theorem own : ownKnob Try.prog.godebug = none := by kernel_rfl
theorem laidOut : laidOutB Try.prog = true := by kernel_rfl
theorem readable : ∀ t ∈ Try.f3.params.toList, Try.prog.readableRec t = true ∧ t < Try.prog.types.size := by
  have h : (Try.f3.params.toList.all fun t => Try.prog.readableRec t && decide (t < Try.prog.types.size)) = true := by kernel_rfl
  intro t ht
  have := List.all_eq_true.1 h t ht
  simpa using this
theorem globOf0 {W : World} : GlobOK W := fun g h hg => by simp [Go.Proofs.Ytillkgjdbnjnoaa.tab, Go.Sx.lkp] at hg
set_option maxRecDepth 100000 in
theorem contract (H : Type) (enc : TypeId × Value → H) (W : World) (base : Nat) (args : Array Value) (ds gs : List (DataW H)) (before : List MemPlace)
    (hval : ∀ (j : Nat) t v, Try.f3.params[j]? = some t → args[j]? = some v → Value.okWide Try.prog W .any base t v)
    (hW : DataW.Whole enc Try.prog Try.f3.params.toList Rows.termMatchesSpec.vars false W args.toList ds gs before)
    (hsz : (DataW.weightsEach Try.prog (Try.f3.params.toList ++ (OpenSpec.ofChange Rows.termMatchesSpec).bare.plain.varTypes Try.prog) (ds ++ gs)).all (fun x => decide (x ≤ reachBytes)) = true)
    : Calls Try.prog 3 args W fun e W' => ∃ v, e = .returned v ∧ Rows.termMatchesSpec.post enc Try.prog Try.f3 false true false false W args v W' := by
  have hW' := hW
  have hlt := hW.lt
  obtain ⟨p, q, hA0, hV, rfl, hfz, hnd⟩ := hW
  have hA : DataW.TrodAll enc Try.prog W 0 (fun _ => true) true Try.f3.params.toList args.toList ds p := hA0
  rw [Try.params3] at hA hval
  obtain ⟨v0, vs0, d0, ds0, p0, q0, hargs, rfl, rfl, h0, r0⟩ := trodAll_cons hA
  obtain ⟨v1, vs1, d1, ds1, p1, q1, rfl, rfl, rfl, h1, r1⟩ := trodAll_cons r0
  obtain ⟨v2, vs2, d2, ds2, p2, q2, rfl, rfl, rfl, h2, r2⟩ := trodAll_cons r1
  obtain ⟨v3, vs3, d3, ds3, p3, q3, rfl, rfl, rfl, h3, r3⟩ := trodAll_cons r2
  obtain ⟨rfl, rfl, rfl⟩ := trodAll_nil r3
  obtain rfl : args = #[v0, v1, v2, v3] := by cases args; simp_all
  obtain ⟨rfl, rfl⟩ := trodVars_none hV
  have hlt' : ∀ x ∈ p0 ++ p1 ++ p2 ++ p3, x.block < W.heap.size := fun x hx => hlt x (by simpa using hx)
  have hsz' : (DataW.weightsEach Try.prog [22, 26, 3, 3] [d0, d1, d2, d3]).all (fun x => decide (x ≤ reachBytes)) = true := hsz
  simp only [DataW.weightsEach] at hsz'
  have sz0 := all_left hsz'
  have rs0 := all_right hsz'
  obtain ⟨l0, en0, sl0, dd0⟩ := read_qds (hval 0 22 v0 rfl rfl) h0
  have sm0 := qds_small dd0 sz0
  have sz1 := all_left rs0
  have rs1 := all_right rs0
  obtain ⟨t1, rfl, hd1, ok1⟩ := read_qd (hval 1 26 v1 rfl rfl) h1
  have sm1 := qd_sm (by rw [← hd1]; exact sz1)
  have sz2 := all_left rs1
  have rs2 := all_right rs1
  obtain ⟨x2, rfl, rfl, rfl, wx2⟩ := open_int Try.underlying3 (hval 2 3 v2 rfl rfl) h2
  have bx2 := bounds_i64 wx2
  have sz3 := all_left rs2
  obtain ⟨x3, rfl, rfl, rfl, wx3⟩ := open_int Try.underlying3 (hval 3 3 v3 rfl rfl) h3
  have bx3 := bounds_i64 wx3
  refine (law_calls1 sl0 (lawMatch_does l0 t1 x2 x3 sm0.1 bx2) Try.call3 ⟨_, _, rfl, sl0.den rfl, _, _, rfl, Go.Sx.Den.mono List.nil_prefix (den_qd t1), _, _, rfl, rfl, _, _, rfl, rfl, rfl⟩ globOf0).mono fun e W' ⟨he, hb⟩ => ?_
  subst he
  exact ⟨_, rfl, law_post laidOut readable rfl Try.underlying4 hW' rfl rfl rfl rfl hb⟩
/-- A world for the witness: the settled one, each listed variable holding what its initialiser lays. -/
noncomputable def laidWorld (os : Os) : World :=
  World.holding Try.prog os ⟨#[], #[], []⟩
theorem laid_met (os : Os) : laidMet Try.prog Rows.termMatchesRow.laid ((laidWorld os).forCall (fun _ _ => 0) ⟨#[], #[Value.slice none 0 0, Value.agg #[.int .i64 0, .string ⟨#[]⟩, .string ⟨#[]⟩, .string ⟨#[]⟩, .int .i64 0, .string ⟨#[]⟩, .string ⟨#[]⟩, .string ⟨#[]⟩, .int .i64 0, .string ⟨#[]⟩, .string ⟨#[]⟩, .string ⟨#[]⟩, .int .i64 0, .string ⟨#[]⟩, .string ⟨#[]⟩, .string ⟨#[]⟩], Value.int .i64 0, Value.int .i64 0], []⟩).memory :=
  laidMet_of_run' 8 (by kernel_rfl) (by kernel_rfl)
theorem reads (os : Os) {H : Type} (enc : TypeId × Value → H) : ∃ places, DataW.whole enc Try.prog ((laidWorld os).forCall (fun _ _ => 0) ⟨#[], #[Value.slice none 0 0, Value.agg #[.int .i64 0, .string ⟨#[]⟩, .string ⟨#[]⟩, .string ⟨#[]⟩, .int .i64 0, .string ⟨#[]⟩, .string ⟨#[]⟩, .string ⟨#[]⟩, .int .i64 0, .string ⟨#[]⟩, .string ⟨#[]⟩, .string ⟨#[]⟩, .int .i64 0, .string ⟨#[]⟩, .string ⟨#[]⟩, .string ⟨#[]⟩], Value.int .i64 0, Value.int .i64 0], []⟩).memory Try.f3.params.toList Rows.termMatchesSpec.vars false #[Value.slice none 0 0, Value.agg #[.int .i64 0, .string ⟨#[]⟩, .string ⟨#[]⟩, .string ⟨#[]⟩, .int .i64 0, .string ⟨#[]⟩, .string ⟨#[]⟩, .string ⟨#[]⟩, .int .i64 0, .string ⟨#[]⟩, .string ⟨#[]⟩, .string ⟨#[]⟩, .int .i64 0, .string ⟨#[]⟩, .string ⟨#[]⟩, .string ⟨#[]⟩], Value.int .i64 0, Value.int .i64 0].toList 8 = some ([.nil, .agg [.agg [.lit (.int .i64 0), .lit (.string []), .lit (.string []), .lit (.string [])], .agg [.lit (.int .i64 0), .lit (.string []), .lit (.string []), .lit (.string [])], .agg [.lit (.int .i64 0), .lit (.string []), .lit (.string []), .lit (.string [])], .agg [.lit (.int .i64 0), .lit (.string []), .lit (.string []), .lit (.string [])]], .lit (.int .i64 0), .lit (.int .i64 0)], [], places) :=
  ⟨[], by kernel_rfl⟩
set_option maxRecDepth 100000 in
theorem lifted (os : Os) (started : os.Started) (H : Type) (enc : TypeId × Value → H) (F : Stop.Interp) :
    ReturnsInHanded {} Try.checked os 3 .any ((OpenSpec.ofChange Rows.termMatchesSpec).preRow enc Try.prog Try.f3 Rows.termMatchesRow.domain false Rows.termMatchesRow.laid) (((OpenSpec.ofChange Rows.termMatchesSpec).at F).post enc Try.prog Try.f3 false true false false) := by
  obtain ⟨places, hx⟩ := reads os enc
  refine returnsInHanded_of_row (C := Try.checked) (s := (OpenSpec.ofChange Rows.termMatchesSpec)) own started (by kernel_rfl) Try.func3
    (witness_row_at (enc := enc) (C := Try.checked) false (laidWorld os) #[.slice none 0 0, .agg #[.int .i64 0, .string ⟨#[]⟩, .string ⟨#[]⟩, .string ⟨#[]⟩, .int .i64 0, .string ⟨#[]⟩, .string ⟨#[]⟩, .string ⟨#[]⟩, .int .i64 0, .string ⟨#[]⟩, .string ⟨#[]⟩, .string ⟨#[]⟩, .int .i64 0, .string ⟨#[]⟩, .string ⟨#[]⟩, .string ⟨#[]⟩], .int .i64 0, .int .i64 0] rfl (by kernel_rfl) (by kernel_rfl) (by kernel_rfl)
      (OpenSpec.preRow_of_cond 8 hx (by kernel_rfl) (fun k hk => by cases hk) (by kernel_rfl) (laid_met os))) ?_
  intro W base args ds gs before hval hW _ hcond hsz hL _ _
  exact contract H enc W base args ds gs before hval hW hsz
theorem said : Rows.TermMatchesSaid :=
  OpenClaim.holds_of_cond 3 Try.f3 rfl rfl rfl rfl rfl rfl rfl ⟨rfl, rfl, rfl, rfl, rfl⟩ rfl rfl rfl rfl rfl (by kernel_rfl) Try.func3 (by kernel_rfl)
    (of_decide_eq_true (by kernel_rfl)) (by unfold Func.isWrapper; first | (rw [if_pos (by decide +kernel)]; kernel_rfl) | (rw [if_neg (by decide +kernel)]; exact ⟨rfl, rfl⟩))
    (fun os started H enc _ F => by rw [OpenClaim.pre_eq_preRow]; exact lifted os started H enc F)
end Go.Proofs.Ytillkgjdbnjnoaa.termMatches
