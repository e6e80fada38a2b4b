/- Part 33: ReadP. Conditions: as each part says. -/
import Derived.Test.YtbfbokdccdagkaaGreatDoorICh10
import Derived.Test.YtbfbokdccdagkaaGreatDoorICh25
set_option linter.unusedVariables false
set_option linter.unusedSimpArgs false
namespace Go.Proofs.YtbfbokdccdagkaaGreatDoor
open Go.RowKit Go.Our Go.ChangeShapes Go.WideShapes Go.ChangeAt Go.Sx
section
variable {H : Type} {enc : TypeId × Value → H} {w : World} {base : Nat} {sp : Nat → Bool} {held : Bool}
abbrev prL (x : Pr) : List Value := [strV x.1, strV x.2]
def prD (x : Pr) : DataW H := .agg [.lit (.string x.1), .lit (.string x.2)]
theorem Z7g : Tryz.prog.cellsOf 40 = 2 := by kernel_rfl
set_option maxRecDepth 100000 in
theorem ZbT {fuel : Nat} {cs : List Value} {x : DataW H × List MemPlace} (h : DataW.trod enc Tryz.prog w base sp held fuel 40 cs = some x) :
   ∃ t : Pr, cs = prL t ∧ x = (prD t, []) := by
 cases fuel with
 | zero => simp [DataW.trod] at h
 | succ fuel =>
   simp only [DataW.trod, Tryz.underlying40, Z7g] at h
   split at h
   · rename_i hl
     match cs, hl with
     | [c0, c1], _ =>
       simp only [List.mapM_cons, List.mapM_nil, Z6M, List.drop_zero, List.drop_succ_cons, List.take_succ_cons, List.take_zero] at h
       simp only [Option.map_eq_some_iff, Option.bind_eq_bind, Option.bind_eq_some_iff, Option.pure_def, Option.some.injEq] at h
       obtain ⟨xs, ⟨y0, h0, r1, ⟨y1, h1, r2, rfl, rfl⟩, rfl⟩, hx⟩ := h
       obtain ⟨s1, hs1, rfl, w1⟩ := DataW.trod_string Tryz.underlying9 h0
       obtain ⟨s2, hs2, rfl, w2⟩ := DataW.trod_string Tryz.underlying9 h1
       injection hs1 with hs1 _; injection hs2 with hs2 _
       subst hs1 hs2
       exact ⟨(s1.data.toList, s2.data.toList), by show [_, _] = [strV _, strV _]; rw [Z1M, Z1M], by rw [← hx]; rfl⟩
   · cases h
theorem Z9L (η : Env) (q : Pr) (j : Nat) (sv : SV) (h : (YZ q)[j]? = some sv) : ∃ u, (prL q)[j]? = some u ∧ u.oneCell' = true ∧ Den η sv u := by
 have hlt := (List.getElem?_eq_some_iff.1 h).1
 have hl : (YZ q).length = 2 := rfl
 rw [hl] at hlt
 match j, hlt with
 | 0, _ | 1, _ => injection h with h; subst h; exact ⟨_, rfl, rfl, by simp only [Den]⟩
set_option maxRecDepth 100000 in
theorem ZaD {v : Value} {d : DataW H} {p : List MemPlace} {r : Reach} {b0 : Nat} (ho : Value.okWide Tryz.prog w r b0 31 v) (h : DataW.Trod enc Tryz.prog w 0 (fun _ => true) true 31 v d p) :
   ∃ (l : List Pr) (en : Option Ent), SliceIn w v 2 (l.map YZ) en ∧ ((l = [] ∧ d = .nil) ∨ ∃ z : List Pr, d = .slice (l.map prD) (z.map prD)) :=
 Z6I prL prD YZ (by omega) (fun a => ⟨rfl, rfl⟩) Z9L Tryz.underlying31 Z7g (fun fuel cs x hx => ZbT hx) ho h
theorem ZaE : Tryz.prog.bytesOf 40 = 32 := by kernel_rfl
theorem Z9M {l : List Pr} {d : DataW H} (hd : (l = [] ∧ d = .nil) ∨ ∃ z : List Pr, d = .slice (l.map prD) (z.map prD)) (h : (d.weights Tryz.prog 31).all (fun n => decide (n ≤ reachBytes)) = true) : l.length * 32 ≤ 140737488351232 := by
 rcases hd with ⟨rfl, rfl⟩ | ⟨z, rfl⟩
 · simp
 · simp only [DataW.weights, Tryz.underlying31, ZaE, List.length_map, List.all_cons, List.all_append, Bool.and_eq_true, decide_eq_true_eq] at h
   obtain ⟨h1, h2, _⟩ := h
   unfold reachBytes at h1
   rw [Nat.add_mul] at h1
   omega
theorem Z88 {g : FuncId} {args : List SV} {vs : List Value} {W : World} {v v' u : Value} {es es' et : Nat} {rs rs' rt : List (List SV)} {en en' eu : Option Ent} (h : SliceIn W v es rs en) (h' : SliceIn W v' es' rs' en') (hu : SliceIn W u et rt eu) (sp : Does Tryz.prog tab g 3 args [] [(0, .rows es rs), (1, .rows es' rs'), (2, .rows et rt)] (ValK 3 (.bool true))) (eg : ∀ args w, (callFunc g args).run Tryz.prog w = .ok (.enter g args) w) (hd : DenL [en, en', eu] args vs) (hg : Z8K W) :
   Calls Tryz.prog g ⟨vs⟩ W fun e W' => e = .returned (.bool true) ∧ Below W.heap.size W W' := by
 refine Z7v (η0 := [en, en', eu]) rfl sp eg hd (fun p hp => ?_) (fun i e hi => ?_) hg
 · rcases List.mem_cons.1 hp with rfl | hp
   · exact h.sat rfl
   · rcases List.mem_cons.1 hp with rfl | hp
     · exact h'.sat rfl
     · have hp := List.mem_singleton.1 hp
       subst hp; exact hu.sat rfl
 · match i, hi with
   | 0, hi => injection hi with hi; exact h.1 e hi
   | 1, hi => injection hi with hi; exact h'.1 e hi
   | 2, hi => injection hi with hi; exact hu.1 e hi
end
end Go.Proofs.YtbfbokdccdagkaaGreatDoor
