/- Part 21: ReadI. Conditions: as each part says. -/
import Derived.Test.YtbfbokdccdagkaaGreatDoorCls9
import Derived.Test.YtbfbokdccdagkaaGreatDoorCls18
set_option linter.unusedVariables false
set_option linter.unusedSimpArgs false
namespace Go.Proofs.YtbfbokdccdagkaaGreatDoor
open Go.RowKit Go.Our Go.ChangeShapes Go.WideShapes Go.ChangeAt Go.Sx
section
variable {H : Type} {enc : TypeId × Value → H} {w : World}
set_option maxRecDepth 100000 in
theorem Z8A {v : Value} {d : DataW H} {p : List MemPlace} {r : Reach} {b0 : Nat} (ho : Value.okWide Tryz.prog w r b0 22 v) (h : DataW.Trod enc Tryz.prog w 0 (fun _ => true) true 22 v d p) :
   ∃ (l : List Qd) (en : Option Ent), SliceIn w v 16 (l.map Zc) en ∧ ((l = [] ∧ d = .nil) ∨ ∃ z : List Qd, d = .slice (l.map qdD) (z.map qdD)) ∧ ∀ q ∈ l, QdWf q := by
 obtain ⟨fuel, hf⟩ := h
 obtain ⟨a0, l0, c0, rfl⟩ := okWide_slice Tryz.underlying22 ho
 obtain ⟨l, en, h1, h2, _, h3⟩ := Z5S (G := QdWf) qdL qdD Zc (by omega) (fun a => ⟨rfl, rfl⟩) Z8x Tryz.underlying22 Z5c (fun fuel cs x hx => let ⟨q, h1, h2, h3⟩ := ZaS hx; ⟨q, h1, by rw [h2], h3⟩) (fun a ha => by
   subst ha
   simp only [Value.okWide, Tryz.underlying22, Cell.okWide, Cell.ok] at ho
   obtain ⟨_, _, _, hspot, rw', cl, hsh, _⟩ := ho
   refine ⟨hspot, ?_⟩
   unfold World.shape? at hsh
   split at hsh
   · rename_i c e' f' hh; exact ⟨_, _, _, hh⟩
   · cases hsh) hf
 exact ⟨l, en, h1, h2, h3⟩
theorem Zbl (t : Tm) : t.t.length + t.y.length + t.l.length ≤ Rows.uptoBulk (tmD (H := H) t) := by
 simp only [tmD, Rows.uptoBulk, Rows.uptoBulkAll]; omega
theorem Z9L (q : Qd) : ∀ t ∈ [q.s, q.p, q.o, q.g], t.t.length + t.y.length + t.l.length ≤ Rows.uptoBulk (qdD (H := H) q) := by
 intro t ht
 have h := Zbl (H := H) t
 simp only [qdD, Rows.uptoBulk, Rows.uptoBulkAll]
 simp only [List.mem_cons, List.not_mem_nil, or_false] at ht
 rcases ht with rfl | rfl | rfl | rfl <;> omega
theorem Z41 : ∀ {l : List Qd} {q : Qd}, q ∈ l → Rows.uptoBulk (qdD (H := H) q) ≤ Rows.uptoBulkAll (l.map (qdD (H := H)))
 | [], q, h => by cases h
 | a :: l, q, h => by
   simp only [List.map_cons, Rows.uptoBulkAll]
   rcases List.mem_cons.1 h with rfl | h
   · omega
   · have := Z41 h; omega
theorem Zbm {l : List Qd} {d : DataW H} (hd : (l = [] ∧ d = .nil) ∨ ∃ z : List Qd, d = .slice (l.map qdD) (z.map qdD)) (h : Rows.uptoBulk d ≤ 1048576) (hw : ∀ q ∈ l, QdWf q) : ClsOK l := by
 have hln := Z8z hd h
 refine ⟨by omega, fun q hq => ?_⟩
 have hb : Rows.uptoBulk (qdD (H := H) q) ≤ 1048576 := by
   rcases hd with ⟨rfl, _⟩ | ⟨z, rfl⟩
   · cases hq
   · have := Z41 (H := H) hq
     simp only [Rows.uptoBulk] at h; omega
 have hT := Z9L (H := H) q
 obtain ⟨w1, w2, w3, w4⟩ := hw q hq
 have k : ∀ t : Tm, t ∈ [q.s, q.p, q.o, q.g] → TmWf t → TmOK 1048576 t := fun t ht wt => ⟨Nat.le_trans (hT t ht) hb, bounds_i64 wt⟩
 exact ⟨k _ (by simp) w1, k _ (by simp) w2, k _ (by simp) w3, k _ (by simp) w4⟩
end
end Go.Proofs.YtbfbokdccdagkaaGreatDoor
