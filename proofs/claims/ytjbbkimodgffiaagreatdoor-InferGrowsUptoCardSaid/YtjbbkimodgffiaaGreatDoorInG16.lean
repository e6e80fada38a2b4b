/- Part 16: Sort. Conditions: as each part says. -/
import Derived.Shelf.SlSortCmp.NoneTotal
import Derived.Test.YtjbbkimodgffiaaGreatDoorInG8
set_option linter.unusedVariables false
set_option linter.unusedSimpArgs false
namespace Go.Sx
open Go Go.Sort Go.Shelf Go.Proofs
theorem HeapOK.later {M : Mx} {η : Env} {w w' : World} {O : Hps} {nx : Nat} (H : HeapOK M η w O nx) (hf : FrW w w' fun _ => False) : HeapOK M η w' O nx := by
 have hk : ∀ {i h}, lkp i O = some h → ∀ k, feet η w (.loc i) h k → w'.heap[k]? = w.heap[k]? := fun hi k f => hf.block k ((H.own.1 _ _ hi).1.feet_lt f) (fun h => h)
 have hb : ∀ {i h}, lkp i O = some h → ∀ k, feet η w' (.loc i) h k → feet η w (.loc i) h k := fun hi k f => H.stands List.prefix_rfl hi (hk hi) f
 exact ⟨H.pre, H.len, ⟨fun i h hi => ⟨(H.own.1 i h hi).1.keep (hk hi), fun k f => (H.own.1 i h hi).2 k (hb hi k f)⟩, fun i j h h' k hi hj hij f f' => H.own.2 i j h h' k hi hj hij (hb hi k f) (hb hj k f')⟩, H.fr.trans hf (fun n h => h.elim), H.sok⟩
theorem FrW.grown {w w' : World} (h : FrW w w' fun _ => False) : ∃ q os, w' = grow (w.drewN q) os := by
 refine ⟨w'.drawn - w.drawn, w'.heap.extract w.heap.size, ?_⟩
 have hd := h.drawn
 have e1 : w'.heap = w.heap ++ w'.heap.extract w.heap.size := by
   apply Array.ext_getElem?
   intro k
   rcases Nat.lt_or_ge k w.heap.size with hk | hk
   · rw [Array.getElem?_append_left hk]; exact h.block k hk (fun x => x)
   · rw [Array.getElem?_append_right hk, Array.getElem?_extract]
     simp only [Nat.min_self]
     split
     · rw [show w.heap.size + (k - w.heap.size) = k by omega]
     · rename_i hn
       exact Array.getElem?_eq_none (by omega)
 obtain ⟨heap, tape, drawn, os, output⟩ := w
 obtain ⟨heap', tape', drawn', os', output'⟩ := w'
 have h1 := h.os
 have h2 := h.tape
 have h3 := h.output
 simp only at h1 h2 h3 hd e1
 subst h1 h2 h3
 simp only [grow, World.drewN]
 rw [← e1]
 congr 1
 omega
section
variable {α : Type} [Inhabited α] (enc : α → List Value) (k : Nat)
theorem JW (w : World) (blk off m : Nat) (dk : Array α) (os : Array Obj) : (sortWorldK enc k w blk off m dk os).heap = (mapBlock w blk (putCells id off (flatK enc k dk))).heap ++ os := by
 simp [sortWorldK, grow, putRowK, putRow, mapBlock, Sort.ahead]
theorem UG (w : World) (blk off m : Nat) (dk : Array α) (os : Array Obj) : w.heap.size ≤ (sortWorldK enc k w blk off m dk os).heap.size := by
 rw [JW]; simp [mapBlock]
theorem Uc (w : World) (blk off m : Nat) (dk : Array α) (os : Array Obj) {g : Nat} (hg : g < w.heap.size) (hne : g ≠ blk) : (sortWorldK enc k w blk off m dk os).heap[g]? = w.heap[g]? := by
 rw [JW, Array.getElem?_append_left (by simpa [mapBlock] using hg)]
 simp only [mapBlock, Array.getElem?_modify]
 rw [if_neg (fun h => hne h.symm)]
theorem Z3x (w : World) (blk off m : Nat) (dk : Array α) (os : Array Obj) {c : Array Value} {T : TypeId} {fz : Nat × Nat} (h : w.heap[blk]? = some (.cells c T fz)) : (sortWorldK enc k w blk off m dk os).heap[blk]? = some (.cells (putCells id off (flatK enc k dk) c) T fz) := by
 have hlt := (Array.getElem?_eq_some_iff.1 h).1
 rw [JW, Array.getElem?_append_left (by simpa [mapBlock] using hlt)]
 simp only [mapBlock, Array.getElem?_modify, if_true, h, Option.map_eq_map, Option.map_some, onCells]
end
theorem Zea {w : World} {g i : Nat} {c : Array Value} {T : TypeId} {fz : Nat × Nat} (h : w.heap[g]? = some (.cells c T fz)) : w.cell? ⟨g, i, none⟩ = c[i]? := by simp [World.cell?, h]
theorem Za0 {P : Program} {T : Tab} {α : Type} [Inhabited α] {enc : α → List Value} {k : Nat} {row : α → List SV} {g : FuncId} {cf : α → α → Int} {blk off size : Nat} {w : World} (hlone : T.globs.all (fun p => Z7b p.2) = true) (hblk : ∀ h, lkp blk T.globs ≠ some h)
   (hc : ∀ x y, Does P T g 0 [.agg (row x), .agg (row y)] [] [] (Val (.int .i64 (cf x y)))) (eg : ∀ args w, (callFunc g args).run P w = .ok (.enter g args) w)
   (hrow : ∀ η x, DenL η (row x) (enc x) ∧ ∀ u ∈ enc x, u.oneCell' = true) (hg : ∀ g h, lkp g T.globs = some h → HpSat [] w false (.glob g) h ∧ g < w.heap.size) : CmpLays P g #[] enc k cf blk off size w := by
 intro m os dk hdk x y
 have hg' : ∀ g h, lkp g T.globs = some h → HpSat [] (sortWorldK enc k w blk off m dk os) false (.glob g) h ∧ g < (sortWorldK enc k w blk off m dk os).heap.size := by
   intro g' h hh
   obtain ⟨h1, h2⟩ := hg g' h hh
   have hne : g' ≠ blk := fun e => hblk h (e ▸ hh)
   refine ⟨h1.keep fun n f => ?_, Nat.lt_of_lt_of_le h2 (UG enc k w blk off m dk os)⟩
   have hlt := h1.feet_lt f
   obtain ⟨e, he, hf⟩ := f
   cases he
   rcases hf with rfl | hf
   · exact Uc enc k w blk off m dk os hlt hne
   · exact (WL (List.all_eq_true.1 hlone _ (Ul hh)) hf).elim
 have := Does.calls (hc x y) eg (vs := [.agg (enc x).toArray, .agg (enc y).toArray]) (w := sortWorldK enc k w blk off m dk os) (by
   simp only [DenL, Den]
   exact ⟨_, _, rfl, ⟨_, rfl, (hrow [] x).1, (hrow [] x).2⟩, _, _, rfl, ⟨_, rfl, (hrow [] y).1, (hrow [] y).2⟩, rfl⟩) hg'
 refine this.mono ?_
 rintro e w' ⟨v, rfl, hv, hf⟩
 simp only [Den] at hv
 subst hv
 exact ⟨rfl, hf.grown⟩
theorem Z4c {α : Type} [Inhabited α] {enc : α → List Value} {k : Nat} (hk : ∀ x, (enc x).length = k) {l : List α} {i j : Nat} {x : α} (hi : l[i]? = some x) (hj : j < k) : (flatK enc k l.toArray)[i * k + j]! = (enc x)[j]! ∧ i * k + j < l.length * k := by
 have hil := (List.getElem?_eq_some_iff.1 hi).1
 have hlt : i * k + j < l.length * k := by
   have : (i + 1) * k ≤ l.length * k := Nat.mul_le_mul_right k hil
   rw [Nat.succ_mul] at this
   omega
 refine ⟨?_, hlt⟩
 rw [get_flatK _ _ _ _ (by simpa using hlt)]
 have h1 : (i * k + j) / k = i := by rw [Nat.mul_comm, Nat.mul_add_div (by omega), Nat.div_eq_of_lt hj, Nat.add_zero]
 have h2 : (i * k + j) % k = j := by rw [Nat.mul_comm, Nat.mul_add_mod]; exact Nat.mod_eq_of_lt hj
 rw [h1, h2]
 congr 1
 have := (List.getElem?_eq_some_iff.1 hi).2
 simp [hil, this]
theorem Z58 {P : Program} {T : Tab} {ρ : Ren} {α : Type} [Inhabited α] (hT : TabOK P T) (L : SlLaysF0.n6 P ρ) (L' : SlLaysF0.n6 P ρ) {enc : α → List Value} {k : Nat} {row : α → List SV} {g : FuncId} {cf : α → α → Int}
   (aE : ∀ w, (isAgg (ρ.t 24)).run P w = .ok true w) (zE : ∀ w, (Go.sizeOf (ρ.t 24)).run P w = .ok k w) (hk : ∀ x, (enc x).length = k ∧ (row x).length = k) (hk0 : 0 < k) (hO : SWO (ltOf cf)) (hTo : ∀ x y, (ltOf cf) x y = false → (ltOf cf) y x = false → x = y)
   (hlone : T.globs.all (fun p => Z7b p.2) = true) (hc : ∀ x y, Does P T g 0 [.agg (row x), .agg (row y)] [] [] (Val (.int .i64 (cf x y)))) (eg : ∀ args w, (callFunc g args).run P w = .ok (.enter g args) w) (ef : ∀ args w, (callFunc (ρ.f 6) args).run P w = .ok (.enter (ρ.f 6) args) w)
   (hrow : ∀ η x, DenL η (row x) (enc x) ∧ ∀ u ∈ enc x, u.oneCell' = true) (hrow' : ∀ η x vs, DenL η (row x) vs → vs = enc x) (l : List α) (hl : l.length < 4611686018427387904) :
   Does P T (ρ.f 6) 1 [.sl (.loc 0) 0 k l.length none, .fn (.func g) [] []] [(0, .rows k (l.map row))] [] (fun r O nx => r = .tup [] ∧ O = [(0, .rows k ((l.mergeSort fun x y => !(ltOf cf) y x).map row))] ∧ nx = 1) := by
 refine ⟨fun M vs hP hT' hF hS H hd => .inl ⟨ρ.f 6, by rw [hP]; exact ef _ _, ?_⟩⟩
 obtain ⟨P', ⟨T', N', S', ro'⟩, w0, F, η0⟩ := M
 simp only at hP hT' hF hS H hd ⊢
 subst hP hT'
 simp only [DenL] at hd
 obtain ⟨v, us, rfl, hv, f, us', rfl, hf, rfl⟩ := hd
 simp only [Den] at hf
 obtain ⟨ff, fc, rfl, hff, hfc⟩ := hf
 simp only [DenL] at hff hfc
 subst hff hfc
 have hsat := (H.own.1 0 _ rfl).1
 have hgl : ∀ g h, lkp g T'.globs = some h → HpSat [] w0 false (.glob g) h ∧ g < w0.heap.size := by
   intro g' h hh
   have hp : JZ h = true := List.all_eq_true.1 T'.gplain _ (Ul hh)
   have h1 := H.shared (b := .glob g') hh
   refine ⟨h1.plain hp, h1.feet_lt ⟨⟨g', 0, 0⟩, rfl, .inl rfl⟩⟩
 simp only [HpSat, Env.get] at hsat
 simp only [Den, Env.get] at hv
 have fin : ∀ w' (O' : Hps), FrW w0 w' F → HpSat η0 w' true (.loc 0) (.rows k ((l.mergeSort fun x y => !(ltOf cf) y x).map row)) →
     ∃ r O' nx' η', (r = SV.tup [] ∧ O' = [(0, Hp.rows k ((l.mergeSort fun x y => !(ltOf cf) y x).map row))] ∧ nx' = 1) ∧ η0 <+: η' ∧ HeapOK ⟨P', ⟨T', N', S', ro'⟩, w0, F, η0⟩ η' w' O' nx' ∧ Den η' r (.tuple #[]) := by
   intro w' O' hfr hs
   refine ⟨_, _, _, η0, ⟨rfl, rfl, rfl⟩, List.prefix_rfl, ⟨H.pre, H.len, ⟨fun i h hi => ?_, fun i j h h' k hi hj hij f f' => ?_⟩, hfr, H.sok⟩, ?_⟩
   · rw [Zg] at hi
     split at hi
     · rename_i e; subst e
       injection hi with hi; subst hi
       refine ⟨hs, fun n f => (H.own.1 0 _ rfl).2 n ?_⟩
       obtain ⟨e, h1, h2⟩ := f
       exact ⟨e, h1, h2⟩
     · simp [lkp] at hi
   · rw [Zg] at hi hj
     split at hi
     · rename_i e; subst e
       split at hj
       · rename_i e2; exact (hij e2.symm).elim
       · simp [lkp] at hj
     · simp [lkp] at hi
   · simp only [Den, DenL]; exact ⟨[], rfl, rfl⟩
 rcases hsat with ⟨hn, hnil⟩ | ⟨e, arr, Tt, fz, he, hheap, hown, hcells⟩
 ·
   have hl0 : l = [] := by simpa using hnil
   subst hl0
   have hv2 : v = .slice none 0 0 := by
     rcases hv with ⟨_, h, _⟩ | ⟨e, o, h, _⟩
     · exact h
     · rw [hn] at h; cases h
   subst hv2
   refine (AnyF.slices_SortFunc_none L' none 0 _ w0).mono ?_
   rintro e w' ⟨rfl, rfl⟩
   refine ⟨_, rfl, fin _ [] (FrW.refl _ _) ?_⟩
   simp only [HpSat, Env.get]
   exact .inl ⟨hn, by simp⟩
 · obtain ⟨hun, hsz, hle, hb0⟩ := hown trivial
   obtain ⟨hel, hvv⟩ : l.length ≤ e.cap ∧ v = .slice (some ⟨e.g, 0, none⟩) l.length e.cap := by
     rcases hv with ⟨h, _⟩ | ⟨e', o, h, h2, h3, h4, h5⟩
     · rw [he] at h; cases h
     · rw [he] at h; cases h
       simp only [Option.getD_none, Nat.zero_add, Nat.sub_zero] at h2 h3
       have := h5 (.inr trivial)
       rw [hb0] at this
       simp only [Nat.zero_mul, Nat.add_zero] at this
       subst this
       exact ⟨h3, h2⟩
   subst hvv
   have hblk : e.g < w0.heap.size := (Array.getElem?_eq_some_iff.1 hheap).1
   have hcell : ∀ (i : Nat) (x : α) (j : Nat), l[i]? = some x → j < k → arr[i * k + j]? = some (enc x)[j]! := by
     intro i x j hi hj
     obtain ⟨h1, h2⟩ := hcells i (row x) (by rw [List.getElem?_map, hi]; rfl)
     have hlen := (hk x).2
     have hen := (hk x).1
     have hall : ∀ (j : Nat) (c : SV), (row x)[j]? = some c → ∃ u, ((List.range k).map fun j => arr.getD (i * k + j) undef)[j]? = some u ∧ Den η0 c u := by
       intro j c hj
       have hjk : j < k := by have := (List.getElem?_eq_some_iff.1 hj).1; omega
       obtain ⟨u, h3, h4, h5⟩ := h2 j c hj
       rw [hb0, Nat.zero_add] at h3
       refine ⟨u, ?_, h5⟩
       rw [List.getElem?_map, List.getElem?_range hjk]
       simp only [Option.map_some, Array.getD_eq_getD_getElem?, h3, Option.getD_some]
     have hvs := hrow' η0 x _ (Wr (by simp [hlen]) hall)
     have hjr : j < (row x).length := by omega
     obtain ⟨u, h3, h4, h5⟩ := h2 j ((row x)[j]) (List.getElem?_eq_getElem hjr)
     rw [hb0, Nat.zero_add] at h3
     have h6 : (enc x)[j]! = u := by
       rw [← hvs]
       have : ((List.range k).map fun j => arr.getD (i * k + j) undef)[j]? = some u := by
         rw [List.getElem?_map, List.getElem?_range hj]
         simp only [Option.map_some, Array.getD_eq_getD_getElem?, h3, Option.getD_some]
       rw [List.getElem!_eq_getElem?_getD, this]; rfl
     rw [h3, h6]
   have split : ∀ t, t < l.length * k → ∃ x, l[t / k]? = some x ∧ t % k < k ∧ t / k * k + t % k = t := by
     intro t ht
     have h1 : t / k < l.length := Nat.div_lt_of_lt_mul (by rw [Nat.mul_comm]; exact ht)
     exact ⟨l[t / k], List.getElem?_eq_getElem h1, Nat.mod_lt _ hk0, by rw [Nat.mul_comm]; exact Nat.div_add_mod t k⟩
   have hsize : l.length * k ≤ arr.size := by rw [hsz]; exact Nat.mul_le_mul_right _ hel
   have hH : HoldsK enc k w0 e.g 0 l.toArray := by
     intro t ht
     rw [size_flatK, List.size_toArray] at ht
     obtain ⟨x, h1, h2, h3⟩ := split t ht
     have h4 := hcell _ x _ h1 h2
     have h5 := (Z4c (enc := enc) (fun x => (hk x).1) h1 h2).1
     rw [h3] at h4 h5
     refine ⟨by rw [Nat.zero_add, Zea hheap, h4, h5]; rfl, ?_⟩
     have := hun t (by omega)
     simp only [World.frozen?, hheap, Nat.zero_add]
     simpa using this
   have hFg : F e.g := by
     rcases (H.own.1 0 _ rfl).2 e.g ⟨e, he, .inl rfl⟩ with h | h
     · exact h
     · have h : w0.heap.size ≤ e.g := h
       omega
   have hcl : CmpLays P' g #[] enc k cf e.g 0 l.toArray.size w0 := Za0 hlone (fun h hh => (H.sok (.glob e.g) h hh).2 e.g ⟨⟨e.g, 0, 0⟩, rfl, .inl rfl⟩ |>.2 hFg) hc eg (fun η x => hrow η x) hgl
   have hmain := AnyQ.slices_SortFunc_total L k aE zE enc (fun x => (hk x).1) (fun x u hu => (hrow [] x).2 u hu) cf hO g #[] e.g 0 e.cap l.toArray w0 eg hcl hH hblk (by simpa using hl) hTo
   rw [List.size_toArray] at hmain
   refine hmain.mono ?_
   rintro e1 w' ⟨rfl, n, os, rfl⟩
   refine ⟨_, rfl, fin _ [] ?_ ?_⟩
   · refine ⟨rfl, rfl, rfl, ?_, UG .., fun b hb hnF => Uc enc k w0 e.g 0 n _ os hb (fun e => hnF (e ▸ hFg))⟩
     simp [sortWorldK, grow, putRowK, putRow, mapBlock, Sort.ahead]
   · simp only [HpSat, Env.get]
     have hsl : (l.mergeSort fun x y => !(ltOf cf) y x).length = l.length := List.length_mergeSort l
     refine .inr ⟨e, _, Tt, fz, he, Z3x enc k w0 e.g 0 n _ os hheap, fun _ => ⟨?_, ?_, ?_, hb0⟩, fun i rw1 hi => ?_⟩
     · simp only [putCells, Array.size_mapIdx]; exact hun
     · simp only [putCells, Array.size_mapIdx]; exact hsz
     · rw [List.length_map, hsl]; exact hel
     · rw [List.getElem?_map] at hi
       obtain ⟨x, hx, rfl⟩ := Option.map_eq_some_iff.1 hi
       refine ⟨(hk x).2, fun j sv hj => ?_⟩
       have hjk : j < k := by have := (List.getElem?_eq_some_iff.1 hj).1; have := (hk x).2; omega
       obtain ⟨h5, h6⟩ := Z4c (enc := enc) (fun x => (hk x).1) hx hjk
       rw [hsl] at h6
       obtain ⟨u, h7, h8⟩ := X7 (hrow η0 x).1 hj
       refine ⟨u, ?_, (hrow η0 x).2 u (List.mem_of_getElem? h7), h8⟩
       have hlt : i * k + j < arr.size := by omega
       rw [hb0, Nat.zero_add]
       simp only [putCells, Array.getElem?_mapIdx, Array.getElem?_eq_getElem hlt, Option.map_some, Nat.zero_le, true_and, Nat.zero_add, size_flatK, List.size_toArray, hsl, h6, if_true, Nat.sub_zero]
       rw [h5, List.getElem!_eq_getElem?_getD, h7]
       rfl
end Go.Sx
