/- Part 9: ReadG, GlobS, ReadB. Conditions: as each part says. -/
import Derived.Test.YtgjnlngljmfefaaDoorRows
import Derived.Lib.LaidTab
import Derived.LaidSub
import Derived.Test.YtgjnlngljmfefaaDoorHsh0
import Derived.Test.YtgjnlngljmfefaaDoorHsh8
set_option linter.unusedVariables false
set_option linter.unusedSimpArgs false
namespace Go.Sx
open Go
end Go.Sx
namespace Go.Our
open Go.RowKit Go.ChangeShapes Go.WideShapes Go.ChangeAt Go.Sx
section
variable {H : Type} {enc : TypeId × Value → H} {P : Program} {w : World}
def SliceIn (w : World) (v : Value) (es : Nat) (rs : List (List SV)) (en : Option Ent) : Prop :=
 (∀ x, en = some x → x.g < w.heap.size) ∧ ∀ (η : Env) (i : Nat), η[i]? = some en → Den η (.sl (.loc i) 0 es rs.length none) v ∧ HpSat η w false (.loc i) (.rows es rs)
theorem JM {base : Nat} {a : Addr} {n : Nat} {cs : List Value} (h : w.cells? base a n = some cs) : cs.length = n ∧ ∀ j, j < n → w.cell? (a.add j) = cs[j]? := ⟨(World.cells?_some h).2.1, (World.cells?_some h).2.2⟩
theorem W5 {α : Type} {G : α → Prop} {t e : TypeId} {es : Nat} {q : Option Addr} {l0 c0 fuel : Nat} {x : DataW H × List MemPlace} (cellsL : α → List Value) (dat : α → DataW H) (row : α → List SV) (hes : 0 < es)
   (hlen : ∀ a, (cellsL a).length = es ∧ (row a).length = es) (hrow : ∀ (η : Env) (a : α) (j : Nat) (sv : SV), (row a)[j]? = some sv → ∃ u, (cellsL a)[j]? = some u ∧ u.oneCell' = true ∧ Den η sv u)
   (ht : P.underlying t = some (.slice e)) (hc : P.cellsOf e = es) (el : ∀ fuel cs (x : DataW H × List MemPlace), DataW.trod enc P w 0 (fun _ => true) true fuel e cs = some x → ∃ a : α, cs = cellsL a ∧ x.1 = dat a ∧ G a)
   (ho : ∀ a, q = some a → a.spot = none ∧ ∃ arr T fz, w.heap[a.block]? = some (.cells arr T fz)) (hf : DataW.trod enc P w 0 (fun _ => true) true fuel t [.slice q l0 c0] = some x) :
   ∃ (l : List α) (en : Option Ent), SliceIn w (.slice q l0 c0) es (l.map row) en ∧ ((l = [] ∧ x.1 = .nil) ∨ ∃ z : List α, x.1 = .slice (l.map dat) (z.map dat)) ∧ l.length = l0 ∧ ∀ a ∈ l, G a := by
 rcases DataW.trod_slice ht hf with ⟨hcs, hx⟩ | ⟨a, len, cap, elems, rest, n, _, hcs, hx, hb, hl, hm, hlen2, hel, hsp, hns⟩
 · injection hcs with hcs _
   injection hcs with h1 h2 h3
   subst h1 h2 h3 hx
   refine ⟨[], none, ⟨fun x hx => (by cases hx), fun η i hi => ?_⟩, .inl ⟨rfl, rfl⟩, rfl, fun a h => by cases h⟩
   refine ⟨?_, ?_⟩
   · unfold Den; exact .inl ⟨hi, rfl, rfl⟩
   · unfold HpSat; exact .inl ⟨hi, rfl⟩
 · injection hcs with hcs _
   injection hcs with h1 h2 h3
   subst h1 h2 h3 hx
   obtain ⟨hspot, arr, T, fz, hheap⟩ := ho _ rfl
   obtain ⟨ab, ao, asp⟩ := a
   simp only at hspot hheap
   subst hspot
   have each : ∀ (i : Nat) y, (elems ++ rest)[i]? = some y → ∃ x : α, y.1 = dat x ∧ G x ∧ ∀ j, j < es → w.cell? ⟨ab, ao + i * es + j, none⟩ = (cellsL x)[j]? := by
     intro i y hy
     have hb' : (w.cells? 0 ((⟨ab, ao, none⟩ : Addr).add (i * P.cellsOf e)) (P.cellsOf e)).bind (DataW.trod enc P w 0 (fun _ => true) true n e) = some y := by
       by_cases hi : i < l0
       · rw [hel i hi, ← hy, List.getElem?_append_left (by omega)]
       · obtain ⟨hrl, hr⟩ := hsp rfl
         have hlt := (List.getElem?_eq_some_iff.1 hy).1
         simp only [List.length_append] at hlt
         have := hr (i - l0) (by omega)
         rw [show l0 + (i - l0) = i by omega] at this
         rw [this, ← hy, List.getElem?_append_right (by omega), hlen2]
     obtain ⟨cs', hcs', hy'⟩ := Option.bind_eq_some_iff.1 hb'
     obtain ⟨x, rfl, hx1, hx2⟩ := el _ _ _ hy'
     refine ⟨x, hx1, hx2, fun j hj => ?_⟩
     rw [hc] at hcs'
     rw [← (JM hcs').2 j hj]
     congr 1
     unfold Addr.add
     split <;> split <;> simp_all <;> omega
   have list : ∀ (ys : List (DataW H × List MemPlace)) (k : Nat), (∀ i y, ys[i]? = some y → (elems ++ rest)[k + i]? = some y) → ∃ xs : List α, ys.map (·.1) = xs.map dat ∧ xs.length = ys.length ∧ (∀ a ∈ xs, G a) ∧ ∀ (i : Nat) x, xs[i]? = some x → ∀ j, j < es → w.cell? ⟨ab, ao + (k + i) * es + j, none⟩ = (cellsL x)[j]? := by
     intro ys
     induction ys with
     | nil => intro k _; exact ⟨[], rfl, rfl, (fun a h => by cases h), fun i x hx => by simp at hx⟩
     | cons y ys ih =>
       intro k hk
       obtain ⟨x, hx1, hg, hx2⟩ := each (k + 0) y (hk 0 y rfl)
       obtain ⟨xs, h1, h2, hgs, h3⟩ := ih (k + 1) fun i y' hy' => by rw [show k + 1 + i = k + (i + 1) by omega]; exact hk (i + 1) y' (by simpa using hy')
       refine ⟨x :: xs, by simp [h1, hx1], by simp [h2], (fun a ha => (List.mem_cons.1 ha).elim (fun e => e ▸ hg) (hgs a)), fun i z hz j hj => ?_⟩
       cases i with
       | zero => simp at hz; subst hz; exact hx2 j hj
       | succ i => simp at hz; rw [show k + (i + 1) = k + 1 + i by omega]; exact h3 i z hz j hj
   obtain ⟨xs, h1, h2, hgs, h3⟩ := list elems 0 fun i y hy => by rw [Nat.zero_add, List.getElem?_append_left (List.getElem?_eq_some_iff.1 hy).1]; exact hy
   obtain ⟨zs, h4, _, _, _⟩ := list rest elems.length fun i y hy => by rw [List.getElem?_append_right (by omega)]; simpa using hy
   refine ⟨xs, some ⟨ab, ao, c0⟩, ⟨fun x hx => ?_, fun η i hi => ⟨?_, ?_⟩⟩, .inr ⟨zs, by rw [h1, h4]⟩, by rw [h2, hlen2], hgs⟩
   · injection hx with hx; subst hx; exact (Array.getElem?_eq_some_iff.1 hheap).1
   · simp only [Den, Env.get]
     refine .inr ⟨⟨ab, ao, c0⟩, ao, hi, ?_, ?_, Nat.le_refl _, fun _ => by simp⟩
     · simp only [Option.getD_none, Nat.sub_zero, List.length_map, h2, hlen2]
     · simp only [Option.getD_none, List.length_map, h2, hlen2]; omega
   · simp only [HpSat, Env.get]
     refine .inr ⟨⟨ab, ao, c0⟩, arr, T, fz, hi, hheap, fun h => (by cases h), fun k rw1 hk => ?_⟩
     rw [List.getElem?_map] at hk
     obtain ⟨x, hx, rfl⟩ := Option.map_eq_some_iff.1 hk
     refine ⟨(hlen x).2, fun j sv hj => ?_⟩
     obtain ⟨u, hu1, hu2, hu3⟩ := hrow η x j sv hj
     have hj2 : j < es := by rw [← (hlen x).2]; exact (List.getElem?_eq_some_iff.1 hj).1
     have := h3 k x hx j hj2
     rw [Nat.zero_add, hu1] at this
     unfold World.cell? at this
     simp only [hheap] at this
     exact ⟨u, by simpa using this, hu2, hu3⟩
end
theorem SliceIn.den {α : Type} {W : World} {v : Value} {es : Nat} {l : List α} {row : α → List SV} {en : Option Ent} (h : SliceIn W v es (l.map row) en) {η : Env} {i : Nat} (hi : η[i]? = some en) : Den η (.sl (.loc i) 0 es l.length none) v := by
 have := (h.2 η i hi).1; rwa [List.length_map] at this
theorem SliceIn.sat {W : World} {v : Value} {es : Nat} {rs : List (List SV)} {en : Option Ent} (h : SliceIn W v es rs en) {η : Env} {i : Nat} (hi : η[i]? = some en) : HpSat η W false (.loc i) (.rows es rs) := (h.2 η i hi).2
end Go.Our
namespace Go.Proofs.YtgjnlngljmfefaaDoor
open Go.RowKit Go.Our Go.ChangeShapes Go.WideShapes Go.ChangeAt Go.Sx
abbrev Z4l (W : World) : Prop := ∀ g h, lkp g tab.globs = some h → HpSat [] W false (.glob g) h ∧ g < W.heap.size
end Go.Proofs.YtgjnlngljmfefaaDoor
namespace Go.Proofs.YtgjnlngljmfefaaDoor
open Go.RowKit Go.Our Go.ChangeShapes Go.WideShapes Go.ChangeAt Go.Sx
theorem Vk {W : World} {g n : Nat} {xs : List Int} (hn : 0 < n) (hc : ∀ i, i < n → W.cell? ⟨g, i, none⟩ = some (.int .u32 (xs.getD i 0))) : ∃ c T fz, W.heap[g]? = some (.cells c T fz) ∧ ∀ i, i < n → c[i]? = some (.int .u32 (xs.getD i 0)) := by
 have h0 := hc 0 hn
 unfold World.cell? at h0
 split at h0
 case h_2 => cases h0
 rename_i c T fz hh
 refine ⟨c, T, fz, hh, fun i hi => ?_⟩
 have := hc i hi
 unfold World.cell? at this
 simp only at this hh
 rw [hh] at this
 simpa using this
theorem Z5f {W : World} {l : List (String × DataW Unit)} (hl1 : (l.filter fun x => x.2.handleName?.isNone).filter (fun x => x.1 == "tessera/sums.start") = [("tessera/sums.start", Lib.tabData .u32 Z0i)])
   (hl2 : (l.filter fun x => x.2.handleName?.isNone).filter (fun x => x.1 == "tessera/sums.rounds") = [("tessera/sums.rounds", Lib.tabData .u32 roundsInts)]) (h : laidMetH Tryd.prog l W) : Z4l W := by
 have h1 := laidMet.filter (fun x => x.1 == "tessera/sums.start") (laidMetH_iff.1 h).1
 have h2 := laidMet.filter (fun x => x.1 == "tessera/sums.rounds") (laidMetH_iff.1 h).1
 rw [hl1] at h1
 rw [hl2] at h2
 have hT1 : Lib.TabIs Tryd.prog W "tessera/sums.start" .u32 Z0i :=
   Lib.tabIs_of_head (rest := []) (g := 0) (by kernel_rfl) (by kernel_rfl) Tryd.underlying41 Tryd.underlying40 (by kernel_rfl) (by kernel_rfl) h1
 have hT2 : Lib.TabIs Tryd.prog W "tessera/sums.rounds" .u32 roundsInts :=
   Lib.tabIs_of_head (rest := []) (g := 1) (by kernel_rfl) (by kernel_rfl) Tryd.underlying46 Tryd.underlying40 (by kernel_rfl) (by kernel_rfl) h2
 obtain ⟨c1, T1, f1, hh1, hc1⟩ := Vk (n := 8) (by omega) (fun i hi => hT1.cell (by kernel_rfl) i hi)
 obtain ⟨c2, T2, f2, hh2, hc2⟩ := Vk (n := 64) (by omega) (fun i hi => hT2.cell (by kernel_rfl) i hi)
 intro g h hg
 simp only [tab] at hg
 rw [Zb] at hg
 split at hg
 · rename_i eg
   subst eg
   injection hg with hg
   subst hg
   refine ⟨?_, (Array.getElem?_eq_some_iff.1 hh1).1⟩
   simp only [HpSat]
   refine ⟨⟨0, 0, 0⟩, c1, T1, f1, rfl, hh1, fun h => (by cases h), fun j sv hj => ?_⟩
   have hj8 : j < 8 := (List.getElem?_eq_some_iff.1 hj).1
   refine ⟨_, by rw [Nat.zero_add]; exact hc1 j hj8, rfl, ?_⟩
   match j, hj8 with
   | 0, _ | 1, _ | 2, _ | 3, _ | 4, _ | 5, _ | 6, _ | 7, _ => injection hj with hj; subst hj; simp only [Den]; rfl
 · rw [Zb] at hg
   split at hg
   case isFalse => simp [lkp] at hg
   rename_i eg
   subst eg
   injection hg with hg
   subst hg
   refine ⟨?_, (Array.getElem?_eq_some_iff.1 hh2).1⟩
   simp only [HpSat]
   refine .inr ⟨⟨1, 0, 0⟩, c2, T2, f2, rfl, hh2, fun h => (by cases h), fun i row hr => ?_⟩
   unfold Jg at hr
   rw [List.getElem?_map] at hr
   obtain ⟨x, hx, rfl⟩ := Option.map_eq_some_iff.1 hr
   have hi : i < 64 := (List.getElem?_eq_some_iff.1 hx).1
   refine ⟨rfl, fun j sv hj => ?_⟩
   cases j with
   | succ j => simp at hj
   | zero =>
     simp only [List.getElem?_cons_zero, Option.some.injEq] at hj
     subst hj
     refine ⟨_, by simp only [Nat.zero_add, Nat.mul_one, Nat.add_zero]; exact hc2 i hi, rfl, ?_⟩
     simp only [Den, List.getD, hx, Option.getD_some]
end Go.Proofs.YtgjnlngljmfefaaDoor
namespace Go.Our
open Go.RowKit Go.ChangeShapes Go.WideShapes Go.ChangeAt Go.Sx
section
variable {H : Type} {enc : TypeId × Value → H} {P : Program} {w : World}
def Z11 (c : UInt8) : DataW H := .lit (.int .u8 (c.toNat : Int))
theorem Z12 (η : Env) (c : UInt8) (j : Nat) (sv : SV) (h : (Go.Sx.bytesRow c)[j]? = some sv) : ∃ u, ([Value.int .u8 (c.toNat : Int)] : List Value)[j]? = some u ∧ u.oneCell' = true ∧ Den η sv u := by
 cases j with
 | zero => injection h with h; subst h; exact ⟨_, rfl, rfl, by simp only [Den]⟩
 | succ j => simp [Go.Sx.bytesRow] at h
end
end Go.Our
