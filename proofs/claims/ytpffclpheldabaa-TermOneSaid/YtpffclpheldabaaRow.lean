/- From a walk to a law's statement: what stays as it was; how arguments read. -/
import Derived.Test.YtpffclpheldabaaMem
import Derived.ProofKit
import Derived.OpenShut
import Derived.SizedLaws
import Derived.Deep.Slices
import Derived.Deep.DeepHandedRow
import Derived.Lib.LaidTab
set_option linter.unusedVariables false
namespace Go.Our
open Go.RowKit Go.ChangeShapes Go.WideShapes Go.ChangeAt

section
variable {H : Type} {enc : TypeId × Value → H} {P : Program}

theorem trodAll_below (hl : laidOutB P = true) {W W' : World} (hb : Below W.heap.size W W') :
    ∀ (ts : List TypeId) (vs : List Value) (ds : List (DataW H)) (ps : List MemPlace), (∀ t ∈ ts, P.readableRec t = true ∧ t < P.types.size) →
      DataW.TrodAll enc P W 0 (fun _ => true) true ts vs ds ps → (∀ x ∈ ps, x.block < W.heap.size) → DataW.TrodAll enc P W' 0 (fun b => decide (b < W.heap.size)) true ts vs ds ps
  | [], [], [], ps, _, h, _ => h
  | t :: ts, v :: vs, d :: ds, ps, ht, ⟨p, q, h1, h2, hpq⟩, hlt =>
    ⟨p, q, Below.trod hl (ht t (by simp)).1 (ht t (by simp)).2 h1 hb (fun x hx => hlt x (by rw [hpq]; simp [hx])),
      trodAll_below hl hb ts vs ds q (fun t' h' => ht t' (by simp [h'])) h2 (fun x hx => hlt x (by rw [hpq]; simp [hx])), hpq⟩
  | [], [], _ :: _, _, _, h, _ => h.elim
  | [], _ :: _, _, _, _, h, _ => h.elim
  | _ :: _, [], _, _, _, h, _ => h.elim
  | _ :: _, _ :: _, [], _, _, h, _ => h.elim

/-- A law that returned true and wrote nothing that was there. -/
theorem law_post {f : Func} {s : ChangeSpec} {W W' : World} {args : Array Value} {ds gs : List (DataW H)} {before : List MemPlace} {tb : TypeId}
    (hl : laidOutB P = true) (hts : ∀ t ∈ f.params.toList, P.readableRec t = true ∧ t < P.types.size) (hr : f.resultTypes = #[tb]) (hbool : P.underlying tb = some .bool)
    (hW : DataW.Whole enc P f.params.toList s.vars false W args.toList ds gs before) (hvars : s.vars = []) (hres : (s.fn H (ds ++ gs)).results = [.lit (.bool true)]) (hargs : (s.fn H (ds ++ gs)).args = ds)
    (hv : (s.fn H (ds ++ gs)).vars = []) (hb : Below W.heap.size W W') : s.post enc P f false true false false W args (.bool true) W' := by
  have hlt := hW.lt
  have hW' := hW
  obtain ⟨p, q, hA, hV, hpq, hfz, hnd⟩ := hW
  refine ⟨ds, gs, before, [], p, [], hW', ?_, ?_, ?_, hb.frame _, fun h => by cases h⟩
  · rw [hres, hr]
    exact trodAll_mk1 (shut_bool hbool true)
  · rw [hargs]
    exact trodAll_below hl hb _ _ _ _ hts hA (fun x hx => by simpa using hlt x (by rw [hpq]; simp [hx]))
  · rw [hv, hvars]
    rfl

theorem all_left {l r : List Nat} (h : (l ++ r).all (· ≤ reachBytes) = true) : l.all (· ≤ reachBytes) = true := by rw [List.all_append, Bool.and_eq_true] at h; exact h.1
theorem all_right {l r : List Nat} (h : (l ++ r).all (· ≤ reachBytes) = true) : r.all (· ≤ reachBytes) = true := by rw [List.all_append, Bool.and_eq_true] at h; exact h.2

theorem u32_of_wf {k : Int} (h : (Lit.int .u32 k).wf = true) : ∃ b : BitVec 32, k = U b := by
  have hb := bounds_u32 h
  refine ⟨BitVec.ofNat 32 k.toNat, ?_⟩
  unfold U
  rw [BitVec.toNat_ofNat, Nat.mod_eq_of_lt (by omega)]; omega
theorem u8_of_wf {k : Int} (h : (Lit.int .u8 k).wf = true) : ∃ b : UInt8, k = (b.toNat : Int) := by
  have hb := bounds_u8 h
  refine ⟨UInt8.ofNat k.toNat, ?_⟩
  rw [UInt8.toNat_ofNat_of_lt' (by show k.toNat < 256; omega)]; omega

/-- A []byte argument. -/
theorem read_bytes {W : World} {t e : TypeId} {v : Value} {d : DataW H} {ps : List MemPlace} (ht : P.underlying t = some (.slice e)) (he : P.underlying e = some (.int .u8)) (hc : P.cellsOf e = 1) (hby : P.bytesOf e = 1)
    (h : DataW.Trod enc P W 0 (fun _ => true) true t v d ps) (hlt : ∀ x ∈ ps, x.block < W.heap.size) (hsz : (d.weights P t).all (· ≤ reachBytes) = true) (hv : v.cells.toList = [v]) :
    ∃ A cap bs, v = .slice A (List.length bs) cap ∧ Bytes W W.heap.size A bs ∧ bs.length ≤ cap ∧ cap ≤ 140737488351232 := by
  obtain ⟨fuel, hf⟩ := h
  rcases open_ints ht he hc hf with ⟨hcs, _⟩ | ⟨x, l, c, zs, hcs, _, hl, hm, hz, hd, hcell, hwz⟩
  · rw [hv] at hcs
    injection hcs with hcs _
    exact ⟨none, 0, [], hcs, .inl rfl, by simp, by simp⟩
  · rw [hv] at hcs
    injection hcs with hcs _
    simp only [if_true] at hz
    injection hd with hd hp
    have hb : ∃ bs : List UInt8, zs = bs.map (fun b => (b.toNat : Int)) := by
      clear hcell hz hd hp hsz hf
      induction zs with
      | nil => exact ⟨[], rfl⟩
      | cons z zs ih =>
        obtain ⟨b, hb⟩ := u8_of_wf (hwz z (by simp))
        obtain ⟨bs, hbs⟩ := ih (fun n hn => hwz n (by simp [hn]))
        exact ⟨b :: bs, by rw [hb, hbs]; rfl⟩
    obtain ⟨bs, rfl⟩ := hb
    simp only [List.length_map] at hz
    have hcap : c ≤ 140737488351232 := by
      rw [hd] at hsz
      have := List.all_eq_true.1 hsz ((l + (c - l)) * P.bytesOf e) (by simp [DataW.weights, ht, lits, hz, Nat.min_eq_left hl])
      simp [hby, reachBytes] at this
      omega
    refine ⟨some x, c, bs.take l, ?_, ?_, by simp; omega, hcap⟩
    · rw [hcs, List.length_take, hz, Nat.min_eq_left hl]
    · by_cases h0 : bs.take l = []
      · rw [h0]; exact .inl rfl
      · have hpos : 0 < bs.length := by
          rcases Nat.eq_zero_or_pos bs.length with h | h
          · simp [List.eq_nil_of_length_eq_zero h] at h0
          · exact h
        obtain ⟨b, o, spot⟩ := x
        have hc0 := hcell 0 (by simpa using hpos)
        have hspot : spot = none := by simpa [Addr.add] using World.cell?_spot hc0
        subst hspot
        refine .inr ⟨b, o, rfl, ?_, fun j u hu => ?_⟩
        · have := hlt (.cell b o) (by rw [hp]; simp [MemPlace.row]; exact hpos)
          simpa [MemPlace.block] using this
        · obtain ⟨hj, hu⟩ := List.getElem?_eq_some_iff.1 hu
          simp only [List.length_map, List.length_take] at hj
          have := hcell j (by simp; omega)
          rw [add_mk] at this
          rw [this, ← hu]
          simp [byteV]
          rw [List.getElem?_eq_getElem (by omega)]
          rfl
end
end Go.Our
