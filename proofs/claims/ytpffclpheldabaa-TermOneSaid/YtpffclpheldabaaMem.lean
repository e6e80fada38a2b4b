/- Laws of our own on make, copy and append over slices that read as rows of cells, whatever the element's size. -/
import Derived.Test.YtpffclpheldabaaBase
import Derived.Maps.AppendAt
import Derived.Deep.AppendLies
import Derived.Laws.CopyRow
import Derived.Laws.Rows
set_option linter.unusedVariables false
namespace Go.Our
open Go.RowKit

/-- What a slice type's element is, off the program's table. -/
structure Elem (P : Program) (t e : TypeId) (z : Value) (size bytes : Nat) : Prop where
  under : P.underlying t = some (.slice e)
  info : (P.info? e).map (fun i => (i.zero, i.size, i.bytes)) = some (some z, size, bytes)
  zs : z.cells.size = size
  pos : 0 < size

theorem add_mk (g o j : Nat) : (⟨g, o, none⟩ : Addr).add j = ⟨g, o + j, none⟩ := by unfold Addr.add; split <;> simp_all

section
variable {P : Program} {w : World} {B B' : Nat} {A : Option Addr} {xs ys : List Value}
theorem Arr.newF (w : World) (cs : Array Value) (e : TypeId) (fz : Nat × Nat) : Arr (w.alloc (.cells cs e fz)) (w.heap.size + 1) (some ⟨w.heap.size, 0, none⟩) cs.toList := by
  refine .inr ⟨w.heap.size, 0, rfl, by omega, fun j u hu => ?_⟩
  have : (w.alloc (.cells cs e fz)).heap[w.heap.size]? = some (.cells cs e fz) := heap_alloc_new w _
  simp only [World.cell?, this, Nat.zero_add]
  simpa using hu
theorem Arr.new (w : World) (cs : Array Value) (e : TypeId) : Arr (w.alloc (.cells cs e)) (w.heap.size + 1) (some ⟨w.heap.size, 0, none⟩) cs.toList := by
  refine .inr ⟨w.heap.size, 0, rfl, by omega, fun j u hu => ?_⟩
  have : (w.alloc (.cells cs e)).heap[w.heap.size]? = some (.cells cs e (0, 0)) := heap_alloc_new w _
  simp only [World.cell?, this, Nat.zero_add]
  simpa using hu
theorem Arr.alloc (h : Arr w B A xs) (hB : B ≤ w.heap.size) (o : Obj) : Arr (w.alloc o) B A xs := h.below ((Below.refl _ _).alloc hB o)
theorem Arr.grown {w' : World} {row : Option Nat} (h : Arr w B A xs) (hg : w.grownBy w' row) (hB : B ≤ w.heap.size) (hr : ∀ k, row = some k → B ≤ k) : Arr w' B A xs := h.below ((Below.refl _ _).grown hg hB hr)
theorem Arr.drop (h : Arr w B A xs) (m c : Nat) (hc : c = m → xs.length ≤ m) : Arr w B (if c = m then A else A.map (·.add m)) (xs.drop m) := by
  by_cases hcm : c = m
  · rw [if_pos hcm, List.drop_eq_nil_of_le (hc hcm)]; exact Arr.nil
  · rw [if_neg hcm]
    rcases h with h | ⟨b, o, hA, hb, hcell⟩
    · subst h; simp; exact Arr.nil
    · subst hA
      refine .inr ⟨b, o + m, by simp [add_mk], hb, fun j u hu => ?_⟩
      rw [List.getElem?_drop] at hu
      rw [Nat.add_assoc]; exact hcell _ _ hu
theorem Arr.src (h : Arr w B A xs) (hx : xs ≠ []) : ∃ ad, A = some ad ∧ ∀ j u, xs[j]? = some u → w.cell? (ad.add j) = some u := by
  rcases h with h | ⟨b, o, hA, hb, hc⟩
  · exact absurd h hx
  · exact ⟨_, hA, fun j u hu => by rw [add_mk]; exact hc j u hu⟩
end

section
variable {P : Program} {w : World}

theorem run_append_row {t e ty : TypeId} {z : Value} {size bytes : Nat} (E : Elem P t e z size bytes) {base : Nat}
    {v : Value} {n : Nat} {xs : List Value} (hown : w.ownsRow base e size v n xs)
    {B : Nat} {A : Option Addr} {m c : Nat} {news : List Value} (ha : Arr w B A news) (hl : news.length = m * size) (h1 : ∀ u ∈ news, u.oneCell' = true)
    (h63 : n + m ≤ maxLen) (hbytes : (n + m) * bytes ≤ 140737488355328) (hbase : base ≤ w.heap.size) :
    ∃ v' w', (Builtin.append_ #[t, t] ty #[v, .slice A m c]).run P w = .ok v' w' ∧ w'.ownsRow base e size v' (n + m) (xs ++ news) ∧ w.grownBy w' v.ownBlock ∧
      (v'.ownBlock = v.ownBlock ∨ v'.ownBlock = some w.heap.size) := by
  obtain ⟨i, hi, hz, hsize, hby⟩ := info_parts E.info
  by_cases hn : news = []
  · subst hn
    have hm : m = 0 := by
      have := E.pos
      rcases Nat.eq_zero_or_pos m with h | h
      · exact h
      · have : 0 < m * size := Nat.mul_pos h E.pos
        simp at hl; omega
    subst hm
    refine ⟨v, w, ?_, by simpa using hown, World.grownBy.refl w _, .inl rfl⟩
    have hft : ∀ A, (Builtin.firstCells size 0 (.slice A 0 c)).run P w = .ok #[] w := by
      intro A
      cases A with
      | none => simp [Builtin.firstCells]
      | some ad => simpa using run_firstCells_some (P := P) w size 0 ad 0 c [] (by simp) (by simp)
    rcases hown.2 with ⟨rfl, rfl⟩ | ⟨g, cap, cur, rfl, _, _, hnc, _⟩
    · simp [Builtin.append_, run_underlying E.under, sizeOf, typeInfo, hi, hsize, Builtin.lenOf, hft]
    · simp [Builtin.append_, run_underlying E.under, sizeOf, typeInfo, hi, hsize, Builtin.lenOf, hft, hnc, storeCells]
  · obtain ⟨ad, rfl, hc⟩ := ha.src hn
    obtain ⟨v', w', hr, h2, h3, _, h5⟩ := run_append_own_at (P := P) w base t ty e i z size bytes E.under hi hz hsize hby E.zs E.pos v n xs hown ad m c news hl hc h1 h63 hbytes hbase
    exact ⟨v', w', hr, h2, h3, h5⟩

/-- append onto a row of the call's own, whatever is appended. -/
theorem wpList_appendE {ops : Array Oper} {rest : List Oper} {o : Oper} {a : Act} {Q : Exit → Act → World → Prop} (hgd : o.guard = none) (s x : Operand) {t e : TypeId} {z : Value} {size bytes : Nat}
    (E : Elem P t e z size bytes) (ho : o.op = .call { callee := .builtin .append, args := #[s, x], argTypes := #[t, t] })
    {base : Nat} {v : Value} {n : Nat} {xs : List Value} (hs : a.eval s = v) (hown : w.ownsRow base e size v n xs)
    {B : Nat} {A : Option Addr} {m c : Nat} {news : List Value} (hx : a.eval x = .slice A m c) (ha : Arr w B A news) (hl : news.length = m * size) (h1 : ∀ u ∈ news, u.oneCell' = true)
    (h63 : n + m ≤ maxLen) (hbytes : (n + m) * bytes ≤ 140737488355328) (hbase : base ≤ w.heap.size)
    (h : ∀ v' w', w'.ownsRow base e size v' (n + m) (xs ++ news) → w.grownBy w' v.ownBlock → (v'.ownBlock = v.ownBlock ∨ v'.ownBlock = some w.heap.size) → wpList P ops Q rest (a.put o.dst v') w') :
    wpList P ops Q (o :: rest) a w := by
  obtain ⟨v', w', hr, h2, h3, h4⟩ := run_append_row (ty := o.type) E hown ha (c := c) hl h1 h63 hbytes hbase
  refine wpList_plain hgd fun K hK => ?_
  unfold Oper.wp execOp
  simp only [ho, resolve, invoke, builtin, Sem.run_bind, Sem.run_pure, Result.andThen_ok, List.map_toArray, List.map_cons, List.map_nil, hs, hx, hr]
  exact hK _ _ (h v' w' h2 h3 h4)

theorem run_append_fitsE {t e ty : TypeId} {z : Value} {size bytes : Nat} (E : Elem P t e z size bytes) {base g n cap : Nat} {xs : List Value}
    (hown : w.ownsRow base e size (.slice (some ⟨g, 0, none⟩) n cap) n xs)
    {B : Nat} {A : Option Addr} {m c : Nat} {news : List Value} (ha : Arr w B A news) (hl : news.length = m * size) (h1 : ∀ u ∈ news, u.oneCell' = true) (hfit : n + m ≤ cap) :
    ∃ w', (Builtin.append_ #[t, t] ty #[.slice (some ⟨g, 0, none⟩) n cap, .slice A m c]).run P w = .ok (.slice (some ⟨g, 0, none⟩) (n + m) cap) w' ∧
      w'.ownsRow base e size (.slice (some ⟨g, 0, none⟩) (n + m) cap) (n + m) (xs ++ news) ∧ w.grownBy w' (some g) := by
  obtain ⟨i, hi, hz, hsize, hby⟩ := info_parts E.info
  by_cases hn : news = []
  · subst hn
    have hm : m = 0 := by
      rcases Nat.eq_zero_or_pos m with h | h
      · exact h
      · have : 0 < m * size := Nat.mul_pos h E.pos
        simp at hl; omega
    subst hm
    refine ⟨w, ?_, by simpa using hown, World.grownBy.refl w _⟩
    have hft : ∀ A, (Builtin.firstCells size 0 (.slice A 0 c)).run P w = .ok #[] w := by
      intro A
      cases A with
      | none => simp [Builtin.firstCells]
      | some ad => simpa using run_firstCells_some (P := P) w size 0 ad 0 c [] (by simp) (by simp)
    simp [Builtin.append_, run_underlying E.under, sizeOf, typeInfo, hi, hsize, Builtin.lenOf, hft, storeCells]
    intro h; omega
  · obtain ⟨ad, rfl, hc⟩ := ha.src hn
    exact run_append_fits (P := P) w base t ty e i size E.under hi hsize g n cap xs hown ad m c news hl hc h1 hfit

theorem wpList_appendF {ops : Array Oper} {rest : List Oper} {o : Oper} {a : Act} {Q : Exit → Act → World → Prop} (hgd : o.guard = none) (s x : Operand) {t e : TypeId} {z : Value} {size bytes : Nat}
    (E : Elem P t e z size bytes) (ho : o.op = .call { callee := .builtin .append, args := #[s, x], argTypes := #[t, t] })
    {base g n cap : Nat} {xs : List Value} (hs : a.eval s = .slice (some ⟨g, 0, none⟩) n cap) (hown : w.ownsRow base e size (.slice (some ⟨g, 0, none⟩) n cap) n xs)
    {B : Nat} {A : Option Addr} {m c : Nat} {news : List Value} (hx : a.eval x = .slice A m c) (ha : Arr w B A news) (hl : news.length = m * size) (h1 : ∀ u ∈ news, u.oneCell' = true) (hfit : n + m ≤ cap)
    (h : ∀ w', w'.ownsRow base e size (.slice (some ⟨g, 0, none⟩) (n + m) cap) (n + m) (xs ++ news) → w.grownBy w' (some g) → wpList P ops Q rest (a.put o.dst (.slice (some ⟨g, 0, none⟩) (n + m) cap)) w') :
    wpList P ops Q (o :: rest) a w := by
  obtain ⟨w', hr, h2, h3⟩ := run_append_fitsE (ty := o.type) E hown ha (c := c) hl h1 hfit
  refine wpList_plain hgd fun K hK => ?_
  unfold Oper.wp execOp
  simp only [ho, resolve, invoke, builtin, Sem.run_bind, Sem.run_pure, Result.andThen_ok, List.map_toArray, List.map_cons, List.map_nil, hs, hx, hr]
  exact hK _ _ (h w' h2 h3)

theorem run_copy_rowE {t t' e ty : TypeId} {z : Value} {size bytes : Nat} (E : Elem P t e z size bytes) {base g n cap : Nat} {xs : List Value}
    (hown : w.ownsRow base e size (.slice (some ⟨g, 0, none⟩) n cap) n xs)
    {B : Nat} {A : Option Addr} {m c : Nat} {ys : List Value} (ha : Arr w B A ys) (hl : ys.length = m * size) (h1 : ∀ u ∈ ys, u.oneCell' = true) (hmn : m ≤ n) :
    ∃ w', (Builtin.copy_ #[t, t'] ty #[.slice (some ⟨g, 0, none⟩) n cap, .slice A m c]).run P w = .ok (goInt m) w' ∧
      w'.ownsRow base e size (.slice (some ⟨g, 0, none⟩) n cap) n (ys ++ xs.drop (m * size)) ∧ w.grownBy w' (some g) := by
  obtain ⟨i, hi, hz, hsize, hby⟩ := info_parts E.info
  obtain ⟨hxl, hown⟩ := hown
  rcases hown with ⟨hx, _⟩ | ⟨g', cap', cur, hv, hbg, hg, hnc, hcm, hcs, hx⟩
  · cases hx
  · simp only [Value.slice.injEq, Option.some.injEq, Addr.mk.injEq] at hv
    obtain ⟨⟨rfl, _⟩, _, rfl⟩ := hv
    have hmin : Nat.min m n = m := Nat.min_eq_left hmn
    have hms : m * size ≤ cap * size := Nat.mul_le_mul_right _ (by omega)
    have hft : (Builtin.firstCells size m (.slice A m c)).run P w = .ok ys.toArray w := by
      by_cases hn : ys = []
      · subst hn
        have hm0 : m = 0 := by
          rcases Nat.eq_zero_or_pos m with h | h
          · exact h
          · have : 0 < m * size := Nat.mul_pos h E.pos
            simp at hl; omega
        subst hm0
        cases A with
        | none => simp [Builtin.firstCells]
        | some ad => exact run_firstCells_some (P := P) w size 0 ad 0 c [] (by simp) (by simp)
      · obtain ⟨ad, rfl, hc⟩ := ha.src hn
        exact run_firstCells_some (P := P) w size m ad m c ys hl hc
    have hst := run_storeCells_at P g 0 e ys 0 cur w hg (by simp; omega) h1
    obtain ⟨row, hrow⟩ : ∃ row, row = (List.take (0 + 0) cur.toList ++ ys ++ List.drop (0 + 0 + ys.length) cur.toList).toArray := ⟨_, rfl⟩
    rw [← hrow] at hst
    refine ⟨w.setRow g row, ?_, ⟨?_, .inr ⟨g, cap, row, rfl, hbg, setRow_heap w g cur row e _ hg, hnc, hcm, ?_, ?_⟩⟩, ⟨rfl, rfl, rfl, by simp [World.setRow], fun k hk hne => setRow_other w g k row (fun e => hne (by rw [e]))⟩⟩
    · simp [Builtin.copy_, run_underlying E.under, sizeOf, typeInfo, hi, hsize, Builtin.lenOf, hmin, hft, hst]
    · have := Nat.mul_le_mul_right size hmn
      simp [hl, hxl]; omega
    · rw [hrow]; simp [hl]; omega
    · rw [hrow]
      have hnm := Nat.mul_le_mul_right size hmn
      have hnc' := Nat.mul_le_mul_right size hnc
      simp only [Nat.zero_add, List.take_zero, List.nil_append, hl]
      rw [← hx, List.take_append, hl, List.take_of_length_le (by omega), List.drop_take]

theorem wpList_copyE {ops : Array Oper} {rest : List Oper} {o : Oper} {a : Act} {Q : Exit → Act → World → Prop} (hgd : o.guard = none) (d s : Operand) {t t' e : TypeId} {z : Value} {size bytes : Nat}
    (E : Elem P t e z size bytes) (ho : o.op = .call { callee := .builtin .copy, args := #[d, s], argTypes := #[t, t'] })
    {base g n cap : Nat} {xs : List Value} (hd : a.eval d = .slice (some ⟨g, 0, none⟩) n cap) (hown : w.ownsRow base e size (.slice (some ⟨g, 0, none⟩) n cap) n xs)
    {B : Nat} {A : Option Addr} {m c : Nat} {ys : List Value} (hs : a.eval s = .slice A m c) (ha : Arr w B A ys) (hl : ys.length = m * size) (h1 : ∀ u ∈ ys, u.oneCell' = true) (hmn : m ≤ n)
    (h : ∀ w', w'.ownsRow base e size (.slice (some ⟨g, 0, none⟩) n cap) n (ys ++ xs.drop (m * size)) → w.grownBy w' (some g) → wpList P ops Q rest (a.put o.dst (goInt m)) w') :
    wpList P ops Q (o :: rest) a w := by
  obtain ⟨w', hr, h2, h3⟩ := run_copy_rowE (t' := t') (ty := o.type) E hown ha (c := c) hl h1 hmn
  refine wpList_plain hgd fun K hK => ?_
  unfold Oper.wp execOp
  simp only [ho, resolve, invoke, builtin, Sem.run_bind, Sem.run_pure, Result.andThen_ok, List.map_toArray, List.map_cons, List.map_nil, hd, hs, hr]
  exact hK _ _ (h w' h2 h3)

/-- make, length and capacity reckoned. -/
theorem wpList_makeE {ops : Array Oper} {rest : List Oper} {o : Oper} {a : Act} {Q : Exit → Act → World → Prop} (hgd : o.guard = none) (l c : Operand) {t e : TypeId} {z : Value} {size bytes : Nat}
    (E : Elem P t e z size bytes) (ho : o.op = Op.makeSlice t l c) (base : Nat) {kl kc : IntKind} {L C : Int} (n cap : Nat) (hl : a.eval l = .int kl L) (hc : a.eval c = .int kc C) (hL : L = (n : Int)) (hC : C = (cap : Int))
    (hnc : n ≤ cap) (b2 : bytes * cap ≤ 281474976710656) (b3 : cap ≤ maxLen) (b4 : base ≤ w.heap.size)
    (h : ∀ w', w'.ownsRow base e size (.slice (some ⟨w.heap.size, 0, none⟩) n cap) n (List.replicate n z.cells.toList).flatten → w.grownBy w' none → wpList P ops Q rest (a.put o.dst (.slice (some ⟨w.heap.size, 0, none⟩) n cap)) w') :
    wpList P ops Q (o :: rest) a w := by
  obtain ⟨i, hi, hz, hsize, hby⟩ := info_parts E.info
  have hb : (i.bytes : Int) * (cap : Int) ≤ 281474976710656 := by
    have h : ((i.bytes * cap : Nat) : Int) ≤ 281474976710656 := by rw [hby]; omega
    rwa [Int.natCast_mul] at h
  have hr := run_make (P := P) w t e i z E.under hi hz kl kc n cap (by omega) (by omega) hb (by unfold maxLen at b3; omega)
  simp only [Int.toNat_natCast] at hr
  subst hL hC
  refine wpList_plain hgd fun K hK => ?_
  unfold Oper.wp
  simp [execOp, ho, hl, hc, hr, Result.andThen]
  refine hK _ _ (h _ ?_ (World.grownBy_alloc w _ _))
  have hnc' := Nat.mul_le_mul_right size hnc
  have hzs := E.zs
  have hpos := E.pos
  have hlen : (List.replicate n z.cells.toList).flatten.length = n * size := by simp [hzs]
  refine ⟨hlen, .inr ⟨w.heap.size, cap, _, rfl, b4, heap_alloc_new w _, hnc, b3, by rw [size_madeCells, hsize], ?_⟩⟩
  apply List.ext_getElem
  · rw [hlen, List.length_take, Array.length_toList, size_madeCells, hsize]; omega
  · intro j h1 h2
    rw [hlen] at h2
    have hmod : j % size < z.cells.size := by rw [hzs]; exact Nat.mod_lt _ hpos
    have key : ∀ (n j : Nat) (hj : j < n * size), (List.replicate n z.cells.toList).flatten[j]? = z.cells[j % size]? := by
      intro n
      induction n with
      | zero => intro j hj; simp at hj
      | succ n ih =>
        intro j hj
        rw [List.replicate_succ, List.flatten_cons, List.getElem?_append]
        by_cases hlt : j < size
        · rw [if_pos (by simpa [hzs] using hlt), Nat.mod_eq_of_lt hlt]; simp
        · rw [if_neg (by simpa [hzs] using hlt)]
          rw [Nat.succ_mul] at hj
          have : z.cells.toList.length = size := by simpa using hzs
          rw [this, ih (j - size) (by omega)]
          congr 1
          conv => rhs; rw [show j = (j - size) + size from by omega]
          rw [Nat.add_mod_right]
    have k2 := key n j h2
    rw [List.getElem_take, Array.getElem_toList]
    have k3 : (List.replicate n z.cells.toList).flatten[j]? = some (List.replicate n z.cells.toList).flatten[j] := List.getElem?_eq_getElem _
    rw [k3] at k2
    simp only [madeCells, Array.getElem_map, Array.getElem_range, hzs]
    rw [getElem!_pos z.cells (j % size) hmod]
    rw [Array.getElem?_eq_getElem hmod] at k2
    exact (Option.some.inj k2).symm
end

/-! ### A variable of many cells, read and written whole -/
section
variable {P : Program} {w : World}
theorem Blk.setRow {g : Nat} {t : TypeId} {cs : Array Value} (h : Blk w g t cs) (cs' : Array Value) : Blk (w.setRow g cs') g t cs' := setRow_heap w g cs cs' t _ h
theorem Blk.setRow_far {g g' : Nat} {t : TypeId} {cs : Array Value} (h : Blk w g t cs) (hne : g ≠ g') (cs' : Array Value) : Blk (w.setRow g' cs') g t cs := (setRow_other w g' g cs' hne).trans h
theorem wpList_loadB {ops : Array Oper} {rest : List Oper} {o : Oper} {a : Act} {Q : Exit → Act → World → Prop} (hgd : o.guard = none) (ty : TypeId) (x : Operand) (ho : o.op = .load ty x)
    {g : Nat} (hx : a.eval x = .pointer (some ⟨g, 0, none⟩)) {t : TypeId} {cs : Array Value} {d : TypeDesc} (hg : Blk w g t cs)
    (hu : P.underlying ty = some d) (hd : (match d with | .struct _ | .array _ _ => true | _ => false) = true) (hi : (P.info? ty).map (·.size) = some cs.size)
    (h : wpList P ops Q rest (a.put o.dst (.agg cs)) w) : wpList P ops Q (o :: rest) a w :=
  wpList_load_row hgd ty x ho g hx t cs (0, 0) d hg hu hd hi h
theorem wpList_storeB {ops : Array Oper} {rest : List Oper} {o : Oper} {a : Act} {Q : Exit → Act → World → Prop} (hgd : o.guard = none) (ty : TypeId) (x y : Operand) (ho : o.op = .store ty x y)
    {g : Nat} (hx : a.eval x = .pointer (some ⟨g, 0, none⟩)) {t : TypeId} {cs cs' : Array Value} (hg : Blk w g t cs) (hy : a.eval y = .agg cs') (hs : cs.size = cs'.size)
    (hi : (P.info? ty).map (·.size) = some cs'.size) (h1 : cs'.all (·.oneCell') = true)
    (h : ∀ w', Blk w' g t cs' → w.grownBy w' (some g) → wpList P ops Q rest (a.put o.dst undef) w') : wpList P ops Q (o :: rest) a w := by
  have hr := run_storeVar_row (P := P) w g t ty cs cs' hg hi hs h1
  refine wpList_plain hgd fun K hK => ?_
  unfold Oper.wp
  simp [execOp, ho, hx, hy, Instr.storeAt, Instr.sureAddr, hr, Result.andThen]
  exact hK _ _ (h _ (hg.setRow cs') ⟨rfl, rfl, rfl, by simp [World.setRow], fun k hk hne => setRow_other w g k cs' (fun e => hne (by rw [e]))⟩)
theorem post_cell {fn : Func} {R : Ending → World → Prop} {a : Act} {p : Tmp} {ty : TypeId} (h : fn.results = #[.cell p ty]) {g : Nat} {t : TypeId} {cs : Array Value} {d : TypeDesc}
    (hp : a.tmps.getD p undef = .pointer (some ⟨g, 0, none⟩)) (hg : Blk w g t cs)
    (hu : P.underlying ty = some d) (hd : (match d with | .struct _ | .array _ _ => true | _ => false) = true) (hi : (P.info? ty).map (·.size) = some cs.size) (hdef : a.defers = [])
    (hR : R (.returned (.agg cs)) w) : bodyPost P fn R .ret a w :=
  bodyPost_ret (results_cell_row h a.tmps w g t cs (0, 0) d hp hg hu hd hi) hdef hR
end

/-! ### What is owned -/
section
variable {w w' : World} {base : Nat} {e : TypeId} {size n : Nat} {v : Value} {xs : List Value}
theorem Blk.grown {g : Nat} {t : TypeId} {cs : Array Value} {row : Option Nat} (h : Blk w g t cs) (hg : w.grownBy w' row) (hne : some g ≠ row) : Blk w' g t cs := (hg.block g h.lt hne).trans h
theorem own_below {B : Nat} (h : w.ownsRow base e size v n xs) (hb : Below B w w') (hB : ∀ k, v.ownBlock = some k → k < B) : w'.ownsRow base e size v n xs := by
  obtain ⟨h1, h2⟩ := h
  refine ⟨h1, ?_⟩
  rcases h2 with h2 | ⟨g, cap, cur, hv, hbg, hh, r⟩
  · exact .inl h2
  · exact .inr ⟨g, cap, cur, hv, hbg, by rw [hb.block g (hB g (by rw [hv]; rfl))]; exact hh, r⟩
theorem own_on (h : w.ownsRow base e size v n xs) (hb : Below w.heap.size w w') : w'.ownsRow base e size v n xs := own_below h hb fun k hk => (h.lt k hk).2
theorem own_base {base' : Nat} (h : w.ownsRow base e size v n xs) (hb : base' ≤ base) : w.ownsRow base' e size v n xs := by
  obtain ⟨h1, h2⟩ := h
  refine ⟨h1, ?_⟩
  rcases h2 with h2 | ⟨g, cap, cur, hv, hbg, hh, r⟩
  · exact .inl h2
  · exact .inr ⟨g, cap, cur, hv, by omega, hh, r⟩
theorem below_own {B : Nat} {a : World} {row : Option Nat} (h : Below B a w) (hg : w.grownBy w' row) (hB : B ≤ w.heap.size) (hr : ∀ k, row = some k → B ≤ k) : Below B a w' := h.grown hg hB hr
end
end Go.Our
