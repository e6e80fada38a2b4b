/- Part 1 of the texts that the last one leans on: SxOpsI, SxOpsM, SxDeep, SxOpsN, SxOpsP, SxOpsQ, SxOpsJ, SxSound, SxSoundG, SxSpec, SxCall. Conditions: as each part says. -/
import Derived.Laws.IdiomStrings
import Derived.Tactics
import Derived.Test.YtjbbkimodgffiaaGreatDoorInH0
/- Each operation does what the engine says of it: append, copy, texts gone over, conversions, the least and the greatest. Conditions: none. -/
set_option linter.unusedVariables false
set_option linter.unusedSimpArgs false
namespace Go.Sx
open Go
section
variable {M : Mx} {η : Env} {w : World} {O : Hps} {nx : Nat} {ρ : Operand → Value} {lk : Operand → Option SV} {v : SV} {O' : Hps} {nx' : Nat} {dst : Option Tmp} {ty : TypeId} {pos : String} {af : Array Edge} {gd : Option (Nat × Bool)}
theorem cell_heap {w w' : World} (h : w'.heap = w.heap) (a : Addr) : w'.cell? a = w.cell? a := by unfold World.cell?; rw [h]
/-- What rows of elements come to in memory. -/
structure News (P : Program) (w : World) (η : Env) (es : Nat) (xs : List (List SV)) (m : Nat) (xv : Value) (news : List Value) : Prop where
  len : news.length = m * es
  one : ∀ u ∈ news, u.oneCell' = true
  den : DenLL η es xs news
  lenOf : ∀ w', (Builtin.lenOf xv).run P w' = .ok m w'
  first : ∀ w', w'.heap = w.heap → (Builtin.firstCells es m xv).run P w' = .ok ⟨news⟩ w'
theorem rowsR_news (A : At M η w O nx ρ lk) {es : Nat} {x : SV} {xv : Value} {xs : List (List SV)} {m : Nat} (hd : Den η x xv) (h : rowsR M.C O es x = some (xs, m)) (hl : xs.length = m) : ∃ news, News M.P w η es xs m xv news := by
  unfold rowsR at h
  split at h
  · rename_i b r es' len lim
    split at h
    case h_2 => cases h
    rename_i es'' rs hh
    split at h
    case h_2 => cases h
    rename_i h1
    split at h
    case h_2 => cases h
    rename_i h2
    have h1 := beq_eq h1
    have h2 := beq_eq h2
    subst h1 h2
    simp only [Option.some.injEq, Prod.mk.injEq] at h
    obtain ⟨rfl, rfl⟩ := h
    have hsat := A.H.look hh
    simp only [HpSat] at hsat
    simp only [Den] at hd
    rcases hd with ⟨q1, rfl, q3⟩ | ⟨en, o, q1, rfl, q3, q4, q5⟩
    · subst q3
      refine ⟨[], by simp, by simp, by simp [DenLL], fun w' => rfl, fun w' _ => rfl⟩
    · by_cases h0 : len = 0
      · subst h0
        refine ⟨[], by simp, by simp, by simp [DenLL], fun w' => rfl, fun w' _ => ?_⟩
        simp [Builtin.firstCells, loadCells, loadCellsFrom]
      · rcases hsat with ⟨q6, rfl⟩ | ⟨en', arr, T, fz, q6, q7, _, q8⟩
        · rw [q1] at q6; cases q6
        rw [q1] at q6; injection q6 with q6; injection q6 with q6; subst q6
        have q8' : ∀ (i : Nat) (row : List SV), ((rs.drop r).take len)[i]? = some row → row.length = es ∧ CellsAt η arr (en.base + r * es + i * es) row := by
          intro i row hi
          rw [List.getElem?_take] at hi
          split at hi
          · rw [List.getElem?_drop] at hi
            obtain ⟨p1, p2⟩ := q8 _ row hi
            refine ⟨p1, ?_⟩
            rw [show en.base + r * es + i * es = en.base + (r + i) * es by rw [Nat.add_mul]; omega]
            exact p2
          · cases hi
        obtain ⟨p1, p2, p3⟩ := rows_LL q8'
        rw [hl] at p1 p2 p3
        have ho := q5 (by omega)
        subst ho
        refine ⟨_, p2, p3, p1, fun w' => rfl, fun w' hw' => ?_⟩
        have hcell : ∀ j u, ((arr.toList.drop (en.base + r * es)).take (len * es))[j]? = some u → w'.cell? ((⟨en.g, en.base + r * es, none⟩ : Addr).add j) = some u := by
          intro j u hj
          rw [List.getElem?_take] at hj
          split at hj
          · rw [List.getElem?_drop] at hj
            rw [Addr.add_lit, cell_heap hw']
            simp only [World.cell?, q7]
            simpa using hj
          · cases hj
        exact run_firstCells_some (P := M.P) w' es len ⟨en.g, en.base + r * es, none⟩ len _ _ p2 hcell
  · simp only [Option.some.injEq, Prod.mk.injEq] at h
    obtain ⟨rfl, rfl⟩ := h
    obtain ⟨rfl, _⟩ : xv = .slice none 0 0 ∧ _ := hd
    exact ⟨[], by simp, by simp, by simp [DenLL], fun w' => rfl, fun w' _ => rfl⟩
  · rename_i s
    split at h
    case h_2 => cases h
    rename_i h1
    have h1 := beq_eq h1
    subst h1
    simp only [Option.some.injEq, Prod.mk.injEq] at h
    obtain ⟨rfl, rfl⟩ := h
    have hd' := denStr hd
    clear hd
    subst hd'
    refine ⟨s.map fun b => .int .u8 (b.toNat : Int), by simp, ?_, ?_, fun w' => ?_, fun w' _ => ?_⟩
    · intro u hu
      obtain ⟨b, _, rfl⟩ := List.mem_map.1 hu
      rfl
    · clear hl
      induction s with
      | nil => simp [DenLL]
      | cons b s ih =>
        simp only [List.map_cons, DenLL]
        exact ⟨[.int .u8 (b.toNat : Int)], _, rfl, rfl, by simp [bytesRow, DenL, Den], ih⟩
    · simp [Builtin.lenOf, size_mk]
    · have : (ByteArray.mk s.toArray).extract 0 s.length = ⟨s.toArray⟩ := by rw [extract_mk]; simp
      simp [Builtin.firstCells, this]
  · cases h
theorem denLL_append {es : Nat} : ∀ {rs qs : List (List SV)} {us vs : List Value}, DenLL η es rs us → DenLL η es qs vs → DenLL η es (rs ++ qs) (us ++ vs)
  | [], qs, us, vs, h, k => by simp only [DenLL] at h; subst h; exact k
  | r :: rs, qs, us, vs, h, k => by
    simp only [DenLL] at h
    obtain ⟨a, b, rfl, h1, h2, h3⟩ := h
    simp only [List.cons_append, DenLL, List.append_assoc]
    exact ⟨a, _, rfl, h1, h2, denLL_append h3 k⟩
/-- Rows written over from row r on; those ahead stay, and those behind. -/
theorem rows_over {arr : Array Value} {es r cap : Nat} {rs xs : List (List SV)} {us : List Value} (hsz : arr.size = cap * es) (hfits : r + xs.length ≤ cap) (hrr : r ≤ rs.length)
    (hr : ∀ (i : Nat) (row : List SV), rs[i]? = some row → row.length = es ∧ CellsAt η arr (0 + i * es) row) (hd : DenLL η es xs us) (h1 : ∀ u ∈ us, u.oneCell' = true) :
    r * es + us.length ≤ arr.size ∧
    ∀ (i : Nat) (q : List SV), (rs.take r ++ xs ++ rs.drop (r + xs.length))[i]? = some q → q.length = es ∧ CellsAt η (arr.toList.take (r * es) ++ us ++ arr.toList.drop (r * es + us.length)).toArray (0 + i * es) q := by
  have hl := denLL_len hd
  have hfit : r * es + us.length ≤ arr.size := by
    have : (r + xs.length) * es ≤ cap * es := Nat.mul_le_mul_right _ hfits
    rw [Nat.add_mul] at this; omega
  refine ⟨hfit, ?_⟩
  intro i q hi
  have ht : (rs.take r).length = r := by rw [List.length_take]; omega
  rw [List.append_assoc] at hi
  by_cases hir : i < r
  · rw [List.getElem?_append_left (by omega), List.getElem?_take, if_pos hir] at hi
    obtain ⟨p1, p2⟩ := hr i q hi
    refine ⟨p1, splice_off (o := 0 + i * es) p2 p1 hfit (.inl ?_)⟩
    have : (i + 1) * es ≤ r * es := Nat.mul_le_mul_right _ hir
    rw [Nat.succ_mul] at this; omega
  · rw [List.getElem?_append_right (by omega), ht] at hi
    by_cases hix : i - r < xs.length
    · rw [List.getElem?_append_left hix] at hi
      obtain ⟨p1, p2⟩ := rowsAt_of_LL hd h1 (i - r) q hi
      refine ⟨p1, fun j sv hj => ?_⟩
      obtain ⟨u, p3, p4, p5⟩ := p2 j sv hj
      refine ⟨u, ?_, p4, p5⟩
      have hlt := (Array.getElem?_eq_some_iff.1 p3).1
      have hut : (arr.toList.take (r * es)).length = r * es := by rw [List.length_take]; simp; omega
      have hi' : i * es = r * es + (i - r) * es := by rw [← Nat.add_mul]; congr 1; omega
      simp only [List.append_assoc, List.getElem?_toArray]
      rw [List.getElem?_append_right (by omega), hut, List.getElem?_append_left (by simp at hlt; omega)]
      rw [show 0 + i * es + j - r * es = 0 + (i - r) * es + j by omega]
      simpa using p3
    · rw [List.getElem?_append_right (by omega), List.getElem?_drop] at hi
      rw [show r + xs.length + (i - r - xs.length) = i by omega] at hi
      obtain ⟨p1, p2⟩ := hr i q hi
      refine ⟨p1, splice_off (o := 0 + i * es) p2 p1 hfit (.inr ?_)⟩
      have : (r + xs.length) * es ≤ i * es := Nat.mul_le_mul_right _ (by omega)
      rw [Nat.add_mul] at this; omega
/-- append, where a new array is made. -/
theorem append_grow {P : Program} {w : World} {t u e : TypeId} {i : TypeInfo} {z : Value} {ty : TypeId} {base : Option Addr} {n cap m : Nat} {xv : Value} {olds news : List Value} (ht : P.underlying t = some (.slice e)) (hu : (∃ q, P.underlying u = some (.slice q)) ∨ P.underlying u = some .string) (hi : P.info? e = some i) (hz : i.zero = some z)
    (hn : ∀ w', (Builtin.lenOf xv).run P w' = .ok m w') (hf : ∀ w', w'.heap = w.heap → (Builtin.firstCells i.size m xv).run P w' = .ok ⟨news⟩ w') (ho : ∀ w', w'.heap = w.heap → (Builtin.firstCells i.size n (.slice base n cap)).run P w' = .ok ⟨olds⟩ w')
    (hroom : cap < n + m) (h63 : n + m ≤ 9223372036854775807) (hbytes : (n + m) * i.bytes ≤ 140737488355328) :
    (Builtin.append_ #[t, u] ty #[.slice base n cap, xv]).run P w = .ok (.slice (some ⟨w.heap.size, 0, none⟩) (n + m) (grownCap w (n + m) cap e))
      (w.drew.alloc (.cells ⟨olds ++ news ++ (Builtin.zeroCells z.cells (grownCap w (n + m) cap e - (n + m))).toList⟩ e)) := by
  have hcap := growslice_fits hroom hbytes
  have h1 : ¬ (n + m ≤ cap) := by omega
  have h2 : ¬ (9223372036854775807 < ((n : Int) + (m : Int))) := by omega
  have h3 : ¬ (281474976710656 < Builtin.nextslicecap (n + m) cap * i.bytes) := by omega
  have hd1 := hf w.drew rfl
  have hd2 := ho w.drew rfl
  have harr : (Array.mk olds ++ Array.mk news ++ Builtin.zeroCells z.cells (grownCap w (n + m) cap e - (n + m))) = ⟨olds ++ news ++ (Builtin.zeroCells z.cells (grownCap w (n + m) cap e - (n + m))).toList⟩ := by
    apply Array.ext'; simp
  have hdraw : (choose (.appendCap (n + m) cap e)).run P w = .ok (grownCap w (n + m) cap e) w.drew := by
    simp [grownCap, Question.forced]
  rw [← harr]
  rcases hu with ⟨q, hu⟩ | hu
  · simp [Builtin.append_, run_und ht, run_und hu, run_size hi, run_info hi, run_zero hi hz, hn, h1, h2, h3, hd1, hd2, newRow, Question.forced, grownCap]
    try (congr 2; apply Array.ext'; simp)
  · simp [Builtin.append_, run_und ht, run_und hu, run_size hi, run_info hi, run_zero hi hz, hn, h1, h2, h3, hd1, hd2, newRow, Question.forced, grownCap]
    try (congr 2; apply Array.ext'; simp)
/-- append, where there is room. -/
theorem append_room {P : Program} {w : World} {t u e : TypeId} {i : TypeInfo} {ty : TypeId} {g n cap m : Nat} {arr : Array Value} {tt : TypeId} {fz : Nat × Nat} {xv : Value} {news : List Value} (ht : P.underlying t = some (.slice e)) (hu : (∃ q, P.underlying u = some (.slice q)) ∨ P.underlying u = some .string) (hi : P.info? e = some i)
    (hn : ∀ w', (Builtin.lenOf xv).run P w' = .ok m w') (hf : ∀ w', w'.heap = w.heap → (Builtin.firstCells i.size m xv).run P w' = .ok ⟨news⟩ w')
    (hg : w.heap[g]? = some (.cells arr tt fz)) (huf : Unfrozen arr.size fz) (h1 : ∀ u ∈ news, u.oneCell' = true) (hroom : n + m ≤ cap) (hfit : n * i.size + news.length ≤ arr.size) :
    (Builtin.append_ #[t, u] ty #[.slice (some ⟨g, 0, none⟩) n cap, xv]).run P w = .ok (.slice (some ⟨g, 0, none⟩) (n + m) cap) (w.setRow g (arr.toList.take (n * i.size) ++ news ++ arr.toList.drop (n * i.size + news.length)).toArray) := by
  have hd1 := hf w rfl
  have hst := storeCells_run (P := P) g (n * i.size) tt fz news 0 arr w hg (by simpa using hfit) huf h1
  simp only [Nat.add_zero] at hst
  have hadd : (⟨g, 0, none⟩ : Addr).add (n * i.size) = ⟨g, n * i.size, none⟩ := by rw [Addr.add_lit, Nat.zero_add]
  rcases hu with ⟨q, hu⟩ | hu
  · simp [Builtin.append_, run_und ht, run_und hu, run_size hi, hn, hroom, hd1, hadd, hst]
  · simp [Builtin.append_, run_und ht, run_und hu, run_size hi, hn, hroom, hd1, hadd, hst]
/-- append of nothing to nothing. -/
theorem append_none {P : Program} {w : World} {t u e : TypeId} {i : TypeInfo} {ty : TypeId} {xv : Value} (ht : P.underlying t = some (.slice e)) (hu : (∃ q, P.underlying u = some (.slice q)) ∨ P.underlying u = some .string) (hi : P.info? e = some i)
    (hn : ∀ w', (Builtin.lenOf xv).run P w' = .ok 0 w') (hf : ∀ w', w'.heap = w.heap → (Builtin.firstCells i.size 0 xv).run P w' = .ok ⟨[]⟩ w') :
    (Builtin.append_ #[t, u] ty #[.slice none 0 0, xv]).run P w = .ok (.slice none 0 0) w := by
  have hd1 := hf w rfl
  rcases hu with ⟨q, hu⟩ | hu
  · simp [Builtin.append_, run_und ht, run_und hu, run_size hi, hn, hd1]
  · simp [Builtin.append_, run_und ht, run_und hu, run_size hi, hn, hd1]
theorem s_append (A : At M η w O nx ρ lk) (args : Array Operand) (ts : Array TypeId) (hr : (opR M.C lk O nx (.call ⟨.builtin .append, args, ts⟩)).ok O nx v O' nx') : Sound M η w ⟨dst, .call ⟨.builtin .append, args, ts⟩, ty, pos, af, gd⟩ ρ v O' nx' := by
  simp only [opR, builtinR, appendO] at hr
  split at hr
  case h_2 => exact hr.elim
  rename_i s x ha
  obtain rfl : args = #[s, x] := by apply Array.ext'; simpa using ha
  split at hr
  case h_2 => exact hr.elim
  rename_i t u htu
  obtain rfl : ts = #[t, u] := by apply Array.ext'; simpa using htu
  split at hr
  case h_2 => exact hr.elim
  rename_i sv hs
  split at hr
  case h_2 => exact hr.elim
  rename_i xsv hx
  have hsd := A.L _ _ hs
  have hxd := A.L _ _ hx
  have fin : ∀ {z : Value} {w' : World}, (Builtin.append_ #[t, u] ty #[ρ s, ρ x]).run M.P w = .ok z w' → Yields M.P ⟨dst, .call ⟨.builtin .append, #[s, x], #[t, u]⟩, ty, pos, af, gd⟩ ρ w z w' := by
    intro z w' h
    exact .inl (by simp [execOp, resolve, invoke, builtin, h])
  have main : ((∃ q, M.P.underlying u = some (.slice q)) ∨ M.P.underlying u = some .string) → (appendR M.C O nx t sv xsv).ok O nx v O' nx' → Sound M η w ⟨dst, .call ⟨.builtin .append, #[s, x], #[t, u]⟩, ty, pos, af, gd⟩ ρ v O' nx' := by
    intro hu hr
    unfold appendR at hr
    split at hr
    case h_2 => exact hr.elim
    rename_i e hst
    obtain ⟨d, hd, hm⟩ := A.T.und t (by rw [hst]; simp)
    rw [hst] at hm; simp only [ShM] at hm; subst hm
    split at hr
    · exact hr.elim
    rename_i c cs hz
    have hsh : M.C.T.sh e ≠ .other := A.T.zsh e (by rw [hz]; simp)
    obtain ⟨ie, z, h1, h2, h3, h4, h5, _⟩ := A.T.zero e hsh (by rw [hz]; simp)
    rw [hz] at h3 h5
    obtain ⟨ie', hie, hies, hieb⟩ := A.T.info e hsh
    rw [h1] at hie; injection hie with hie; subst hie
    have h3 := DenL.mono (η' := η) List.nil_prefix h3
    have hzl : z.cells.size = M.C.T.size e := by have := denL_len h3; rw [h5] at this; simpa using this
    split at hr
    · exact hr.elim
    rename_i xs m hrows
    -- a new array holds the old elements and the new ones
    have newarr : ∀ {base : Option Addr} {n cap : Nat} {olds news : List Value} {rs : List (List SV)} {Oo : Hps}, HeapOK M η w Oo nx → ρ s = .slice base n cap → News M.P w η (M.C.T.size e) xs m (ρ x) news → cap < n + m → n + m ≤ 9223372036854775807 → (n + m) * M.C.T.bytes e ≤ 140737488355328 →
        (∀ w', w'.heap = w.heap → (Builtin.firstCells (M.C.T.size e) n (.slice base n cap)).run M.P w' = .ok ⟨olds⟩ w') → DenLL η (M.C.T.size e) rs olds → (∀ u ∈ olds, u.oneCell' = true) → rs.length = n → xs.length = m →
        v = .sl (.loc nx) 0 (M.C.T.size e) (n + m) none → O' = (nx, .rows (M.C.T.size e) (rs ++ xs)) :: Oo → nx' = nx + 1 → Sound M η w ⟨dst, .call ⟨.builtin .append, #[s, x], #[t, u]⟩, ty, pos, af, gd⟩ ρ v O' nx' := by
      intro base n cap olds news rs Oo hH hsv N hroom h63 hby ho hol ho1 hrl hxl e1 e2 e3
      subst e1 e2 e3
      have hge := grownCap_ge w (n + m) cap e
      have hrun := append_grow (P := M.P) (ty := ty) (base := base) (i := ie) hd hu h1 h2 N.lenOf (by rw [hies]; exact N.first) (by rw [hies]; exact ho) hroom h63 (by rw [hieb]; exact hby)
      rw [← hsv] at hrun
      have hLL := denLL_append hol N.den
      have hlen := denLL_len hLL
      have hone : ∀ u ∈ olds ++ news, u.oneCell' = true := by
        intro u hu; rcases List.mem_append.1 hu with hu | hu
        · exact ho1 u hu
        · exact N.one u hu
      have hra := rowsAt_of_LL hLL hone
      refine ⟨_, _, η ++ [some ⟨w.heap.size, 0, grownCap w (n + m) cap e⟩], fin hrun, List.prefix_append _ _, ?_, den_newsl A.H.len hge, fun _ h => absurd h (by simp)⟩
      refine HeapOK.alloc (w' := w.drew.alloc (.cells ⟨olds ++ news ++ (Builtin.zeroCells z.cells (grownCap w (n + m) cap e - (n + m))).toList⟩ e)) hH rfl rfl rfl rfl 0 _ ?_
      simp only [HpSat]
      right
      have hszz : (olds ++ news ++ (Builtin.zeroCells z.cells (grownCap w (n + m) cap e - (n + m))).toList).length = grownCap w (n + m) cap e * M.C.T.size e := by
        rw [List.length_append, hlen, List.length_append, hrl, hxl, Array.length_toList, size_zeroCells, hzl, ← Nat.add_mul]
        congr 1; omega
      refine ⟨_, _, e, (0, 0), get_new hH.len _, heap_push_eq (w := w) (w' := w.drew.alloc _) rfl, fun _ => ⟨unfrozen00 _, hszz, ?_, rfl⟩, ?_⟩
      · rw [List.length_append, hrl, hxl]; exact hge
      · intro k row hk
        obtain ⟨p1, p2⟩ := hra k row hk
        refine ⟨p1, fun j sv' hj => ?_⟩
        obtain ⟨y, p3, p4, p5⟩ := p2 j sv' hj
        refine ⟨y, ?_, p4, p5.mono (List.prefix_append _ _)⟩
        have hlt := (Array.getElem?_eq_some_iff.1 p3).1
        simp only [List.getElem?_toArray]
        rw [List.getElem?_append_left (by simpa using hlt)]
        simpa using p3
    split at hr
    · obtain ⟨⟨q1, q2, q3⟩, e1, e2, e3⟩ := hr
      have hsv : ρ s = .slice none 0 0 := And.left hsd
      obtain ⟨news, N⟩ := rowsR_news A hxd hrows q1
      by_cases hm0 : m = 0
      · subst hm0
        have hx0 : xs = [] := List.length_eq_zero_iff.1 q1
        have hn0 : news = [] := by apply List.length_eq_zero_iff.1; rw [N.len]; omega
        subst hx0 hn0 e1 e2 e3
        have hrun := append_none (P := M.P) (ty := ty) (w := w) (i := ie) hd hu h1 N.lenOf (by rw [hies]; exact N.first)
        rw [← hsv] at hrun
        refine ⟨_, w, η ++ [none], fin hrun, List.prefix_append _ _, ?_, ?_, fun _ h => absurd h (by simp)⟩
        · exact A.H.name none (Or.inl ⟨get_new A.H.len _, rfl⟩) (fun e h => by cases h) (fun e h => by cases h)
        · exact Or.inl ⟨get_new A.H.len _, hsv, rfl⟩
      · refine newarr (rs := []) (olds := []) A.H hsv N (by omega) (by omega) (by simpa using q3) (fun w' _ => rfl) (by simp [DenLL]) (by simp) rfl q1 (by simpa using e1) (by simpa using e2) e3
    · rename_i i es n _
      split at hr
      case h_2 => exact hr.elim
      rename_i es' rs hh
      split at hr
      case h_2 => exact hr.elim
      rename_i hes
      have hes := beq_eq hes
      subst hes
      split at hr
      case h_2 => exact hr.elim
      rename_i hes'
      have hes' := beq_eq hes'
      subst hes'
      obtain ⟨⟨q1, q2, q3, q4⟩, e1, e2, e3⟩ := hr
      obtain ⟨news, N⟩ := rowsR_news A hxd hrows q1
      obtain ⟨hsat, hFb⟩ := A.H.own.1 i _ hh
      simp only [HpSat, Env.get] at hsat
      simp only [Den, Env.get] at hsd
      rcases hsd with ⟨p1, hsv, p3⟩ | ⟨en, o, p1, hsv, p3, p4, p5⟩
      · rcases hsat with ⟨p6, rfl⟩ | ⟨en', arr, T, fz, p6, _⟩
        case inr => rw [p1] at p6; cases p6
        subst p3
        by_cases hm0 : m = 0
        · subst hm0
          have hx0 : xs = [] := List.length_eq_zero_iff.1 q1
          have hn0 : news = [] := by apply List.length_eq_zero_iff.1; rw [N.len]; omega
          subst hx0 hn0 e1 e2 e3
          have hrun := append_none (P := M.P) (ty := ty) (w := w) (i := ie) hd hu h1 N.lenOf (by rw [hies]; exact N.first)
          rw [← hsv] at hrun
          refine ⟨_, w, η ++ [none], fin hrun, List.prefix_append _ _, ?_, ?_, fun _ h => absurd h (by simp)⟩
          · exact (A.H.forget i).name none (Or.inl ⟨get_new A.H.len _, rfl⟩) (fun e h => by cases h) (fun e h => by cases h)
          · exact Or.inl ⟨get_new A.H.len _, hsv, rfl⟩
        · exact newarr (rs := []) (olds := []) (A.H.forget i) hsv N (by omega) (by omega) q4 (fun w' _ => rfl) (by simp [DenLL]) (by simp) rfl q1 (by simpa using e1) (by simpa using e2) e3
      · rcases hsat with ⟨p6, _⟩ | ⟨en', arr, T, fz, p6, p7, p8, p9⟩
        · rw [p1] at p6; cases p6
        rw [p1] at p6; injection p6 with p6; injection p6 with p6; subst p6
        obtain ⟨p8u, p8s, p8c, p8b⟩ := p8 trivial
        rw [p8b] at p9
        simp only [Option.getD_none] at hsv p3 p4 p5
        have p9' : ∀ (k : Nat) (row : List SV), (rs.take n)[k]? = some row → row.length = M.C.T.size e ∧ CellsAt η arr (0 + k * M.C.T.size e) row := by
          intro k row hk
          rw [List.getElem?_take] at hk
          split at hk
          · exact p9 k row hk
          · cases hk
        have hrn : (rs.take n).length = n := by rw [List.length_take]; omega
        obtain ⟨g1, g2, g3⟩ := rows_LL p9'
        rw [hrn] at g1 g2 g3
        by_cases hcap0 : en.cap = 0
        · -- no room at all
          have hn0 : n = 0 := by omega
          subst hn0
          by_cases hm0 : m = 0
          · subst hm0
            have hx0 : xs = [] := List.length_eq_zero_iff.1 q1
            have hn0 : news = [] := by apply List.length_eq_zero_iff.1; rw [N.len]; omega
            subst hx0 hn0 e1 e2 e3
            have hrun : (Builtin.append_ #[t, u] ty #[ρ s, ρ x]).run M.P w = .ok (.slice (some ⟨en.g, o, none⟩) 0 (en.cap - 0)) w := by
              have hd1 := N.first w rfl
              rcases hu with ⟨q, hu⟩ | hu <;> simp [hsv, Builtin.append_, run_und hd, run_und hu, run_size h1, N.lenOf, hies, hd1, storeCells]
            refine ⟨_, w, η ++ [some en], fin hrun, List.prefix_append _ _, ?_, ?_, fun _ h => absurd h (by simp)⟩
            · refine (A.H.forget i).name (some en) ?_ (fun e h => by injection h with h; subst h; exact hFb _ (feet.own p1)) ?_
              · simp only [HpSat]
                right
                exact ⟨en, arr, T, fz, get_new A.H.len _, p7, fun _ => ⟨p8u, p8s, by simp, p8b⟩, fun k row hk => by simp at hk⟩
              · intro e h j g hj f
                injection h with h; subst h
                by_cases hji : j = i
                · subst hji; rw [lkp_delK_self] at hj; cases hj
                · rw [lkp_delK i O j hji] at hj
                  exact A.H.own.2 j i g _ en.g hj hh hji f (feet.own p1)
            · simp only [Den]
              right
              exact ⟨en, o, get_new A.H.len _, by simp, by simp, by simp, fun _ => p5 (.inr trivial)⟩
          · exact newarr (rs := []) (olds := []) (A.H.forget i) hsv N (by omega) q3 q4 (fun w' _ => by simp [Builtin.firstCells, loadCells, loadCellsFrom]) (by simp [DenLL]) (by simp) rfl q1 (by simpa using e1) (by simpa using e2) e3
        · have ho := p5 (.inl (by omega))
          rw [p8b] at ho
          simp only [Nat.zero_mul, Nat.add_zero] at ho
          subst ho
          by_cases hroom : n + m ≤ en.cap
          · obtain ⟨r1, r2⟩ := rows_over p8s (r := n) (by omega) (by rw [hrn]; exact Nat.le_refl _) p9' N.den N.one
            have hrun := append_room (P := M.P) (ty := ty) (w := w) (i := ie) (cap := en.cap) hd hu h1 N.lenOf (by rw [hies]; exact N.first) p7 p8u N.one hroom (by rw [hies]; exact r1)
            rw [show Value.slice (some ⟨en.g, 0, none⟩) n en.cap = ρ s by rw [hsv]; simp] at hrun
            rw [hies] at hrun
            subst e1 e2 e3
            have hsz' : (arr.toList.take (n * M.C.T.size e) ++ news ++ arr.toList.drop (n * M.C.T.size e + news.length)).toArray.size = arr.size := by
              simp only [List.size_toArray, List.length_append, List.length_take, List.length_drop, Array.length_toList]; omega
            have hrows' : ∀ (k : Nat) (q : List SV), (rs.take n ++ xs)[k]? = some q → q.length = M.C.T.size e ∧ CellsAt η (arr.toList.take (n * M.C.T.size e) ++ news ++ arr.toList.drop (n * M.C.T.size e + news.length)).toArray (0 + k * M.C.T.size e) q := by
              intro k q hk
              refine r2 k q ?_
              rw [List.take_take, Nat.min_self]
              rw [List.getElem?_append_left (List.getElem?_eq_some_iff.1 hk).1]
              exact hk
            have hsat' : HpSat η (w.setRow en.g (arr.toList.take (n * M.C.T.size e) ++ news ++ arr.toList.drop (n * M.C.T.size e + news.length)).toArray) true (.loc i) (.rows (M.C.T.size e) (rs.take n ++ xs)) := by
              simp only [HpSat, Env.get]
              right
              exact ⟨en, _, T, fz, p1, setRow_heap w en.g arr _ T fz p7, fun _ => ⟨by rw [hsz']; exact p8u, by rw [hsz']; exact p8s, by rw [List.length_append, hrn, q1]; omega, p8b⟩, by rw [p8b]; exact hrows'⟩
            have H1 := A.H.upd hh p1 (fun k hk => setRow_other w en.g k _ hk) (setRow_size _ _ _) rfl rfl rfl hsat'
            have H2 := H1.forget i
            rw [delK_setK] at H2
            refine ⟨_, _, η ++ [some en], fin hrun, List.prefix_append _ _, ?_, ?_, fun _ h => absurd h (by simp)⟩
            · refine H2.name (some en) ?_ (fun e h => by injection h with h; subst h; exact hFb _ (feet.own p1)) ?_
              · have := hsat'.mono (List.prefix_append η [some en])
                simp only [HpSat, Env.get] at this ⊢
                rw [← A.H.len] at *
                simp only [List.getElem?_append_right (Nat.le_refl _), Nat.sub_self, List.getElem?_cons_zero]
                right
                exact ⟨en, _, T, fz, rfl, setRow_heap w en.g arr _ T fz p7, fun _ => ⟨by rw [hsz']; exact p8u, by rw [hsz']; exact p8s, by rw [List.length_append, hrn, q1]; omega, p8b⟩, by rw [p8b]; exact fun k q hk => ⟨(hrows' k q hk).1, (hrows' k q hk).2.mono (List.prefix_append _ _)⟩⟩
              · intro e h j g hj f
                injection h with h; subst h
                by_cases hji : j = i
                · subst hji; rw [lkp_delK_self] at hj; cases hj
                · rw [lkp_delK i O j hji] at hj
                  have hs : (lkp i O).isSome := by rw [hh]; rfl
                  exact H1.own.2 j i g _ en.g (by rw [lkp_setK _ _ _ _ hs, if_neg hji]; exact hj) (by rw [lkp_setK _ _ _ _ hs, if_pos rfl]) hji f (feet.own p1)
            · simp only [Den]
              right
              exact ⟨en, 0, get_new A.H.len _, by simp, by simpa using hroom, by simp, fun _ => by simp [p8b]⟩
          · refine newarr (rs := rs.take n) (A.H.forget i) hsv N (by omega) q3 q4 (fun w' hw' => ?_) g1 g3 hrn q1 e1 e2 e3
            have hcell : ∀ j u, ((arr.toList.drop 0).take (n * M.C.T.size e))[j]? = some u → w'.cell? ((⟨en.g, 0, none⟩ : Addr).add j) = some u := by
              intro j u hj
              rw [List.getElem?_take] at hj
              split at hj
              · rw [List.getElem?_drop] at hj
                rw [Addr.add_lit, cell_heap hw']
                simp only [World.cell?, p7]
                simpa using hj
              · cases hj
            exact run_firstCells_some (P := M.P) w' (M.C.T.size e) n ⟨en.g, 0, none⟩ n _ _ g2 hcell
    · rename_i b r es n l _
      split at hr
      case h_2 => exact hr.elim
      rename_i ys n' hrs
      obtain ⟨⟨q0, q1, q2, q3, q4, q5⟩, e1, e2, e3⟩ := hr
      have hnn : n' = n := by
        simp only [rowsR] at hrs
        repeat' split at hrs
        all_goals first | (injection hrs with hrs; injection hrs with _ hrs; exact hrs.symm) | cases hrs
      subst hnn
      obtain ⟨news, N⟩ := rowsR_news A hxd hrows q3
      obtain ⟨olds, N2⟩ := rowsR_news A hsd hrs q2
      obtain ⟨base, hsv⟩ : ∃ base, ρ s = .slice base n' n' := by
        simp only [Den] at hsd
        rcases hsd with ⟨_, h, h0⟩ | ⟨en, o, _, h, _⟩
        · subst h0; exact ⟨none, h⟩
        · rw [q0, Option.getD_some, Nat.add_sub_cancel_left] at h
          exact ⟨_, h⟩
      refine newarr (rs := ys) (olds := olds) A.H hsv N (by omega) q4 q5 (fun w' hw' => ?_) N2.den N2.one q2 q3 e1 e2 e3
      rw [← hsv]
      exact N2.first w' hw'
    · exact hr.elim
  split at hr
  · rename_i q hsu
    obtain ⟨d, hd, hm⟩ := A.T.und u (by rw [hsu]; simp)
    rw [hsu] at hm; simp only [ShM] at hm; subst hm
    exact main (.inl ⟨_, hd⟩) hr
  · rename_i hsu
    obtain ⟨d, hd, hm⟩ := A.T.und u (by rw [hsu]; simp)
    rw [hsu] at hm; simp only [ShM] at hm; subst hm
    exact main (.inr hd) hr
  · exact hr.elim
end
end Go.Sx
/- Maps: keys, and the search for a key. Conditions: none. -/
set_option linter.unusedVariables false
namespace Go.Sx
open Go
def cell1 : CK → SV → SV → Option Bool
  | .int k, .int k1 a, .int k2 b => match kindEq k k1 && kindEq k k2 with | true => some (a == b) | false => none
  | .str, .str a, .str b => some (a == b)
  | .bool, .bool a, .bool b => some (a == b)
  | _, _, _ => none
def both : Option Bool → Option Bool → Option Bool
  | some a, some b => some (a && b)
  | _, _ => none
theorem both_some {a b : Option Bool} : (both a b).isSome = true ↔ a.isSome = true ∧ b.isSome = true := by cases a <;> cases b <;> simp [both]
theorem both_true {a b : Option Bool} : both a b = some true ↔ a = some true ∧ b = some true := by cases a <;> cases b <;> simp [both]
theorem cellsEq_cons {k : CK} {ks : List CK} {x y : SV} {xs ys : List SV} : cellsEq (k :: ks) (x :: xs) (y :: ys) = both (cell1 k x y) (cellsEq ks xs ys) := by
  cases k with
  | int k =>
    cases x with
    | int k1 a =>
      cases y with
      | int k2 b =>
        simp only [cellsEq, cell1]
        cases kindEq k k1 && kindEq k k2 <;> cases cellsEq ks xs ys <;> rfl
      | _ => rfl
    | _ => rfl
  | str =>
    cases x with
    | str a =>
      cases y with
      | str b => simp only [cellsEq, cell1]; cases cellsEq ks xs ys <;> rfl
      | _ => rfl
    | _ => rfl
  | bool =>
    cases x with
    | bool a =>
      cases y with
      | bool b => simp only [cellsEq, cell1]; cases cellsEq ks xs ys <;> rfl
      | _ => rfl
    | _ => rfl
theorem cell1_ok {k : CK} {x y : SV} (h1 : (cell1 k x x).isSome = true) (h2 : (cell1 k y y).isSome = true) : (cell1 k x y).isSome = true := by
  cases k with
  | int k =>
    cases x with
    | int k1 a =>
      cases y with
      | int k2 b =>
        simp only [cell1] at h1 h2 ⊢
        cases e1 : kindEq k k1 <;> cases e2 : kindEq k k2 <;> simp_all
      | _ => cases h2
    | _ => cases h1
  | str =>
    cases x with
    | str a => cases y with
      | str b => rfl
      | _ => cases h2
    | _ => cases h1
  | bool =>
    cases x with
    | bool a => cases y with
      | bool b => rfl
      | _ => cases h2
    | _ => cases h1
theorem cell1_true {η : Env} {k : CK} {x y : SV} {u v : Value} (h : cell1 k x y = some true) (h1 : Den η x u) (h2 : Den η y v) : u = v ∧ ∀ n, Instr.sameBits n u u = true := by
  cases k with
  | int k =>
    cases x with
    | int k1 a =>
      cases y with
      | int k2 b =>
        simp only [cell1] at h
        split at h
        · rename_i hk
          simp only [Bool.and_eq_true, kindEq_iff] at hk
          simp only [Option.some.injEq, beq_iff_eq] at h
          simp only [Den] at h1 h2
          obtain ⟨e1, e2⟩ := hk
          subst h1; subst h2; subst h; subst e1; subst e2
          exact ⟨rfl, fun n => by cases n <;> simp [Instr.sameBits]⟩
        · cases h
      | _ => cases h
    | _ => cases h
  | str =>
    cases x with
    | str a => cases y with
      | str b =>
        simp only [cell1, Option.some.injEq, beq_iff_eq] at h
        simp only [Den] at h1 h2
        subst h1; subst h2; subst h
        exact ⟨rfl, fun n => by cases n <;> (show (a.toArray == a.toArray) = true; simp)⟩
      | _ => cases h
    | _ => cases h
  | bool =>
    cases x with
    | bool a => cases y with
      | bool b =>
        simp only [cell1, Option.some.injEq, beq_iff_eq] at h
        simp only [Den] at h1 h2
        subst h1; subst h2; subst h
        exact ⟨rfl, fun n => by cases n <;> simp [Instr.sameBits]⟩
      | _ => cases h
    | _ => cases h
theorem cellsEq_ok : ∀ {ks : List CK} {xs ys : List SV}, (cellsEq ks xs xs).isSome = true → (cellsEq ks ys ys).isSome = true → (cellsEq ks xs ys).isSome = true
  | [], xs, ys, h1, h2 => by cases xs <;> cases ys <;> simp_all [cellsEq]
  | k :: ks, [], ys, h1, h2 => by cases k <;> simp [cellsEq] at h1
  | k :: ks, x :: xs, [], h1, h2 => by cases k <;> simp [cellsEq] at h2
  | k :: ks, x :: xs, y :: ys, h1, h2 => by
    rw [cellsEq_cons, both_some] at h1 h2 ⊢
    exact ⟨cell1_ok h1.1 h2.1, cellsEq_ok h1.2 h2.2⟩
theorem cellsEq_true {η : Env} : ∀ {ks : List CK} {xs ys : List SV} {us vs : List Value}, cellsEq ks xs ys = some true → DenL η xs us → DenL η ys vs → us = vs ∧ ∀ u ∈ us, ∀ n, Instr.sameBits n u u = true
  | [], [], [], us, vs, h, h1, h2 => by
    simp only [DenL] at h1 h2
    subst h1; subst h2; simp
  | [], _ :: _, _, us, vs, h, h1, h2 => by simp [cellsEq] at h
  | [], [], _ :: _, us, vs, h, h1, h2 => by simp [cellsEq] at h
  | k :: ks, [], ys, us, vs, h, h1, h2 => by cases k <;> simp [cellsEq] at h
  | k :: ks, x :: xs, [], us, vs, h, h1, h2 => by cases k <;> simp [cellsEq] at h
  | k :: ks, x :: xs, y :: ys, us, vs, h, h1, h2 => by
    rw [cellsEq_cons, both_true] at h
    simp only [DenL] at h1 h2
    obtain ⟨u, us, rfl, a1, a2⟩ := h1
    obtain ⟨v, vs, rfl, b1, b2⟩ := h2
    obtain ⟨e1, s1⟩ := cell1_true h.1 a1 b1
    obtain ⟨e2, s2⟩ := cellsEq_true h.2 a2 b2
    subst e1; subst e2
    exact ⟨rfl, fun w hw => by rcases List.mem_cons.1 hw with rfl | hw; exact s1; exact s2 w hw⟩
theorem zip_self_all {p : Nat → Value → Value → Bool} {n : Nat} : ∀ {l : List Value}, (∀ u ∈ l, p n u u = true) → ((l.zip l).all fun (x, y) => p n x y) = true
  | [], _ => rfl
  | u :: us, h => by simp only [List.zip_cons_cons, List.all_cons, Bool.and_eq_true]; exact ⟨h u (by simp), zip_self_all fun w hw => h w (by simp [hw])⟩
/-- Two keys alike are one value. -/
theorem keyIs_eq {η : Env} {ks : Bool × List CK} {a b : SV} {u v : Value} (h : keyIs ks a b = true) (h1 : Den η a u) (h2 : Den η b v) : u = v ∧ Instr.sameBits 10000 u u = true := by
  obtain ⟨f, ks⟩ := ks
  have hq : keyEq (f, ks) a b = some true := by
    unfold keyIs at h
    cases hq : keyEq (f, ks) a b with
    | none => rw [hq] at h; cases h
    | some r => rw [hq] at h; exact congrArg some h
  cases f with
  | false =>
    simp only [keyEq, keyCells] at hq
    obtain ⟨e, s⟩ := cellsEq_true hq (show DenL η [a] [u] from by simp only [DenL]; exact ⟨u, [], rfl, h1, rfl⟩) (show DenL η [b] [v] from by simp only [DenL]; exact ⟨v, [], rfl, h2, rfl⟩)
    exact ⟨by simpa using e, s u (by simp) _⟩
  | true =>
    cases a with
    | agg xs =>
      cases b with
      | agg ys =>
        simp only [keyEq, keyCells] at hq
        simp only [Den] at h1 h2
        obtain ⟨us, rfl, h1, _⟩ := h1
        obtain ⟨vs, rfl, h2, _⟩ := h2
        obtain ⟨e, s⟩ := cellsEq_true hq h1 h2
        subst e
        refine ⟨rfl, ?_⟩
        show (us.toArray.size == us.toArray.size && (us.toArray.toList.zip us.toArray.toList).all fun (x, y) => Instr.sameBits 9999 x y) = true
        simp only [beq_self_eq_true, Bool.true_and]
        exact zip_self_all fun w hw => s w (by simpa using hw) _
      | _ => simp [keyEq, keyCells] at hq
    | _ => simp [keyEq, keyCells] at hq
/-- Keys that are in order can be told apart. -/
theorem keyOK_both {ks : Bool × List CK} {a b : SV} (h1 : keyOK ks a = true) (h2 : keyOK ks b = true) : ∃ r, keyEq ks a b = some r := by
  obtain ⟨f, ks⟩ := ks
  simp only [keyOK, keyEq] at h1 h2 ⊢
  cases ha : keyCells f a with
  | none => rw [ha] at h1; cases h1
  | some xs =>
    cases hb : keyCells f b with
    | none => rw [hb] at h2; cases h2
    | some ys =>
      rw [ha] at h1; rw [hb] at h2
      exact Option.isSome_iff_exists.1 (cellsEq_ok h1 h2)
/-! ### The search -/
def MapL (η : Env) : List (List SV) → List MapEntry → Prop
  | [], [] => True
  | r :: rs, e :: es => DenL η r [e.key, e.val] ∧ MapL η rs es
  | _, _ => False
theorem mapL_of {η : Env} : ∀ {rs : List (List SV)} {es : List MapEntry} {i : Nat}, es.length = rs.length → (∀ j row, rs[j]? = some row → ∃ en : MapEntry, es[j]? = some en ∧ en.born = i + j ∧ DenL η row [en.key, en.val]) → MapL η rs es
  | [], [], _, _, _ => trivial
  | [], _ :: _, _, h, _ => by simp at h
  | _ :: _, [], _, h, _ => by simp at h
  | r :: rs, e :: es, i, hl, h => by
    obtain ⟨en, h1, _, h3⟩ := h 0 r rfl
    simp at h1; subst h1
    exact ⟨h3, mapL_of (i := i + 1) (by simpa using hl) fun j row hr => by
      obtain ⟨en, g1, g2, g3⟩ := h (j + 1) row (by simpa using hr)
      exact ⟨en, by simpa using g1, by omega, g3⟩⟩
/-- What a search came to. -/
def Hit (η : Env) : Option (Nat × SV) → Option (Nat × Value) → Prop
  | none, f => f = none
  | some (j, v), f => ∃ x, f = some (j, x) ∧ Den η v x
theorem find_run {P : Program} {T : Tab} (hT : TabOK P T) {t : TypeId} {ks : Bool × List CK} (ht : T.key t = some ks) {η : Env} {w : World} {key : SV} {u : Value} (hk : keyOK ks key = true) (hu : Den η key u) :
    ∀ {rs : List (List SV)} {es : List MapEntry} {i : Nat}, rowsOK ks rs → MapL η rs es → ∃ f, (Instr.findAsking t u es i).run P w = .ok f w ∧ (∀ d, P.underlying t = some d → Instr.findNow d u es i = none ∨ Instr.findNow d u es i = some f) ∧ Hit η (findM ks key i rs) f ∧ ∀ j x, f = some (j, x) → i ≤ j ∧ ∃ e, es[j - i]? = some e ∧ e.val = x
  | [], [], i, _, _ => ⟨none, by simp [Instr.findAsking], fun d _ => .inr rfl, rfl, fun _ _ h => by cases h⟩
  | [], _ :: _, _, _, h => h.elim
  | _ :: _, [], _, _, h => h.elim
  | r :: rs, e :: es, i, ho, h => by
    obtain ⟨k, v, rfl, hko⟩ := ho r (by simp)
    obtain ⟨hd, hr⟩ := h
    simp only [DenL] at hd
    obtain ⟨_, _, e1, hdk, _, _, e2, hdv, e3⟩ := hd
    cases e1; cases e2
    obtain ⟨b, hb⟩ := keyOK_both hk hko
    obtain ⟨g1, g2⟩ := (hT.key t ks ht).2.1 w η key k u e.key b hb hu hdk
    have his : keyIs ks key k = b := by simp only [keyIs, hb]
    cases b with
    | true =>
      refine ⟨some (i, e.val), by simp [Instr.findAsking, g1], fun d hd => ?_, ?_, fun j x h => ?_⟩
      · rcases g2 d hd with h | h <;> simp [Instr.findNow, h]
      · simp only [findM, his]; exact ⟨_, rfl, hdv⟩
      · simp only [Option.some.injEq, Prod.mk.injEq] at h
        obtain ⟨rfl, rfl⟩ := h
        exact ⟨Nat.le_refl _, e, by simp, rfl⟩
    | false =>
      obtain ⟨f, f1, f2, f3, f4⟩ := find_run hT ht hk hu (i := i + 1) (rs := rs) (es := es) (fun r hr => ho r (by simp [hr])) hr
      refine ⟨f, by simp [Instr.findAsking, g1]; exact f1, fun d hd => ?_, ?_, fun j x h => ?_⟩
      · rcases g2 d hd with h | h
        · simp [Instr.findNow, h]
        · simp only [Instr.findNow, h]; exact f2 d hd
      · simp only [findM, his]; exact f3
      · obtain ⟨h1, e', h2, h3⟩ := f4 j x h
        refine ⟨by omega, e', ?_, h3⟩
        rw [show j - i = (j - (i + 1)) + 1 by omega]
        simpa using h2
theorem findKey_run2 {P : Program} {T : Tab} (hT : TabOK P T) {t : TypeId} {ks : Bool × List CK} (ht : T.key t = some ks) {η : Env} {w : World} {key : SV} {u : Value} (hk : keyOK ks key = true) (hu : Den η key u)
    {rs : List (List SV)} {es : List MapEntry} (ho : rowsOK ks rs) (hm : MapL η rs es) : ∃ f, (Instr.findKey t u es).run P w = .ok f w ∧ Hit η (findM ks key 0 rs) f ∧ ∀ j x, f = some (j, x) → ∃ e, es[j]? = some e ∧ e.val = x := by
  obtain ⟨f, f1, f2, f3, f4⟩ := find_run hT ht hk hu (i := 0) (w := w) ho hm
  obtain ⟨d, hd⟩ := (hT.key t ks ht).2.2
  refine ⟨f, ?_, f3, fun j x h => by simpa using (f4 j x h).2⟩
  rcases f2 d hd with h | h
  · simp [Instr.findKey, run_und hd, h, f1]
  · simp [Instr.findKey, run_und hd, h]
theorem findKey_run {P : Program} {T : Tab} (hT : TabOK P T) {t : TypeId} {ks : Bool × List CK} (ht : T.key t = some ks) {η : Env} {w : World} {key : SV} {u : Value} (hk : keyOK ks key = true) (hu : Den η key u)
    {rs : List (List SV)} {es : List MapEntry} (ho : rowsOK ks rs) (hm : MapL η rs es) : ∃ f, (Instr.findKey t u es).run P w = .ok f w ∧ Hit η (findM ks key 0 rs) f :=
  let ⟨f, h1, h2, _⟩ := findKey_run2 hT ht hk hu ho hm; ⟨f, h1, h2⟩
theorem findM_flat {ks : Bool × List CK} {key : SV} : ∀ {rs : List (List DC)} {i : Nat}, findM ks key i (flatD rs) = (findD ks key i rs).map fun p => (p.1, flatC p.2)
  | [], _ => rfl
  | r :: rs, i => by
    have ih := findM_flat (ks := ks) (key := key) (rs := rs) (i := i + 1)
    unfold flatD at ih ⊢
    match r with
    | [] => rfl
    | [a] => rfl
    | a :: b :: c :: l => rfl
    | [k, v] =>
      simp only [List.map_cons, List.map_nil, findM, findD]
      cases keyIs ks key (flatC k)
      · exact ih
      · rfl
theorem findD_at {ks : Bool × List CK} {key : SV} : ∀ {rs : List (List DC)} {i j : Nat} {v : DC}, findD ks key i rs = some (j, v) → ∃ k, i ≤ j ∧ rs[j - i]? = some [k, v] ∧ keyIs ks key (flatC k) = true
  | [], i, j, v, h => by simp [findD] at h
  | r :: rs, i, j, v, h => by
    unfold findD at h
    split at h
    · rename_i k u
      split at h
      · rename_i hk
        simp only [Option.some.injEq, Prod.mk.injEq] at h
        obtain ⟨rfl, rfl⟩ := h
        exact ⟨k, Nat.le_refl _, by simp, hk⟩
      · obtain ⟨k', h1, h2, h3⟩ := findD_at h
        refine ⟨k', by omega, ?_, h3⟩
        have : j - i = (j - (i + 1)) + 1 := by omega
        rw [this]; simpa using h2
    · cases h
end Go.Sx
/- Heaplets whose cells own arrays: an array gets a name, a named array is put back. Conditions: none. -/
set_option linter.unusedVariables false
set_option linter.unusedSimpArgs false
namespace Go.Sx
open Go
/-- The cell at a place, written over. -/
def setC (rs : List (List DC)) (r c : Nat) (d : DC) : List (List DC) := rs.modify r fun row => row.set c d
theorem setC_get {rs : List (List DC)} {r c : Nat} {d : DC} (i : Nat) : (setC rs r c d)[i]? = if i = r then (rs[i]?).map (fun row => row.set c d) else rs[i]? := by
  unfold setC
  rw [List.getElem?_modify]
  by_cases h : r = i
  · subst h; simp
  · rw [if_neg (fun e => h e.symm)]; simp [h]
theorem kidAt_some {rs : List (List DC)} {i j es : Nat} {rows : List (List SV)} : kidAt rs i j = some (es, rows) ↔ ∃ row, rs[i]? = some row ∧ row[j]? = some (.kid es rows) := by
  unfold kidAt
  constructor
  · intro h
    split at h
    · rename_i row hr
      split at h
      · rename_i es' rows' hc
        simp only [Option.some.injEq, Prod.mk.injEq] at h
        obtain ⟨rfl, rfl⟩ := h
        exact ⟨row, hr, hc⟩
      · cases h
    · cases h
  · rintro ⟨row, hr, hc⟩
    rw [hr]; simp only [hc]
/-- Of the cells, all but one are as they were. -/
theorem kidAt_setC {rs : List (List DC)} {r c : Nat} {d : DC} {i j : Nat} {x : Nat × List (List SV)} (h : kidAt (setC rs r c d) i j = some x) : kidAt rs i j = some x ∨ (i = r ∧ j = c ∧ d = .kid x.1 x.2) := by
  obtain ⟨es, rows⟩ := x
  obtain ⟨row, hr, hc⟩ := kidAt_some.1 h
  rw [setC_get] at hr
  by_cases hi : i = r
  · subst hi
    rw [if_pos rfl] at hr
    obtain ⟨row0, h0, rfl⟩ := Option.map_eq_some_iff.1 hr
    rw [List.getElem?_set] at hc
    by_cases hj : c = j
    · subst hj
      rw [if_pos rfl] at hc
      split at hc
      · injection hc with hc
        exact .inr ⟨rfl, rfl, hc⟩
      · cases hc
    · rw [if_neg hj] at hc
      exact .inl (kidAt_some.2 ⟨row0, h0, hc⟩)
  · rw [if_neg hi] at hr
    exact .inl (kidAt_some.2 ⟨row, hr, hc⟩)
theorem kidAt_setV {rs : List (List DC)} {r c : Nat} {sv : SV} {i j : Nat} {x : Nat × List (List SV)} (h : kidAt (setC rs r c (.v sv)) i j = some x) : kidAt rs i j = some x ∧ ¬ (i = r ∧ j = c) := by
  refine ⟨(kidAt_setC h).elim id (fun h => by cases h.2.2), ?_⟩
  rintro ⟨rfl, rfl⟩
  obtain ⟨es, rows⟩ := x
  obtain ⟨row, hr, hc⟩ := kidAt_some.1 h
  rw [setC_get, if_pos rfl] at hr
  obtain ⟨row0, h0, rfl⟩ := Option.map_eq_some_iff.1 hr
  rw [List.getElem?_set, if_pos rfl] at hc
  split at hc
  · cases hc
  · cases hc
theorem flatD_get {rs : List (List DC)} {i : Nat} : (flatD rs)[i]? = (rs[i]?).map fun r => r.map flatC := by unfold flatD; rw [List.getElem?_map]
theorem flatD_len {rs : List (List DC)} : (flatD rs).length = rs.length := by unfold flatD; rw [List.length_map]
theorem flatD_setC {rs : List (List DC)} {r c : Nat} {d : DC} (i : Nat) : (flatD (setC rs r c d))[i]? = if i = r then ((flatD rs)[i]?).map (fun row => row.set c (flatC d)) else (flatD rs)[i]? := by
  rw [flatD_get, setC_get, flatD_get]
  split
  · cases rs[i]? <;> simp [List.map_set]
  · rfl
theorem setC_len {rs : List (List DC)} {r c : Nat} {d : DC} : (setC rs r c d).length = rs.length := by unfold setC; rw [List.length_modify]
section
variable {M : Mx} {η : Env} {w w' : World} {O : Hps} {nx : Nat}
def FlatSat (η : Env) (w : World) (own : Bool) (b : Blk) (mp : Bool) (es : Nat) (fs : List (List SV)) : Prop := match mp with | true => MpSat η w b fs | false => RowsSat η w own b es fs
/-- The value at a cell that is known, and what it is said to be. -/
theorem flat_cell {own : Bool} {b : Blk} {mp : Bool} {es : Nat} {rs : List (List DC)} (d : HpSat η w own b (.deep mp es rs)) {r c : Nat} {row : List DC} {dc : DC} (hr : rs[r]? = some row) (hc : row[c]? = some dc) :
    ∃ e o v, η.get b = some (some e) ∧ w.heap[e.g]? = some o ∧ cellOf o es r c = some v ∧ Den η (flatC dc) v ∧ KidsOK η w e.g o es rs := by
  have hfr : (flatD rs)[r]? = some (row.map flatC) := by rw [flatD_get, hr]; rfl
  have hfc : (row.map flatC)[c]? = some (flatC dc) := by rw [List.getElem?_map, hc]; rfl
  cases mp
  · simp only [HpSat] at d
    obtain ⟨d1, d2⟩ := d
    rcases d1 with ⟨_, h2⟩ | ⟨e, arr, T, fz, h1, h2, h3, h4⟩
    · rw [h2] at hfr; cases hfr
    obtain ⟨h5, h6⟩ := d2 e h1
    obtain ⟨v, h7, _, h8⟩ := (h4 r _ hfr).2 c _ hfc
    rw [h5, Nat.zero_add] at h7
    exact ⟨e, _, v, h1, h2, h7, h8, h6 _ h2⟩
  · simp only [HpSat] at d
    obtain ⟨⟨d1, d0⟩, d2⟩ := d
    obtain ⟨e, ens, h1, h2, h3, h4, h5⟩ := d1
    obtain ⟨_, h6⟩ := d2 e h1
    obtain ⟨en, g1, _, g3⟩ := h5 r _ hfr
    obtain ⟨v, hv, hd⟩ := denL_get g3 hfc
    refine ⟨e, _, v, h1, h3, ?_, hd, h6 _ h3⟩
    simp only [cellOf, g1, Option.map_some]
    match c, hv with
    | 0, hv => simpa using hv
    | 1, hv => simpa using hv
    | c + 2, hv => simp at hv
/-- Another reading of one cell. -/
theorem flat_other {own : Bool} {b : Blk} {mp : Bool} {es : Nat} {rs : List (List DC)} (d : HpSat η w own b (.deep mp es rs)) {η' : Env} (hp : η <+: η') {r c : Nat} {dc : DC}
    (hv : ∀ e o v, η.get b = some (some e) → w.heap[e.g]? = some o → cellOf o es r c = some v → Den η' (flatC dc) v) :
    FlatSat η' w own b mp es (flatD (setC rs r c dc)) := by
  cases mp
  · simp only [HpSat] at d
    obtain ⟨d1, d2⟩ := d
    rcases d1 with ⟨h1, h2⟩ | ⟨e, arr, T, fz, h1, h2, h3, h4⟩
    · refine .inl ⟨Env.get_mono hp h1, ?_⟩
      apply List.length_eq_zero_iff.1
      rw [flatD_len, setC_len, ← flatD_len, h2]; rfl
    · refine .inr ⟨e, arr, T, fz, Env.get_mono hp h1, h2, by rw [flatD_len, setC_len, ← flatD_len]; exact h3, fun i row hr => ?_⟩
      rw [flatD_setC] at hr
      obtain ⟨h5, _⟩ := d2 e h1
      split at hr
      · rename_i hi; subst hi
        obtain ⟨row0, h0, rfl⟩ := Option.map_eq_some_iff.1 hr
        obtain ⟨g1, g2⟩ := h4 i row0 h0
        refine ⟨by rw [List.length_set]; exact g1, fun j sv hj => ?_⟩
        rw [List.getElem?_set] at hj
        split at hj
        · rename_i hcj; subst hcj
          split at hj
          · rename_i hlt
            injection hj with hj; subst hj
            obtain ⟨v, k1, k2, _⟩ := g2 c _ (List.getElem?_eq_getElem hlt)
            refine ⟨v, k1, k2, hv e _ v h1 h2 ?_⟩
            rw [h5, Nat.zero_add] at k1
            exact k1
          · cases hj
        · obtain ⟨v, k1, k2, k3⟩ := g2 j sv hj
          exact ⟨v, k1, k2, k3.mono hp⟩
      · exact ⟨(h4 i row hr).1, (h4 i row hr).2.mono hp⟩
  · simp only [HpSat] at d
    obtain ⟨⟨d1, d0⟩, d2⟩ := d
    obtain ⟨e, ens, h1, h2, h3, h4, h5⟩ := d1
    refine ⟨e, ens, Env.get_mono hp h1, h2, h3, by rw [flatD_len, setC_len, ← flatD_len]; exact h4, fun i row hr => ?_⟩
    rw [flatD_setC] at hr
    split at hr
    · rename_i hi; subst hi
      obtain ⟨row0, h0, rfl⟩ := Option.map_eq_some_iff.1 hr
      obtain ⟨en, g1, g2, g3⟩ := h5 i row0 h0
      refine ⟨en, g1, g2, ?_⟩
      have hvc := fun v (hc : cellOf (.map ens ens.size) es i c = some v) => hv e _ v h1 h3 hc
      simp only [cellOf, g1, Option.map_some, Option.some.injEq] at hvc
      have g3 := g3.mono hp
      match row0, c, hvc, g3 with
      | [], c, _, g3 => simpa using g3
      | [a], 0, hvc, g3 => simp [DenL] at g3
      | a :: b :: l, 0, hvc, g3 =>
        simp only [List.set_cons_zero, DenL] at g3 ⊢
        obtain ⟨u, us, q1, q2, q3⟩ := g3
        injection q1 with q1 q1'; subst q1 q1'
        exact ⟨_, _, rfl, hvc _ rfl, q3⟩
      | [a], c + 1, hvc, g3 => simp [DenL] at g3
      | a :: b :: l, 1, hvc, g3 =>
        simp only [List.set_cons_succ, List.set_cons_zero, DenL] at g3 ⊢
        obtain ⟨u, us, q1, q2, u', us', q3, q4, q5⟩ := g3
        injection q1 with q1 q1'; subst q1 q1'
        injection q3 with q3 q3'; subst q3 q3'
        exact ⟨_, _, rfl, q2, _, _, rfl, hvc _ rfl, q5⟩
      | a :: b :: l, c + 2, hvc, g3 =>
        have : (a :: b :: l).set (c + 2) (flatC dc) = a :: b :: l := by
          simp only [DenL] at g3
          obtain ⟨u, us, q1, q2, u', us', q3, q4, q5⟩ := g3
          injection q1 with q1 q1'; subst q1 q1'
          injection q3 with q3 q3'; subst q3 q3'
          cases l with
          | nil => rfl
          | cons x l => simp [DenL] at q5
        rw [this]; exact g3
    · obtain ⟨en, g1, g2, g3⟩ := h5 i row hr
      exact ⟨en, g1, g2, g3.mono hp⟩
theorem HpSat.deep_ent {own : Bool} {b : Blk} {mp : Bool} {es : Nat} {rs : List (List DC)} (d : HpSat η w own b (.deep mp es rs)) : (∃ x, η.get b = some x) ∧ DeepSat η w b es rs ∧ (mp = true → es = 2) := by
  cases mp
  · simp only [HpSat] at d
    exact ⟨let ⟨x, h, _⟩ := d.1.ent; ⟨x, h⟩, d.2, fun h => by cases h⟩
  · simp only [HpSat] at d
    exact ⟨let ⟨x, h, _⟩ := d.1.1.ent; ⟨x, h⟩, d.2, fun _ => d.1.2⟩
theorem HpSat.deep_of {own : Bool} {b : Blk} {mp : Bool} {es : Nat} {rs : List (List DC)} (h : FlatSat η w own b mp es (flatD rs)) (h0 : mp = true → es = 2) (h2 : DeepSat η w b es rs) : HpSat η w own b (.deep mp es rs) := by
  cases mp
  · simp only [HpSat]; exact ⟨h, h2⟩
  · simp only [HpSat]; exact ⟨⟨h, h0 rfl⟩, h2⟩
/-- An array of a heaplet's own gets a name. -/
theorem HeapOK.take (H : HeapOK M η w O nx) {i : Nat} {mp : Bool} {es : Nat} {rs : List (List DC)} (hi : lkp i O = some (.deep mp es rs)) {r c es' : Nat} {row : List DC} {rows : List (List SV)} (hr : rs[r]? = some row) (hc : row[c]? = some (.kid es' rows)) :
    ∃ x, HeapOK M (η ++ [x]) w ((nx, .rows es' rows) :: setK i (.deep mp es (setC rs r c (.v (.sl (.loc nx) 0 es' rows.length none)))) O) (nx + 1) := by
  obtain ⟨hsat, hF⟩ := H.own.1 i _ hi
  obtain ⟨e, o, v, he, ho, hv, _, hK⟩ := flat_cell hsat hr hc
  have hkid : kidAt rs r c = some (es', rows) := kidAt_some.2 ⟨row, hr, hc⟩
  obtain ⟨v', hv', hks, hvg⟩ := hK.sat r c es' rows hkid
  rw [hv] at hv'; injection hv' with hv'; subst hv'
  have fkid : ∀ k, v.ownBlock = some k → feet η w (.loc i) (.deep mp es rs) k := fun k hk => ⟨e, he, .inr (by simp only [kid]; exact ⟨o, r, c, _, v, ho, hkid, hv, hk⟩)⟩
  obtain ⟨_, hD, h0⟩ := hsat.deep_ent
  have hsome : (lkp i O).isSome := by rw [hi]; rfl
  -- the new name's entry
  obtain ⟨x, hx, hxe, hnew, hden⟩ : ∃ x : Option Ent, (∀ e', x = some e' → v.ownBlock = some e'.g) ∧ (∀ e', x = some e' → e'.g < w.heap.size) ∧ HpSat (η ++ [x]) w true (.loc nx) (.rows es' rows) ∧ Den (η ++ [x]) (.sl (.loc nx) 0 es' rows.length none) v := by
    rcases hks with ⟨rfl, rfl⟩ | ⟨g, cap, arr, T, fz, rfl, k2, k3, k4, k5, k6⟩
    · refine ⟨none, (fun e' h => by cases h), (fun e' h => by cases h), ?_, ?_⟩
      · simp only [HpSat]; exact .inl ⟨get_new H.len _, trivial⟩
      · simp only [Den]; exact .inl ⟨get_new H.len _, trivial, rfl⟩
    · refine ⟨some ⟨g, 0, cap⟩, fun e' h => by injection h with h; subst h; rfl, fun e' h => by injection h with h; subst h; exact (Array.getElem?_eq_some_iff.1 k2).1, ?_, ?_⟩
      · simp only [HpSat]
        exact .inr ⟨_, arr, T, fz, get_new H.len _, k2, fun _ => ⟨k3, k4, k5, rfl⟩, fun j row hj => ⟨(k6 j row hj).1, (k6 j row hj).2.mono (List.prefix_append _ _)⟩⟩
      · simp only [Den]
        exact .inr ⟨_, 0, get_new H.len _, by simp, by simpa using k5, by simp, fun _ => by simp⟩
  have hp : η <+: η ++ [x] := List.prefix_append _ _
  have hgi : (η ++ [x]).get (.loc i) = some (some e) := Env.get_mono hp he
  -- the heaplet, read anew
  have hsi : HpSat (η ++ [x]) w true (.loc i) (.deep mp es (setC rs r c (.v (.sl (.loc nx) 0 es' rows.length none)))) := by
    refine HpSat.deep_of (flat_other hsat hp fun e' o' v' h1 h2 h3 => ?_) h0 fun e' h1 => ?_
    · rw [he] at h1; injection h1 with h1; injection h1 with h1; subst h1
      rw [ho] at h2; injection h2 with h2; subst h2
      rw [hv] at h3; injection h3 with h3; subst h3
      exact hden
    · rw [hgi] at h1; injection h1 with h1; injection h1 with h1; subst h1
      refine ⟨(hD e he).1, fun o' h2 => ?_⟩
      rw [ho] at h2; injection h2 with h2; subst h2
      have hK := hK.mono hp
      exact ⟨fun a b es'' rows'' hk => hK.sat a b es'' rows'' (kidAt_setV hk).1, fun a b a' b' y y' u u' k h1 h2 => hK.ne a b a' b' y y' u u' k (kidAt_setV h1).1 (kidAt_setV h2).1⟩
  have back : ∀ j g, lkp j O = some g → ∀ k, feet (η ++ [x]) w (.loc j) g k → feet η w (.loc j) g k := fun j g hj k f => H.stands hp hj (fun _ _ => rfl) f
  have backi : ∀ k, feet (η ++ [x]) w (.loc i) (.deep mp es (setC rs r c (.v (.sl (.loc nx) 0 es' rows.length none)))) k → feet η w (.loc i) (.deep mp es rs) k ∧ v.ownBlock ≠ some k := by
    intro k f
    rcases f.of hgi with rfl | f
    · exact ⟨feet.own he, hvg⟩
    · simp only [kid] at f
      obtain ⟨o', a, b, y, u, f1, f2, f3, f4⟩ := f
      rw [ho] at f1; injection f1 with f1; subst f1
      obtain ⟨f5, f6⟩ := kidAt_setV f2
      refine ⟨⟨e, he, .inr (by simp only [kid]; exact ⟨o, a, b, y, u, ho, f5, f3, f4⟩)⟩, fun hk => f6 ?_⟩
      exact hK.ne a b r c y _ u v k f5 hkid f3 hv f4 hk
  have fnew : ∀ k, feet (η ++ [x]) w (.loc nx) (.rows es' rows) k → v.ownBlock = some k := by
    intro k f
    obtain ⟨e', f1, f2⟩ := f
    rw [get_new H.len] at f1; injection f1 with f1; subst f1
    rcases f2 with rfl | f2
    · exact hx _ rfl
    · exact f2.elim
  refine ⟨x, { pre := H.pre.trans hp, len := by simp [H.len], sok := H.sok, fr := H.fr, own := ⟨?_, ?_⟩ }⟩
  · intro j g hj
    rw [lkp_cons] at hj
    split at hj
    · rename_i hq; subst hq; injection hj with hj; subst hj
      exact ⟨hnew, fun k f => hF k (fkid k (fnew k f))⟩
    · rw [lkp_setK i _ O j hsome] at hj
      split at hj
      · rename_i hq; subst hq; injection hj with hj; subst hj
        exact ⟨hsi, fun k f => hF k (backi k f).1⟩
      · exact ⟨(H.own.1 j g hj).1.mono hp, fun k f => (H.own.1 j g hj).2 k (back j g hj k f)⟩
  · intro j k g g' m hj hk hne f f'
    rw [lkp_cons] at hj hk
    rw [lkp_setK i _ O _ hsome] at hj hk
    split at hj
    · rename_i hq; subst hq; injection hj with hj; subst hj
      rw [if_neg (Ne.symm hne)] at hk
      have f := fnew m f
      split at hk
      · rename_i hq; subst hq; injection hk with hk; subst hk
        exact (backi m f').2 f
      · rename_i hki
        exact H.own.2 i k _ g' m hi hk (Ne.symm hki) (fkid m f) (back k g' hk m f')
    · split at hk
      · rename_i hq; subst hq; injection hk with hk; subst hk
        have f' := fnew m f'
        split at hj
        · rename_i hq; subst hq; injection hj with hj; subst hj
          exact (backi m f).2 f'
        · rename_i hji
          exact H.own.2 i j _ g m hi hj (Ne.symm hji) (fkid m f') (back j g hj m f)
      · split at hj
        · rename_i hq; subst hq; injection hj with hj; subst hj
          rw [if_neg (Ne.symm hne)] at hk
          exact H.own.2 j k _ g' m hi hk hne (backi m f).1 (back k g' hk m f')
        · split at hk
          · rename_i hq; subst hq; injection hk with hk; subst hk
            exact H.own.2 j k g _ m hj hi hne (back j g hj m f) (backi m f').1
          · exact H.own.2 j k g g' m hj hk hne (back j g hj m f) (back k g' hk m f')
/-- A named array is put where its slice stands. -/
theorem HeapOK.putk (H : HeapOK M η w O nx) {i : Nat} {mp : Bool} {es : Nat} {rs : List (List DC)} (hi : lkp i O = some (.deep mp es rs)) {r c k es' n : Nat} {row : List DC} {rows : List (List SV)} (hr : rs[r]? = some row) (hc : row[c]? = some (.v (.sl (.loc k) 0 es' n none)))
    (hk : lkp k O = some (.rows es' rows)) (hn : n ≤ rows.length) (hki : k ≠ i) : HeapOK M η w (delK k (setK i (.deep mp es (setC rs r c (.kid es' (rows.take n)))) O)) nx := by
  obtain ⟨hsat, hF⟩ := H.own.1 i _ hi
  obtain ⟨hsk, hFk⟩ := H.own.1 k _ hk
  obtain ⟨e, o, v, he, ho, hv, hdv, hK⟩ := flat_cell hsat hr hc
  obtain ⟨_, hD, h0⟩ := hsat.deep_ent
  have hsome : (lkp i O).isSome := by rw [hi]; rfl
  have hks : KidSat η w v es' (rows.take n) ∧ ∀ g, v.ownBlock = some g → feet η w (.loc k) (.rows es' rows) g := by
    simp only [flatC, Den] at hdv
    simp only [HpSat] at hsk
    rcases hdv with ⟨h1, rfl, rfl⟩ | ⟨en, q, h1, rfl, h3, h4, h5⟩
    · exact ⟨.inl ⟨rfl, by simp⟩, fun g h => by cases h⟩
    · rcases hsk with ⟨h6, _⟩ | ⟨en', arr, T, fz, h6, h7, h8, h9⟩
      · rw [h1] at h6; cases h6
      rw [h1] at h6; injection h6 with h6; injection h6 with h6; subst h6
      obtain ⟨g1, g2, g3, g4⟩ := h8 trivial
      have hq := h5 (.inr trivial)
      rw [g4] at hq h9
      simp only [Nat.zero_mul, Nat.add_zero] at hq
      subst hq
      have hl : (rows.take n).length = n := by rw [List.length_take]; omega
      refine ⟨.inr ⟨en.g, en.cap, arr, T, fz, by rw [hl]; simp, h7, g1, g2, by rw [hl]; omega, fun j q hj => ?_⟩, fun g h => ?_⟩
      · rw [List.getElem?_take] at hj
        split at hj
        · exact h9 j q hj
        · cases hj
      · simp only [Value.ownBlock, Option.some.injEq] at h
        subst h
        exact feet.own h1
  obtain ⟨hks, hvf⟩ := hks
  have hnokid : kidAt rs r c = none := by
    cases hq : kidAt rs r c with
    | none => rfl
    | some x =>
      obtain ⟨a, b⟩ := x
      obtain ⟨row', q1, q2⟩ := kidAt_some.1 hq
      rw [hr] at q1; injection q1 with q1; subst q1
      rw [hc] at q2; cases q2
  have foot : ∀ a b y u g, kidAt rs a b = some y → cellOf o es a b = some u → u.ownBlock = some g → feet η w (.loc i) (.deep mp es rs) g := fun a b y u g h1 h2 h3 => ⟨e, he, .inr (by simp only [kid]; exact ⟨o, a, b, y, u, ho, h1, h2, h3⟩)⟩
  have hvg : v.ownBlock ≠ some e.g := fun h => H.own.2 k i _ _ e.g hk hi hki (hvf _ h) (feet.own he)
  have hsi : HpSat η w true (.loc i) (.deep mp es (setC rs r c (.kid es' (rows.take n)))) := by
    refine HpSat.deep_of (flat_other (dc := .kid es' (rows.take n)) hsat List.prefix_rfl fun _ _ _ _ _ _ => trivial) h0 fun e' h1 => ?_
    rw [he] at h1; injection h1 with h1; injection h1 with h1; subst h1
    refine ⟨(hD e he).1, fun o' h2 => ?_⟩
    rw [ho] at h2; injection h2 with h2; subst h2
    refine ⟨fun a b es'' rows'' hkd => ?_, fun a b a' b' y y' u u' g h1 h2 h3 h4 h5 h6 => ?_⟩
    · rcases kidAt_setC hkd with h | ⟨rfl, rfl, h⟩
      · exact hK.sat a b _ _ h
      · injection h with q1 q2
        subst q1 q2
        exact ⟨v, hv, hks, hvg⟩
    · rcases kidAt_setC h1 with q | ⟨rfl, rfl, q⟩
      · rcases kidAt_setC h2 with q' | ⟨rfl, rfl, q'⟩
        · exact hK.ne a b a' b' y y' u u' g q q' h3 h4 h5 h6
        · rw [hv] at h4; injection h4 with h4; subst h4
          exact (H.own.2 k i _ _ g hk hi hki (hvf _ h6) (foot a b y u g q h3 h5)).elim
      · rcases kidAt_setC h2 with q' | ⟨rfl, rfl, q'⟩
        · rw [hv] at h3; injection h3 with h3; subst h3
          exact (H.own.2 k i _ _ g hk hi hki (hvf _ h5) (foot a' b' y' u' g q' h4 h6)).elim
        · exact ⟨rfl, rfl⟩
  have backi : ∀ m, feet η w (.loc i) (.deep mp es (setC rs r c (.kid es' (rows.take n)))) m → feet η w (.loc i) (.deep mp es rs) m ∨ feet η w (.loc k) (.rows es' rows) m := by
    intro m f
    rcases f.of he with rfl | f
    · exact .inl (feet.own he)
    · simp only [kid] at f
      obtain ⟨o', a, b, y, u, f1, f2, f3, f4⟩ := f
      rw [ho] at f1; injection f1 with f1; subst f1
      rcases kidAt_setC f2 with q | ⟨rfl, rfl, q⟩
      · exact .inl (foot a b y u m q f3 f4)
      · rw [hv] at f3; injection f3 with f3; subst f3
        exact .inr (hvf m f4)
  have aux : ∀ (j : Nat) (g : Hp), lkp j (delK k (setK i (.deep mp es (setC rs r c (.kid es' (rows.take n)))) O)) = some g → j ≠ k ∧ lkp j (setK i (.deep mp es (setC rs r c (.kid es' (rows.take n)))) O) = some g := fun j g h => by
    by_cases hj : j = k
    · subst hj; rw [lkp_delK_self] at h; cases h
    · exact ⟨hj, by rwa [lkp_delK k _ j hj] at h⟩
  refine { pre := H.pre, len := H.len, sok := H.sok, fr := H.fr, own := ⟨?_, ?_⟩ }
  · intro j g hj
    replace hj := (aux j g hj).2
    rw [lkp_setK i _ O j hsome] at hj
    split at hj
    · rename_i hq; subst hq; injection hj with hj; subst hj
      exact ⟨hsi, fun m f => (backi m f).elim (hF m) (hFk m)⟩
    · exact H.own.1 j g hj
  · intro j j' g g' m hj hj' hne f f'
    have hjk := (aux j g hj).1
    have hjk' := (aux j' g' hj').1
    replace hj := (aux j g hj).2
    replace hj' := (aux j' g' hj').2
    rw [lkp_setK i _ O _ hsome] at hj hj'
    split at hj
    · rename_i hq; subst hq; injection hj with hj; subst hj
      rw [if_neg (Ne.symm hne)] at hj'
      rcases backi m f with f | f
      · exact H.own.2 j j' _ g' m hi hj' hne f f'
      · exact H.own.2 k j' _ g' m hk hj' (Ne.symm hjk') f f'
    · split at hj'
      · rename_i hq; subst hq; injection hj' with hj'; subst hj'
        rcases backi m f' with f' | f'
        · exact H.own.2 j j' g _ m hj hi hne f f'
        · exact H.own.2 j k g _ m hj hk hjk f f'
      · exact H.own.2 j j' g g' m hj hj' hne f f'
/-- A nil slice is one that owns nothing. -/
theorem HeapOK.nilk (H : HeapOK M η w O nx) {i : Nat} {mp : Bool} {es : Nat} {rs : List (List DC)} (hi : lkp i O = some (.deep mp es rs)) {r c es' : Nat} {row : List DC} (hr : rs[r]? = some row) (hc : row[c]? = some (.v (.val (.slice none 0 0)))) :
    HeapOK M η w (setK i (.deep mp es (setC rs r c (.kid es' []))) O) nx := by
  obtain ⟨hsat, hF⟩ := H.own.1 i _ hi
  obtain ⟨e, o, v, he, ho, hv, hdv, hK⟩ := flat_cell hsat hr hc
  obtain ⟨_, hD, h0⟩ := hsat.deep_ent
  have hv0 : v = .slice none 0 0 := hdv.1
  subst hv0
  have back : ∀ {a b y u g}, kidAt (setC rs r c (.kid es' [])) a b = some y → cellOf o es a b = some u → u.ownBlock = some g → kidAt rs a b = some y := by
    intro a b y u g h1 h2 h3
    rcases kidAt_setC h1 with q | ⟨rfl, rfl, q⟩
    · exact q
    · rw [hv] at h2; injection h2 with h2; subst h2; cases h3
  refine H.updF hi he (fun _ _ => rfl) rfl rfl rfl rfl ?_ (Nat.le_refl _) fun m f => ?_
  · refine HpSat.deep_of (flat_other (dc := .kid es' []) hsat List.prefix_rfl fun _ _ _ _ _ _ => trivial) h0 fun e' h1 => ?_
    rw [he] at h1; injection h1 with h1; injection h1 with h1; subst h1
    refine ⟨(hD e he).1, fun o' h2 => ?_⟩
    rw [ho] at h2; injection h2 with h2; subst h2
    refine ⟨fun a b es'' rows'' hkd => ?_, fun a b a' b' y y' u u' g h1 h2 h3 h4 h5 h6 => hK.ne a b a' b' y y' u u' g (back h1 h3 h5) (back h2 h4 h6) h3 h4 h5 h6⟩
    rcases kidAt_setC hkd with h | ⟨rfl, rfl, h⟩
    · exact hK.sat a b _ _ h
    · injection h with q1 q2
      subst q1 q2
      exact ⟨_, hv, .inl ⟨rfl, rfl⟩, by simp [Value.ownBlock]⟩
  · rcases f.of he with rfl | f
    · exact feet.own he
    · simp only [kid] at f
      obtain ⟨o', a, b, y, u, f1, f2, f3, f4⟩ := f
      rw [ho] at f1; injection f1 with f1; subst f1
      exact ⟨e, he, .inr (by simp only [kid]; exact ⟨o, a, b, y, u, ho, back f2 f3 f4, f3, f4⟩)⟩
/-- What a stored value becomes. -/
theorem absorb_ok {T : Tab} {et : TypeId} {i : Nat} {h : DC → Hp} {sv : SV} {v' : SV} {O' : Hps} {nx' : Nat} (hr : (absorbR T et O i h sv).ok O nx v' O' nx') {mp : Bool} {es : Nat} {rsv : List (List DC)} {r c : Nat} {row : List DC}
    (hh : ∀ d, h d = .deep mp es (setC rsv r c d)) (hv : h (.v sv) = .deep mp es rsv) (hrow : rsv[r]? = some row) (hcell : row[c]? = some (.v sv)) (hi : (lkp i O).isSome)
    (H : HeapOK M η w (setK i (h (.v sv)) O) nx) : HeapOK M η w O' nx ∧ v' = .tup [] ∧ nx' = nx := by
  have plainCase : (Res.upd i (h (.v sv)) (.tup [])).ok O nx v' O' nx' → HeapOK M η w O' nx ∧ v' = .tup [] ∧ nx' = nx := by
    rintro ⟨rfl, rfl, rfl⟩
    exact ⟨H, rfl, rfl⟩
  have hlk : lkp i (setK i (h (.v sv)) O) = some (.deep mp es rsv) := by rw [lkp_setK i _ O i hi, if_pos rfl, hv]
  have set2 : ∀ (a b : Hp) (O : Hps), setK i a (setK i b O) = setK i a O := by
    intro a b O
    induction O with
    | nil => rfl
    | cons p O ih =>
      obtain ⟨d, u⟩ := p
      unfold setK
      cases hb : Nat.beq i d
      · simp only [setK, hb, ih]
      · simp only [setK, hb]
  unfold absorbR at hr
  split at hr
  · rename_i k r' es' n lim
    split at hr
    · split at hr
      · rename_i es'' rows hk
        split at hr
        case h_2 => exact hr.elim
        rename_i h1
        have h1 := beq_eq h1
        subst h1
        split at hr
        case h_2 => exact hr.elim
        rename_i h2
        have hki := ne_of_beq h2
        obtain ⟨hn, rfl, rfl, rfl⟩ := hr
        have hk' : lkp k (setK i (h (.v (.sl (.loc k) 0 es' n none))) O) = some (.rows es' rows) := by rw [lkp_setK i _ O k hi, if_neg hki]; exact hk
        have := H.putk hlk hrow hcell hk' hn hki
        rw [set2, ← hh] at this
        exact ⟨this, rfl, rfl⟩
      · exact plainCase hr
    · exact plainCase hr
  · split at hr
    · rename_i e hs
      obtain ⟨rfl, rfl, rfl⟩ := hr
      have := H.nilk (es' := T.size e) hlk hrow hcell
      rw [set2, ← hh] at this
      exact ⟨this, rfl, rfl⟩
    · exact plainCase hr
  · exact plainCase hr
end
end Go.Sx
/- Maps: make, look up, store. Conditions: none. -/
set_option linter.unusedVariables false
set_option linter.unusedSimpArgs false
namespace Go.Sx
open Go
section
variable {M : Mx} {η : Env} {w : World} {O : Hps} {nx : Nat} {ρ : Operand → Value} {lk : Operand → Option SV} {v : SV} {O' : Hps} {nx' : Nat} {dst : Option Tmp} {ty : TypeId} {pos : String} {af : Array Edge} {gd : Option (Nat × Bool)}
theorem map_new (H : HeapOK M η w O nx) : HeapOK M (η ++ [some ⟨w.heap.size, 0, 0⟩]) (pushed w (.map #[] 0)) ((nx, .mp []) :: O) (nx + 1) := by
  refine H.alloc (w' := pushed w (.map #[] 0)) rfl rfl rfl rfl 0 0 ?_
  simp only [HpSat]
  exact ⟨_, #[], get_new H.len _, rfl, heap_push_eq (w := w) (w' := pushed w (.map #[] 0)) rfl, rfl, fun i row h => by simp at h⟩
theorem s_makeMap (A : At M η w O nx ρ lk) (t : TypeId) (r : Option Operand) (hr : (opR M.C lk O nx (.makeMap t r)).ok O nx v O' nx') : Sound M η w ⟨dst, .makeMap t r, ty, pos, af, gd⟩ ρ v O' nx' := by
  have fin : (Res.new (.mp (.loc nx)) (.mp [])).ok O nx v O' nx' → (Instr.makeMap t (r.map ρ)).run M.P w = .ok (.map (some w.heap.size)) (pushed w (.map #[] 0)) → Sound M η w ⟨dst, .makeMap t r, ty, pos, af, gd⟩ ρ v O' nx' := by
    rintro ⟨rfl, rfl, rfl⟩ hrun
    exact ⟨_, _, _, .inl (by simp [execOp, hrun]; rfl), List.prefix_append _ _, map_new A.H, by simp only [Den]; exact ⟨_, get_new A.H.len _, rfl⟩, fun _ h => absurd h (by simp)⟩
  simp only [opR, makeMapR] at hr
  cases r with
  | none => exact fin hr (by simp [Instr.makeMap, newObj]; rfl)
  | some x =>
    simp only at hr
    split at hr
    case h_2 => exact hr.elim
    rename_i kt et hs
    split at hr
    case h_2 => exact hr.elim
    rename_i k n hx
    obtain ⟨d, hd, hm⟩ := A.T.und t (by rw [hs]; simp)
    rw [hs] at hm; simp only [ShM] at hm; subst hm
    have hxv : ρ x = .int k n := A.L _ _ hx
    exact fin hr (by simp [Instr.makeMap, newObj, run_und hd, hxv, asInt]; rfl)
theorem zeroR_ok (A : At M η w O nx ρ lk) {t : TypeId} {f : SV → Res} (hr : (zeroR M.C.T t f).ok O nx v O' nx') : ∃ z zv, (zeroValue t).run M.P w = .ok zv w ∧ Den η z zv ∧ (f z).ok O nx v O' nx' := by
  unfold zeroR at hr
  split at hr
  · exact hr.elim
  rename_i c cs hz
  split at hr
  case h_2 => exact hr.elim
  rename_i z ho
  have hsh : M.C.T.sh t ≠ .other := by intro h; simp [ofCells, h] at ho
  obtain ⟨i, zv, h1, h2, h3⟩ := den_ofCells A.T hsh (by rw [hz]; simp) (by rw [hz]; exact ho) η
  exact ⟨z, zv, run_zero h1 h2 w, h3, hr⟩
theorem den_found {z : SV} {zv : Value} {ok b : Bool} (h : Den η z zv) : Den η (foundR ok z b) (if ok = true then .tuple #[zv, .bool b] else zv) := by
  cases ok with
  | false => exact h
  | true => simp only [foundR, Den, DenL]; exact ⟨[zv, .bool b], rfl, zv, _, rfl, h, _, [], rfl, rfl, rfl⟩
theorem putD_set {rs : List (List DC)} {j : Nat} {k v d : DC} (h : rs[j]? = some [k, v]) : rs.modify j (putD d) = setC rs j 1 d := by
  unfold setC
  apply List.ext_getElem?
  intro i
  rw [List.getElem?_modify, List.getElem?_modify]
  by_cases hi : j = i
  · subst hi; rw [h]; rfl
  · simp [hi]
theorem lookupD_sound (A : At M η w O nx ρ lk) {kt et : TypeId} {ks : Bool × List CK} {key : SV} {ok : Bool} {b : Blk} {u : Value} {e : Ent} (hks : M.C.T.key kt = some ks) (hdk : Den η key u) (he : η.get b = some (some e))
    (hr : (lookupD M.C O nx ks et key ok b).ok O nx v O' nx') : ∃ es r η', w.heap[e.g]? = some (.map es es.size) ∧ (Instr.checkKey es.isEmpty 10000 kt u).run M.P w = .ok () w ∧
      (do let (v, ok') ← match ← Instr.findKey kt u es.toList with
            | some (_, v) => pure (v, true)
            | none => pure (← zeroValue et, false)
          pure (if ok = true then .tuple #[v, .bool ok'] else v) : Sem Value).run M.P w = .ok r w ∧ η <+: η' ∧ HeapOK M η' w O' nx' ∧ Den η' v r := by
  unfold lookupD at hr
  split at hr
  case h_2 => exact hr.elim
  rename_i i
  split at hr
  case h_2 => exact hr.elim
  rename_i es rs hb
  obtain ⟨⟨hko, hro⟩, hr⟩ := hr
  have hsat := (A.H.own.1 i _ hb).1
  have hsat' := hsat
  simp only [HpSat] at hsat'
  obtain ⟨⟨⟨e', ens, h1, h2, h3, h4, h5⟩, _⟩, _⟩ := hsat'
  rw [he] at h1; injection h1 with h1; injection h1 with h1; subst h1
  obtain ⟨f, hf, hhit, hval⟩ := findKey_run2 A.T hks hko hdk (w := w) hro (mapL_of (es := ens.toList) (i := 0) (by simpa using h4) fun j row hj => by
    obtain ⟨en, g1, g2, g3⟩ := h5 j row hj
    exact ⟨en, by simpa using g1, by omega, g3⟩)
  have hck := (A.T.key kt ks hks).1 w η ens.isEmpty key u hko hdk
  rw [findM_flat] at hhit
  cases hm : findD ks key 0 rs with
  | none =>
    rw [hm] at hr hhit
    obtain ⟨z, zv, hz, hdz, hr⟩ := zeroR_ok A hr
    have hhit : f = none := hhit
    subst hhit
    obtain ⟨rfl, rfl, rfl⟩ := hr
    exact ⟨ens, _, η, h3, hck, by simp [hf, hz], List.prefix_rfl, A.H, den_found hdz⟩
  | some p =>
    obtain ⟨j, d⟩ := p
    rw [hm] at hr hhit
    simp only [Option.map_some] at hhit
    obtain ⟨xv, rfl, hdx⟩ := hhit
    obtain ⟨en, hen, hxv⟩ := hval j xv rfl
    obtain ⟨k0, _, hrow, _⟩ := findD_at hm
    rw [Nat.sub_zero] at hrow
    simp only [takeR] at hr
    cases d with
    | v s =>
      obtain ⟨rfl, rfl, rfl⟩ := hr
      exact ⟨ens, _, η, h3, hck, by simp [hf], List.prefix_rfl, A.H, den_found hdx⟩
    | kid es' rows =>
      obtain ⟨rfl, rfl, rfl⟩ := hr
      obtain ⟨x, hH⟩ := A.H.take hb hrow (c := 1) rfl
      rw [putD_set hrow]
      have hsome : (lkp i O).isSome := by rw [hb]; rfl
      have hinx : i ≠ nx := fun h => by have := A.H.lt hb; omega
      have hs2 := (hH.own.1 i (.deep true es (setC rs j 1 (.v (.sl (.loc nx) 0 es' rows.length none)))) (by rw [lkp_cons, if_neg hinx, lkp_setK i _ O i hsome, if_pos rfl])).1
      obtain ⟨e2, o2, v2, q1, q2, q3, q4, _⟩ := flat_cell hs2 (r := j) (c := 1) (row := [k0, .v (.sl (.loc nx) 0 es' rows.length none)]) (by rw [setC_get, if_pos rfl, hrow]; rfl) rfl
      have hget : (η ++ [x]).get (.loc i) = some (some e) := Env.get_mono (List.prefix_append _ _) he
      rw [hget] at q1; injection q1 with q1; injection q1 with q1; subst q1
      rw [h3] at q2; injection q2 with q2; subst q2
      have hen' : ens[j]? = some en := by simpa using hen
      simp only [cellOf, hen', Option.map_some, Option.some.injEq] at q3
      subst q3 hxv
      exact ⟨ens, _, _, h3, hck, by simp [hf], List.prefix_append _ _, hH, den_found q4⟩
theorem s_lookup (A : At M η w O nx ρ lk) (t : TypeId) (x i : Operand) (ok : Bool) (hr : (opR M.C lk O nx (.lookup t x i ok)).ok O nx v O' nx') : Sound M η w ⟨dst, .lookup t x i ok, ty, pos, af, gd⟩ ρ v O' nx' := by
  simp only [opR, lookupR] at hr
  split at hr
  case h_2 => exact hr.elim
  rename_i kt et hs
  obtain ⟨d, hd, hm⟩ := A.T.und t (by rw [hs]; simp)
  rw [hs] at hm; simp only [ShM] at hm; subst hm
  split at hr
  case h_2 => exact hr.elim
  rename_i ks hks
  split at hr
  case h_2 => exact hr.elim
  rename_i key hi
  split at hr
  · rename_i b hx
    split at hr
    case h_2 =>
      have hxv := A.L _ _ hx
      simp only [Den] at hxv
      obtain ⟨e, he, hv⟩ := hxv
      obtain ⟨es, r, η', g1, g2, g3, g4, g5, g6⟩ := lookupD_sound A hks (A.L _ _ hi) he hr
      have hrun : (Instr.lookup t (ρ x) (ρ i) ok).run M.P w = .ok r w := by
        rw [← g3]
        simp [Instr.lookup, run_und hd, hv, run_obj g1, g2]
        rfl
      exact ⟨r, w, η', .inl (by simp [execOp, hrun]), g4, g5, g6, fun _ _ => rfl⟩
    rename_i rs hb
    obtain ⟨⟨hko, hro⟩, hr⟩ := hr
    have hxv := A.L _ _ hx
    simp only [Den] at hxv
    obtain ⟨e, he, hv⟩ := hxv
    have hsat := A.H.look hb
    simp only [HpSat] at hsat
    obtain ⟨e', es, h1, h2, h3, h4, h5⟩ := hsat
    rw [he] at h1; cases h1
    obtain ⟨f, hf, hhit⟩ := findKey_run A.T hks hko (A.L _ _ hi) (w := w) hro (mapL_of (es := es.toList) (i := 0) (by simpa using h4) fun j row hj => by
      obtain ⟨en, g1, g2, g3⟩ := h5 j row hj
      exact ⟨en, by simpa using g1, by omega, g3⟩)
    have hck := (A.T.key kt ks hks).1 w η es.isEmpty key (ρ i) hko (A.L _ _ hi)
    cases hm : findM ks key 0 rs with
    | some p =>
      obtain ⟨j, u⟩ := p
      rw [hm] at hr hhit
      obtain ⟨xv, rfl, hdx⟩ := hhit
      exact A.val hr ⟨_, .inl (by simp [execOp, Instr.lookup, run_und hd, hv, run_obj h3, hck, hf]), den_found hdx⟩
    | none =>
      rw [hm] at hr hhit
      obtain ⟨z, zv, hz, hdz, hr⟩ := zeroR_ok A hr
      have hhit : f = none := hhit
      subst hhit
      exact A.val hr ⟨_, .inl (by simp [execOp, Instr.lookup, run_und hd, hv, run_obj h3, hck, hf, hz]), den_found hdz⟩
  · rename_i hx
    obtain ⟨hko, hr⟩ := hr
    have hv : ρ x = .map none := (A.L _ _ hx).1
    have hck := (A.T.key kt ks hks).1 w η true key (ρ i) hko (A.L _ _ hi)
    obtain ⟨f, hf, hhit⟩ := findKey_run A.T hks hko (A.L _ _ hi) (w := w) (rs := []) (es := []) (fun r h => by simp at h) trivial
    have hhit : f = none := hhit
    subst hhit
    obtain ⟨z, zv, hz, hdz, hr⟩ := zeroR_ok A hr
    exact A.val hr ⟨_, .inl (by simp [execOp, Instr.lookup, run_und hd, hv, hck, hf, hz]), den_found hdz⟩
  · exact hr.elim
end
end Go.Sx
/- Maps: stores. Conditions: none. -/
set_option linter.unusedVariables false
set_option linter.unusedSimpArgs false
namespace Go.Sx
open Go
theorem findM_at {ks : Bool × List CK} {key : SV} : ∀ {rs : List (List SV)} {i j : Nat} {v : SV}, findM ks key i rs = some (j, v) → ∃ k, i ≤ j ∧ rs[j - i]? = some [k, v] ∧ keyIs ks key k = true
  | [], i, j, v, h => by simp [findM] at h
  | r :: rs, i, j, v, h => by
    unfold findM at h
    split at h
    · rename_i k u
      split at h
      · rename_i hk
        simp only [Option.some.injEq, Prod.mk.injEq] at h
        obtain ⟨rfl, rfl⟩ := h
        exact ⟨k, Nat.le_refl _, by simp, hk⟩
      · obtain ⟨k', h1, h2, h3⟩ := findM_at h
        refine ⟨k', by omega, ?_, h3⟩
        have : j - i = (j - (i + 1)) + 1 := by omega
        rw [this]; simpa using h2
    · cases h
section
variable {M : Mx} {η : Env} {w : World} {O : Hps} {nx : Nat} {ρ : Operand → Value} {lk : Operand → Option SV} {v : SV} {O' : Hps} {nx' : Nat} {dst : Option Tmp} {ty : TypeId} {pos : String} {af : Array Edge} {gd : Option (Nat × Bool)}
def mapSet (w : World) (g : Nat) (es : Array MapEntry) : World := { w with heap := w.heap.setIfInBounds g (.map es es.size) }
/-- A map stands as these rows say. -/
def MapAt (η : Env) (rs : List (List SV)) (es : Array MapEntry) : Prop := es.size = rs.length ∧ ∀ j row, rs[j]? = some row → ∃ e : MapEntry, es[j]? = some e ∧ e.born = j ∧ DenL η row [e.key, e.val]
theorem map_set (H : HeapOK M η w O nx) {i : Nat} {rs rs' : List (List SV)} {en : Ent} {es es' : Array MapEntry} (hh : lkp i O = some (.mp rs)) (hb : η[i]? = some (some en)) (h0 : en.base = 0) (h3 : w.heap[en.g]? = some (.map es es.size)) (hm : MapAt η rs' es') :
    (setObj en.g (.map es' es'.size)).run M.P w = .ok () (mapSet w en.g es') ∧ HeapOK M η (mapSet w en.g es') (setK i (.mp rs') O) nx := by
  have hlt : en.g < w.heap.size := (Array.getElem?_eq_some_iff.1 h3).1
  refine ⟨by simp [setObj, Sem.run, h3, mapSet], ?_⟩
  refine H.upd hh hb (fun k hk => ?_) (by simp [mapSet]) rfl rfl rfl ?_
  · simp [mapSet, Array.getElem?_setIfInBounds, Ne.symm hk]
  · simp only [HpSat, Env.get]
    exact ⟨en, es', hb, h0, by simp [mapSet, hlt], hm.1, hm.2⟩
theorem mapAt_put {rs : List (List SV)} {es : Array MapEntry} (hm : MapAt η rs es) {j : Nat} {k v0 v : SV} {u x : Value} (hj : rs[j]? = some [k, v0]) (hk : Den η k u) (hv : Den η v x) : MapAt η (rs.modify j (putV v)) (es.modify j fun e => { e with key := u, val := x }) := by
  refine ⟨by rw [Array.size_modify, List.length_modify]; exact hm.1, fun a row ha => ?_⟩
  rw [List.getElem?_modify] at ha
  cases hr : rs[a]? with
  | none => rw [hr] at ha; cases ha
  | some r0 =>
    rw [hr] at ha
    obtain ⟨e, e1, e2, e3⟩ := hm.2 a r0 hr
    rw [Array.getElem?_modify, e1]
    by_cases hja : j = a
    · subst hja
      rw [hj] at hr; cases hr
      simp only [if_true, Option.map_eq_map, Option.map_some, Option.some.injEq, putV] at ha
      subst ha
      refine ⟨{ e with key := u, val := x }, by simp, e2, ?_⟩
      simp only [DenL]
      exact ⟨_, _, rfl, hk, _, _, rfl, hv, rfl⟩
    · simp only [if_neg hja, Option.map_eq_map, Option.map_some, Option.some.injEq, id] at ha
      subst ha
      exact ⟨e, by simp [hja], e2, e3⟩
theorem mapAt_push {rs : List (List SV)} {es : Array MapEntry} (hm : MapAt η rs es) {k v : SV} {u x : Value} (hk : Den η k u) (hv : Den η v x) : MapAt η (rs ++ [[k, v]]) (es.push ⟨u, x, es.size⟩) := by
  refine ⟨by simp [hm.1], fun a row ha => ?_⟩
  rw [Array.getElem?_push]
  by_cases hl : a < rs.length
  · rw [List.getElem?_append_left hl] at ha
    obtain ⟨e, e1, e2, e3⟩ := hm.2 a row ha
    exact ⟨e, by rw [if_neg (by rw [hm.1]; omega)]; exact e1, e2, e3⟩
  · rw [List.getElem?_append_right (by omega)] at ha
    have : a - rs.length = 0 := by
      cases hq : a - rs.length with
      | zero => rfl
      | succ n => rw [hq] at ha; simp at ha
    rw [this] at ha
    simp only [List.getElem?_cons_zero, Option.some.injEq] at ha
    subst ha
    have : a = es.size := by rw [hm.1]; omega
    subst this
    refine ⟨⟨u, x, es.size⟩, by simp, rfl, ?_⟩
    simp only [DenL]
    exact ⟨_, _, rfl, hk, _, _, rfl, hv, rfl⟩
theorem keyStays {u : Value} (h : Instr.sameBits 10000 u u = true) (w : World) : (Instr.keyThatStays u u).run M.P w = .ok u w := by simp [Instr.keyThatStays, h]
/-- A map with arrays of its own, its entries written over; whatever owns an array stays where it is. -/
theorem setC_setC {rs : List (List DC)} {r c : Nat} {d d' : DC} : setC (setC rs r c d) r c d' = setC rs r c d' := by
  apply List.ext_getElem?
  intro a
  rw [setC_get, setC_get, setC_get]
  by_cases ha : a = r
  · subst ha
    cases rs[a]? <;> simp
  · simp [ha]
theorem push_setC {rs : List (List DC)} {k d d' : DC} : rs ++ [[k, d']] = setC (rs ++ [[k, d]]) rs.length 1 d' := by
  apply List.ext_getElem?
  intro a
  rw [setC_get]
  by_cases ha : a = rs.length
  · subst ha; simp
  · rw [if_neg ha]
    by_cases hlt' : a < rs.length
    · rw [List.getElem?_append_left hlt', List.getElem?_append_left hlt']
    · rw [List.getElem?_eq_none (by simp; omega), List.getElem?_eq_none (by simp; omega)]
theorem deep_set (H : HeapOK M η w O nx) {i es : Nat} {rs rsv : List (List DC)} {e : Ent} {ens ens' : Array MapEntry} (hb : lkp i O = some (.deep true es rs)) (he : η[i]? = some (some e)) (h3 : w.heap[e.g]? = some (.map ens ens.size)) (hm' : MapAt η (flatD rsv) ens')
    (hkid : ∀ a b y, kidAt rsv a b = some y → kidAt rs a b = some y ∧ cellOf (.map ens' ens'.size) es a b = cellOf (.map ens ens.size) es a b) : HeapOK M η (mapSet w e.g ens') (setK i (.deep true es rsv) O) nx := by
  have hsat := (H.own.1 i _ hb).1
  obtain ⟨_, hD, hes⟩ := hsat.deep_ent
  have h2 := (hD e he).1
  have hK := (hD e he).2 _ h3
  have hlt : e.g < w.heap.size := (Array.getElem?_eq_some_iff.1 h3).1
  have hother : ∀ k, k ≠ e.g → (mapSet w e.g ens').heap[k]? = w.heap[k]? := fun k hk => by simp [mapSet, Array.getElem?_setIfInBounds, Ne.symm hk]
  have hself : (mapSet w e.g ens').heap[e.g]? = some (.map ens' ens'.size) := by simp [mapSet, hlt]
  refine H.updF hb he hother (by simp [mapSet]) rfl rfl rfl ?_ (Nat.le_refl _) fun m fm => ?_
  · refine HpSat.deep_of (⟨e, ens', show η.get (.loc i) = some (some e) from he, h2, hself, hm'.1, hm'.2⟩ : MpSat η (mapSet w e.g ens') (.loc i) (flatD rsv)) hes fun e' h1 => ?_
    rw [show η.get (.loc i) = some (some e) from he] at h1; injection h1 with h1; injection h1 with h1; subst h1
    refine ⟨h2, fun o' ho => ?_⟩
    rw [hself] at ho; injection ho with ho; subst ho
    refine ⟨fun a b es'' rows'' hk => ?_, fun a b a' b' y y' z z' k h1 h2 h3 h4 h5 h6 => ?_⟩
    · obtain ⟨q1, q2⟩ := hkid a b _ hk
      obtain ⟨z, q3, q4, q5⟩ := hK.sat a b _ _ q1
      refine ⟨z, q2.trans q3, q4.keep fun k hz => hother k fun e => ?_, q5⟩
      subst e; exact q5 hz
    · obtain ⟨q1, q2⟩ := hkid a b _ h1
      obtain ⟨q1', q2'⟩ := hkid a' b' _ h2
      exact hK.ne a b a' b' y y' z z' k q1 q1' (q2 ▸ h3) (q2' ▸ h4) h5 h6
  · rcases fm.of (e := e) (show η.get (.loc i) = some (some e) from he) with rfl | fm
    · exact feet.own he
    · simp only [kid] at fm
      obtain ⟨o', a, b, y, z, f1, f2, f3, f4⟩ := fm
      rw [hself] at f1; injection f1 with f1; subst f1
      obtain ⟨q1, q2⟩ := hkid a b _ f2
      exact ⟨e, he, .inr (by simp only [kid]; exact ⟨_, a, b, y, z, h3, q1, q2 ▸ f3, f4⟩)⟩
/-- An entry's value, written over. -/
theorem put_at {rs : List (List DC)} {es j : Nat} {k0 d0 : DC} {sv : SV} {ens : Array MapEntry} {en : MapEntry} {x : Value} (hm : MapAt η (flatD rs) ens) (k2 : rs[j]? = some [k0, d0]) (n1 : ens[j]? = some en) (hdk0 : Den η (flatC k0) en.key) (hdx : Den η sv x) :
    MapAt η (flatD (setC rs j 1 (.v sv))) (ens.modify j fun e => { e with key := en.key, val := x }) ∧
    ∀ a b y, kidAt (setC rs j 1 (.v sv)) a b = some y → kidAt rs a b = some y ∧ cellOf (.map (ens.modify j fun e => { e with key := en.key, val := x }) (ens.modify j fun e => { e with key := en.key, val := x }).size) es a b = cellOf (.map ens ens.size) es a b := by
  have hfr : (flatD rs)[j]? = some [flatC k0, flatC d0] := by rw [flatD_get, k2]; rfl
  refine ⟨?_, fun a b y hk => ?_⟩
  · have : flatD (setC rs j 1 (.v sv)) = (flatD rs).modify j (putV sv) := by
      apply List.ext_getElem?
      intro a
      rw [flatD_setC, List.getElem?_modify]
      by_cases ha : a = j
      · subst ha; rw [if_pos rfl, hfr]; simp [putV, flatC]
      · have hja : ¬ j = a := fun h => ha h.symm
        rw [if_neg ha]; simp [hja]
    rw [this]
    exact mapAt_put hm hfr hdk0 hdx
  · obtain ⟨q1, q2⟩ := kidAt_setV hk
    refine ⟨q1, ?_⟩
    simp only [cellOf]
    rw [Array.getElem?_modify]
    by_cases ha : j = a
    · subst ha
      rw [if_pos rfl, n1]
      obtain ⟨y1, y2⟩ := y
      obtain ⟨row, r1, r2⟩ := kidAt_some.1 q1
      rw [k2] at r1; injection r1 with r1; subst r1
      match b, r2, q2 with
      | 0, _, _ => rfl
      | 1, _, q2 => exact (q2 ⟨rfl, rfl⟩).elim
      | b + 2, r2, _ => simp at r2
    · rw [if_neg ha]
/-- An entry more. -/
theorem push_at {rs : List (List DC)} {es : Nat} {key sv : SV} {ens : Array MapEntry} {u x : Value} (hm : MapAt η (flatD rs) ens) (hdk : Den η key u) (hdx : Den η sv x) :
    MapAt η (flatD (rs ++ [[.v key, .v sv]])) (ens.push ⟨u, x, ens.size⟩) ∧
    ∀ a b y, kidAt (rs ++ [[.v key, .v sv]]) a b = some y → kidAt rs a b = some y ∧ cellOf (.map (ens.push ⟨u, x, ens.size⟩) (ens.push ⟨u, x, ens.size⟩).size) es a b = cellOf (.map ens ens.size) es a b := by
  refine ⟨?_, fun a b y hk => ?_⟩
  · have : flatD (rs ++ [[.v key, .v sv]]) = flatD rs ++ [[key, sv]] := by simp [flatD, flatC]
    rw [this]
    exact mapAt_push hm hdk hdx
  · obtain ⟨y1, y2⟩ := y
    obtain ⟨row, k1, k2⟩ := kidAt_some.1 hk
    by_cases hlt' : a < rs.length
    · rw [List.getElem?_append_left hlt'] at k1
      refine ⟨kidAt_some.2 ⟨row, k1, k2⟩, ?_⟩
      simp only [cellOf]
      rw [Array.getElem?_push, if_neg (by have := hm.1; rw [flatD_len] at this; omega)]
    · rw [List.getElem?_append_right (by omega)] at k1
      cases hz : a - rs.length with
      | succ n => rw [hz] at k1; simp at k1
      | zero =>
        rw [hz] at k1
        simp at k1
        subst k1
        match b, k2 with
        | 0, k2 => cases k2
        | 1, k2 => cases k2
        | b + 2, k2 => simp at k2
theorem mapUpdateD_sound (A : At M η w O nx ρ lk) {kt et : TypeId} {ks : Bool × List CK} {key sv : SV} {i es : Nat} {rs : List (List DC)} {u x : Value} {e : Ent} (hks : M.C.T.key kt = some ks) (hdk : Den η key u) (hdx : Den η sv x) (he : η[i]? = some (some e))
    (hb : lkp i O = some (.deep true es rs)) (hr : (Res.need (keyOK ks key = true ∧ rowsOK ks (flatD rs)) (absorbR M.C.T et O i (fun d => .deep true es (setD ks key d rs)) sv)).ok O nx v O' nx') :
    ∃ ens w', w.heap[e.g]? = some (.map ens ens.size) ∧ (Instr.checkKey false 10000 kt u).run M.P w = .ok () w ∧
      (do match ← Instr.findKey kt u ens.toList with
            | some (k, _) => do
              let k' ← Instr.keyThatStays (((ens[k]?).map (·.key)).getD u) u
              setObj e.g (.map (ens.modify k fun e' => { e' with key := k', val := x }) ens.size)
            | none => setObj e.g (.map (ens.push { key := u, val := x, born := ens.size }) (ens.size + 1)) : Sem Unit).run M.P w = .ok () w' ∧ HeapOK M η w' O' nx' ∧ v = .tup [] := by
  obtain ⟨⟨hko, hro⟩, hr⟩ := hr
  have hsat := (A.H.own.1 i _ hb).1
  obtain ⟨_, hD, hes⟩ := hsat.deep_ent
  have hsat' := hsat
  simp only [HpSat, Env.get] at hsat'
  obtain ⟨⟨⟨e', ens, h1, h2, h3, h4, h5⟩, _⟩, _⟩ := hsat'
  rw [show η.get (.loc i) = some (some e) from he] at h1; injection h1 with h1; injection h1 with h1; subst h1
  have hm : MapAt η (flatD rs) ens := ⟨h4, h5⟩
  have hK := (hD e he).2 _ h3
  have hlt : e.g < w.heap.size := (Array.getElem?_eq_some_iff.1 h3).1
  have hsome : (lkp i O).isSome := by rw [hb]; rfl
  obtain ⟨f, hf, hhit, hval⟩ := findKey_run2 A.T hks hko hdk (w := w) hro (mapL_of (es := ens.toList) (i := 0) (by simpa using hm.1) fun j row hj => by
    obtain ⟨en, g1, g2, g3⟩ := hm.2 j row hj
    exact ⟨en, by simpa using g1, by omega, g3⟩)
  have hck := (A.T.key kt ks hks).1 w η false key u hko hdk
  rw [findM_flat] at hhit
  have fin : ∀ {ens' : Array MapEntry} {r : Nat} {k0 : DC}, (setD ks key (.v sv) rs)[r]? = some [k0, .v sv] → (∀ d, setD ks key d rs = setC (setD ks key (.v sv) rs) r 1 d) → MapAt η (flatD (setD ks key (.v sv) rs)) ens' →
      (∀ a b y, kidAt (setD ks key (.v sv) rs) a b = some y → kidAt rs a b = some y ∧ cellOf (.map ens' ens'.size) es a b = cellOf (.map ens ens.size) es a b) →
      (setObj e.g (.map ens' ens'.size)).run M.P w = .ok () (mapSet w e.g ens') ∧ HeapOK M η (mapSet w e.g ens') O' nx' ∧ v = .tup [] := by
    intro ens' r k0 hrow hset hm' hkid
    obtain ⟨H2, rfl, rfl⟩ := absorb_ok hr (mp := true) (es := es) (rsv := setD ks key (.v sv) rs) (r := r) (c := 1) (fun d => by rw [hset d]) rfl hrow rfl hsome (deep_set A.H hb he h3 hm' hkid)
    exact ⟨by simp [setObj, Sem.run, h3, mapSet], H2, rfl⟩
  cases hq : findD ks key 0 rs with
  | none =>
    rw [hq] at hhit
    have hhit : f = none := hhit
    subst hhit
    have hs : ∀ d, setD ks key d rs = rs ++ [[.v key, d]] := fun d => by unfold setD; rw [hq]
    have hp := push_at (es := es) hm hdk hdx
    rw [← hs] at hp
    obtain ⟨g1, g2, g3⟩ := fin (ens' := ens.push ⟨u, x, ens.size⟩) (r := rs.length) (k0 := .v key) (by rw [hs]; simp) (fun d => by
      rw [hs, hs]
      exact push_setC) hp.1 hp.2
    rw [Array.size_push] at g1
    exact ⟨ens, _, h3, hck, by simp [hf]; rw [g1], g2, g3⟩
  | some p =>
    obtain ⟨j, d0⟩ := p
    rw [hq] at hhit
    obtain ⟨xv, rfl, _⟩ := hhit
    obtain ⟨k0, _, k2, k3⟩ := findD_at hq
    rw [Nat.sub_zero] at k2
    have hfr : (flatD rs)[j]? = some [flatC k0, flatC d0] := by rw [flatD_get, k2]; rfl
    obtain ⟨en, n1, n2, n3⟩ := hm.2 j _ hfr
    simp only [DenL] at n3
    obtain ⟨_, _, e1, hdk0, _, _, e2, _, e3⟩ := n3
    cases e1; cases e2
    obtain ⟨heq, hsb⟩ := keyIs_eq k3 hdk hdk0
    have hs : ∀ d, setD ks key d rs = setC rs j 1 d := fun d => by unfold setD; rw [hq]; exact putD_set k2
    have hjl : j < rs.length := (List.getElem?_eq_some_iff.1 k2).1
    have hp := put_at (es := es) hm k2 n1 hdk0 hdx
    rw [← hs] at hp
    obtain ⟨g1, g2, g3⟩ := fin (ens' := ens.modify j fun e => { e with key := en.key, val := x }) (r := j) (k0 := k0) (by rw [hs, setC_get, if_pos rfl, k2]; rfl) (fun d => by
      rw [hs, hs]
      exact setC_setC.symm) hp.1 hp.2
    rw [Array.size_modify] at g1
    rw [← heq] at g1
    exact ⟨ens, _, h3, hck, by simp [hf, n1, ← heq, keyStays hsb]; rw [g1], heq ▸ g2, g3⟩
theorem s_mapUpdate (A : At M η w O nx ρ lk) (t : TypeId) (m k x : Operand) (hr : (opR M.C lk O nx (.mapUpdate t m k x)).ok O nx v O' nx') : Sound M η w ⟨dst, .mapUpdate t m k x, ty, pos, af, gd⟩ ρ v O' nx' := by
  simp only [opR, mapUpdateR] at hr
  split at hr
  case h_2 => exact hr.elim
  rename_i kt et hs
  obtain ⟨d, hd, hm⟩ := A.T.und t (by rw [hs]; simp)
  rw [hs] at hm; simp only [ShM] at hm; subst hm
  split at hr
  case h_2 => exact hr.elim
  rename_i ks hks
  split at hr
  case h_2 => exact hr.elim
  rename_i key hi
  split at hr
  case h_2 => exact hr.elim
  rename_i sv hx
  split at hr
  case h_2 => exact hr.elim
  rename_i i hmv
  split at hr
  case h_3 => exact hr.elim
  case h_2 =>
    rename_i es rs hb
    have hxv := A.L _ _ hmv
    simp only [Den, Env.get] at hxv
    obtain ⟨e, he, hv⟩ := hxv
    obtain ⟨ens, w', g1, g2, g3, g4, rfl⟩ := mapUpdateD_sound A hks (A.L _ _ hi) (A.L _ _ hx) he hb hr
    have hrun : (Instr.mapUpdate t (ρ m) (ρ k) (ρ x)).run M.P w = .ok () w' := by
      rw [← g3]
      simp [Instr.mapUpdate, run_und hd, hv, run_obj g1, g2]
      rfl
    exact ⟨undef, w', η, .inr ⟨by simp [execOp, hrun], rfl⟩, List.prefix_rfl, g4, denNone η, fun h => by cases h⟩
  rename_i rs hb
  obtain ⟨⟨hko, hro⟩, rfl, rfl, rfl⟩ := hr
  have hxv := A.L _ _ hmv
  simp only [Den, Env.get] at hxv
  obtain ⟨e, he, hv⟩ := hxv
  obtain ⟨hsat, _⟩ := A.H.own.1 i _ hb
  simp only [HpSat, Env.get] at hsat
  obtain ⟨e', es, h1, h2, h3, h4⟩ := hsat
  rw [he] at h1; cases h1
  have hm : MapAt η rs es := h4
  have hdk := A.L _ _ hi
  have hdx := A.L _ _ hx
  obtain ⟨f, hf, hhit⟩ := findKey_run A.T hks hko hdk (w := w) hro (mapL_of (es := es.toList) (i := 0) (by simpa using hm.1) fun j row hj => by
    obtain ⟨en, g1, g2, g3⟩ := hm.2 j row hj
    exact ⟨en, by simpa using g1, by omega, g3⟩)
  have hck := (A.T.key kt ks hks).1 w η false key (ρ k) hko hdk
  unfold setM
  cases hq : findM ks key 0 rs with
  | none =>
    rw [hq] at hhit
    have hhit : f = none := hhit
    subst hhit
    obtain ⟨g1, g2⟩ := map_set A.H hb he h2 h3 (mapAt_push hm hdk hdx)
    rw [Array.size_push] at g1
    exact ⟨undef, _, η, .inr ⟨by simp [execOp, Instr.mapUpdate, run_und hd, hv, run_obj h3, hck, hf]; rw [g1]; rfl, rfl⟩, List.prefix_rfl, g2, denNone η, fun h => by cases h⟩
  | some p =>
    obtain ⟨j, u⟩ := p
    rw [hq] at hhit
    obtain ⟨xv, rfl, _⟩ := hhit
    obtain ⟨k0, _, k2, k3⟩ := findM_at hq
    rw [Nat.sub_zero] at k2
    obtain ⟨en, n1, n2, n3⟩ := hm.2 j _ k2
    simp only [DenL] at n3
    obtain ⟨_, _, e1, hdk0, _, _, e2, _, e3⟩ := n3
    cases e1; cases e2
    obtain ⟨heq, hsb⟩ := keyIs_eq k3 hdk hdk0
    obtain ⟨g1, g2⟩ := map_set A.H hb he h2 h3 (mapAt_put hm k2 (heq ▸ hdk0) hdx)
    rw [Array.size_modify] at g1
    exact ⟨undef, _, η, .inr ⟨by simp [execOp, Instr.mapUpdate, run_und hd, hv, run_obj h3, hck, hf, n1, ← heq, keyStays hsb]; rw [g1]; rfl, rfl⟩, List.prefix_rfl, g2, denNone η, fun h => by cases h⟩
theorem mapSet_same {w : World} {g : Nat} {es : Array MapEntry} (h : w.heap[g]? = some (.map es es.size)) : mapSet w g es = w := by
  have hh : w.heap.setIfInBounds g (.map es es.size) = w.heap := by
    apply Array.ext_getElem?
    intro k
    rw [Array.getElem?_setIfInBounds]
    split
    · rename_i e; subst e; rw [h]; simp [(Array.getElem?_eq_some_iff.1 h).1]
    · rfl
  unfold mapSet
  rw [hh]
theorem mapEntryD_sound (A : At M η w O nx ρ lk) {kt et : TypeId} {ks : Bool × List CK} {key : SV} {i es : Nat} {rs : List (List DC)} {u : Value} {e : Ent} (hks : M.C.T.key kt = some ks) (hdk : Den η key u) (he : η[i]? = some (some e))
    (hb : lkp i O = some (.deep true es rs)) (hr : (Res.need (keyOK ks key = true ∧ rowsOK ks (flatD rs)) (.findD (findD ks key 0 rs) (fun j d => entryR nx i es rs j d)
      (zeroR M.C.T et fun z => .upd i (.deep true es (rs ++ [[.v key, .v z]])) (.tup [z, .int .i64 (rs.length : Int)])))).ok O nx v O' nx') :
    ∃ ens w' r η', w.heap[e.g]? = some (.map ens ens.size) ∧ (Instr.checkKey false 10000 kt u).run M.P w = .ok () w ∧
      (do match ← Instr.findKey kt u ens.toList with
            | some (k, x) => do
              let k' ← Instr.keyThatStays (((ens[k]?).map (·.key)).getD u) u
              setObj e.g (.map (ens.modify k fun e' => { e' with key := k' }) ens.size)
              pure (.tuple #[x, goInt (((ens[k]?).map (·.born)).getD 0)])
            | none => do
              let z ← zeroValue et
              setObj e.g (.map (ens.push { key := u, val := z, born := ens.size }) (ens.size + 1))
              pure (.tuple #[z, goInt ens.size]) : Sem Value).run M.P w = .ok r w' ∧ η <+: η' ∧ HeapOK M η' w' O' nx' ∧ Den η' v r := by
  obtain ⟨⟨hko, hro⟩, hr⟩ := hr
  have hsat := (A.H.own.1 i _ hb).1
  have hsat' := hsat
  simp only [HpSat, Env.get] at hsat'
  obtain ⟨⟨⟨e', ens, h1, h2, h3, h4, h5⟩, _⟩, _⟩ := hsat'
  rw [show η.get (.loc i) = some (some e) from he] at h1; injection h1 with h1; injection h1 with h1; subst h1
  have hm : MapAt η (flatD rs) ens := ⟨h4, h5⟩
  obtain ⟨f, hf, hhit, hval⟩ := findKey_run2 A.T hks hko hdk (w := w) hro (mapL_of (es := ens.toList) (i := 0) (by simpa using hm.1) fun j row hj => by
    obtain ⟨en, g1, g2, g3⟩ := hm.2 j row hj
    exact ⟨en, by simpa using g1, by omega, g3⟩)
  have hck := (A.T.key kt ks hks).1 w η false key u hko hdk
  rw [findM_flat] at hhit
  have hln : ens.size = rs.length := by rw [h4, flatD_len]
  cases hq : findD ks key 0 rs with
  | none =>
    rw [hq] at hhit hr
    have hhit : f = none := hhit
    subst hhit
    obtain ⟨z, zv, hz, hdz, hr⟩ := zeroR_ok A hr
    obtain ⟨rfl, rfl, rfl⟩ := hr
    have hp := push_at (es := es) hm hdk hdz
    have g1 : (setObj e.g (.map (ens.push ⟨u, zv, ens.size⟩) (ens.size + 1))).run M.P w = .ok () (mapSet w e.g (ens.push ⟨u, zv, ens.size⟩)) := by
      simp [setObj, Sem.run, h3, mapSet]
    refine ⟨ens, _, .tuple #[zv, .int .i64 (rs.length : Int)], η, h3, hck, by simp [hf, hz, goInt]; rw [g1]; simp [hln], List.prefix_rfl, deep_set A.H hb he h3 hp.1 hp.2, ?_⟩
    simp only [Den, DenL]
    exact ⟨_, rfl, _, _, rfl, hdz, _, _, rfl, rfl, rfl⟩
  | some p =>
    obtain ⟨j, d⟩ := p
    rw [hq] at hhit hr
    obtain ⟨xv, rfl, hdx⟩ := hhit
    obtain ⟨en, hen, hxv⟩ := hval j xv rfl
    obtain ⟨k0, _, k2, k3⟩ := findD_at hq
    rw [Nat.sub_zero] at k2
    have hen' : ens[j]? = some en := by simpa using hen
    have hfr : (flatD rs)[j]? = some [flatC k0, flatC d] := by rw [flatD_get, k2]; rfl
    obtain ⟨en', n1, n2, n3⟩ := hm.2 j _ hfr
    rw [hen'] at n1; injection n1 with n1; subst n1
    simp only [DenL] at n3
    obtain ⟨_, _, e1, hdk0, _, _, e2, hdv, e3⟩ := n3
    cases e1; cases e2
    obtain ⟨heq, hsb⟩ := keyIs_eq k3 hdk hdk0
    have hes : (ens.modify j fun e => { e with key := u }) = ens := by
      apply Array.ext_getElem?
      intro a
      rw [Array.getElem?_modify]
      split
      · rename_i hja; subst hja; rw [hen', heq]; rfl
      · rfl
    have g1 : (setObj e.g (.map ens ens.size)).run M.P w = .ok () w := by
      have : (setObj e.g (.map ens ens.size)).run M.P w = .ok () (mapSet w e.g ens) := by simp [setObj, Sem.run, h3, mapSet]
      rwa [mapSet_same h3] at this
    have hrun : (do match ← Instr.findKey kt u ens.toList with
            | some (k, x) => do
              let k' ← Instr.keyThatStays (((ens[k]?).map (·.key)).getD u) u
              setObj e.g (.map (ens.modify k fun e' => { e' with key := k' }) ens.size)
              pure (.tuple #[x, goInt (((ens[k]?).map (·.born)).getD 0)])
            | none => do
              let z ← zeroValue et
              setObj e.g (.map (ens.push { key := u, val := z, born := ens.size }) (ens.size + 1))
              pure (.tuple #[z, goInt ens.size]) : Sem Value).run M.P w = .ok (.tuple #[xv, .int .i64 (j : Int)]) w := by
      simp [hf, hen', ← heq, keyStays hsb, hes, g1, goInt, n2]
    simp only [entryR] at hr
    cases d with
    | v s =>
      obtain ⟨rfl, rfl, rfl⟩ := hr
      refine ⟨ens, w, _, η, h3, hck, hrun, List.prefix_rfl, A.H, ?_⟩
      simp only [Den, DenL]
      exact ⟨_, rfl, _, _, rfl, hdx, _, _, rfl, rfl, rfl⟩
    | kid es' rows =>
      obtain ⟨rfl, rfl, rfl⟩ := hr
      obtain ⟨x, hH⟩ := A.H.take hb k2 (c := 1) rfl
      rw [putD_set k2]
      have hsome : (lkp i O).isSome := by rw [hb]; rfl
      have hinx : i ≠ nx := fun h => by have := A.H.lt hb; omega
      have hs2 := (hH.own.1 i (.deep true es (setC rs j 1 (.v (.sl (.loc nx) 0 es' rows.length none)))) (by rw [lkp_cons, if_neg hinx, lkp_setK i _ O i hsome, if_pos rfl])).1
      obtain ⟨e2, o2, v2, q1, q2, q3, q4, _⟩ := flat_cell hs2 (r := j) (c := 1) (row := [k0, .v (.sl (.loc nx) 0 es' rows.length none)]) (by rw [setC_get, if_pos rfl, k2]; rfl) rfl
      have hget : (η ++ [x]).get (.loc i) = some (some e) := Env.get_mono (List.prefix_append _ _) he
      rw [hget] at q1; injection q1 with q1; injection q1 with q1; subst q1
      rw [h3] at q2; injection q2 with q2; subst q2
      simp only [cellOf, hen', Option.map_some, Option.some.injEq] at q3
      subst q3 hxv
      refine ⟨ens, w, _, _, h3, hck, hrun, List.prefix_append _ _, hH, ?_⟩
      rw [Den]
      simp only [DenL]
      exact ⟨_, rfl, _, _, rfl, q4, _, _, rfl, rfl, rfl⟩
theorem s_mapEntry (A : At M η w O nx ρ lk) (t : TypeId) (m k : Operand) (hr : (opR M.C lk O nx (.mapEntry t m k)).ok O nx v O' nx') : Sound M η w ⟨dst, .mapEntry t m k, ty, pos, af, gd⟩ ρ v O' nx' := by
  simp only [opR, mapEntryR] at hr
  split at hr
  case h_2 => exact hr.elim
  rename_i kt et hs
  obtain ⟨d, hd, hm⟩ := A.T.und t (by rw [hs]; simp)
  rw [hs] at hm; simp only [ShM] at hm; subst hm
  split at hr
  case h_2 => exact hr.elim
  rename_i ks hks
  split at hr
  case h_2 => exact hr.elim
  rename_i key hi
  split at hr
  case h_2 => exact hr.elim
  rename_i i hmv
  split at hr
  case h_3 => exact hr.elim
  case h_2 =>
    rename_i es rs hb
    have hxv := A.L _ _ hmv
    simp only [Den, Env.get] at hxv
    obtain ⟨e, he, hv⟩ := hxv
    obtain ⟨ens, w', r, η', g1, g2, g3, g4, g5, g6⟩ := mapEntryD_sound A hks (A.L _ _ hi) he hb hr
    have hrun : (Instr.mapEntry t (ρ m) (ρ k)).run M.P w = .ok r w' := by
      rw [← g3]
      simp [Instr.mapEntry, run_und hd, hv, run_obj g1, g2]
      rfl
    exact ⟨r, w', η', .inl (by simp [execOp, hrun]), g4, g5, g6, fun h => by cases h⟩
  rename_i rs hb
  obtain ⟨⟨hko, hro⟩, hr⟩ := hr
  have hxv := A.L _ _ hmv
  simp only [Den, Env.get] at hxv
  obtain ⟨e, he, hv⟩ := hxv
  obtain ⟨hsat, _⟩ := A.H.own.1 i _ hb
  simp only [HpSat, Env.get] at hsat
  obtain ⟨e', es, h1, h2, h3, h4⟩ := hsat
  rw [he] at h1; cases h1
  have hm : MapAt η rs es := h4
  have hdk := A.L _ _ hi
  obtain ⟨f, hf, hhit⟩ := findKey_run A.T hks hko hdk (w := w) hro (mapL_of (es := es.toList) (i := 0) (by simpa using hm.1) fun j row hj => by
    obtain ⟨en, g1, g2, g3⟩ := hm.2 j row hj
    exact ⟨en, by simpa using g1, by omega, g3⟩)
  have hck := (A.T.key kt ks hks).1 w η false key (ρ k) hko hdk
  cases hq : findM ks key 0 rs with
  | none =>
    rw [hq] at hhit hr
    have hhit : f = none := hhit
    subst hhit
    obtain ⟨z, zv, hz, hdz, hr⟩ := zeroR_ok A hr
    obtain ⟨rfl, rfl, rfl⟩ := hr
    obtain ⟨g1, g2⟩ := map_set A.H hb he h2 h3 (mapAt_push hm hdk hdz)
    rw [Array.size_push] at g1
    refine ⟨.tuple #[zv, .int .i64 (rs.length : Int)], _, η, .inl (by simp [execOp, Instr.mapEntry, run_und hd, hv, run_obj h3, hck, hf, hz]; rw [g1]; simp [goInt, hm.1]), List.prefix_rfl, g2, ?_, fun h => by cases h⟩
    simp only [Den, DenL]
    exact ⟨_, rfl, _, _, rfl, hdz, _, _, rfl, rfl, rfl⟩
  | some p =>
    obtain ⟨j, u⟩ := p
    rw [hq] at hhit hr
    obtain ⟨xv, rfl, hdx⟩ := hhit
    obtain ⟨rfl, rfl, rfl⟩ := hr
    obtain ⟨k0, _, k2, k3⟩ := findM_at hq
    rw [Nat.sub_zero] at k2
    obtain ⟨en, n1, n2, n3⟩ := hm.2 j _ k2
    simp only [DenL] at n3
    obtain ⟨_, _, e1, hdk0, _, _, e2, _, e3⟩ := n3
    cases e1; cases e2
    obtain ⟨heq, hsb⟩ := keyIs_eq k3 hdk hdk0
    have hes : (es.modify j fun e => { e with key := ρ k }) = es := by
      apply Array.ext_getElem?
      intro a
      rw [Array.getElem?_modify]
      split
      · rename_i hja; subst hja; rw [n1, heq]; rfl
      · rfl
    obtain ⟨g1, g2⟩ := map_set A.H hb he h2 h3 hm
    rw [mapSet_same h3] at g1
    refine ⟨.tuple #[xv, .int .i64 (j : Int)], w, η, .inl (by simp [execOp, Instr.mapEntry, run_und hd, hv, run_obj h3, hck, hf, n1, ← heq, keyStays hsb, hes]; rw [g1]; simp [goInt, n2]), List.prefix_rfl, A.H, ?_, fun h => by cases h⟩
    simp only [Den, DenL]
    exact ⟨_, rfl, _, _, rfl, hdx, _, _, rfl, rfl, rfl⟩
end
end Go.Sx
/- Maps: a value put at an entry. Conditions: none. -/
set_option linter.unusedVariables false
set_option linter.unusedSimpArgs false
namespace Go.Sx
open Go
section
variable {M : Mx} {η : Env} {w : World} {O : Hps} {nx : Nat} {ρ : Operand → Value} {lk : Operand → Option SV} {v : SV} {O' : Hps} {nx' : Nat} {dst : Option Tmp} {ty : TypeId} {pos : String} {af : Array Edge} {gd : Option (Nat × Bool)}
theorem born_at {rs : List (List SV)} {es : Array MapEntry} (hm : MapAt η rs es) {n : Int} (h0 : 0 ≤ n) (h1 : n < (rs.length : Int)) : es.findIdx? (fun e => (e.born : Int) == n) = some n.toNat := by
  have at' : ∀ (j : Nat) (hj : j < es.size), es[j].born = j := fun j hj => by
    obtain ⟨e, e1, e2, _⟩ := hm.2 j _ (List.getElem?_eq_getElem (by rw [← hm.1]; exact hj))
    rw [Array.getElem?_eq_getElem hj] at e1
    injection e1 with e1
    rw [e1]; exact e2
  have hn : n.toNat < es.size := by rw [hm.1]; omega
  rw [Array.findIdx?_eq_some_iff_getElem]
  refine ⟨hn, ?_, fun j hj => ?_⟩
  · rw [at' _ hn]; simp; omega
  · rw [at' j (by omega)]; simp; omega
theorem s_entryStore (A : At M η w O nx ρ lk) (t : TypeId) (m k x : Operand) (hr : (opR M.C lk O nx (.entryStore t m k x)).ok O nx v O' nx') : Sound M η w ⟨dst, .entryStore t m k x, ty, pos, af, gd⟩ ρ v O' nx' := by
  simp only [opR, entryStoreR] at hr
  split at hr
  case h_2 => exact hr.elim
  rename_i kn n hi
  split at hr
  case h_2 => exact hr.elim
  rename_i sv hx
  split at hr
  case h_2 => exact hr.elim
  rename_i i hmv
  split at hr
  case h_3 => exact hr.elim
  case h_2 =>
    rename_i es rs hb
    split at hr
    case h_2 => exact hr.elim
    rename_i kt et hs
    obtain ⟨⟨hn0, hn1⟩, hr⟩ := hr
    have hxv := A.L _ _ hmv
    simp only [Den, Env.get] at hxv
    obtain ⟨e, he, hv⟩ := hxv
    have hsat := (A.H.own.1 i _ hb).1
    simp only [HpSat, Env.get] at hsat
    obtain ⟨⟨⟨e', ens, h1, h2, h3, h4, h5⟩, _⟩, _⟩ := hsat
    rw [show η.get (.loc i) = some (some e) from he] at h1; injection h1 with h1; injection h1 with h1; subst h1
    have hm : MapAt η (flatD rs) ens := ⟨h4, h5⟩
    have hsome : (lkp i O).isSome := by rw [hb]; rfl
    have hdk : ρ k = .int kn n := A.L _ _ hi
    have hdx := A.L _ _ hx
    have hlt : n.toNat < rs.length := by omega
    have hrow0 : rs[n.toNat]? = some rs[n.toNat] := List.getElem?_eq_getElem hlt
    have hfr0 : (flatD rs)[n.toNat]? = some (rs[n.toNat].map flatC) := by rw [flatD_get, hrow0]; rfl
    obtain ⟨en, n1, n2, n3⟩ := hm.2 _ _ hfr0
    obtain ⟨k0, d0, hkv, hdk0⟩ : ∃ k0 d0, rs[n.toNat] = [k0, d0] ∧ Den η (flatC k0) en.key := by
      cases hq : rs[n.toNat] with
      | nil => rw [hq] at n3; simp [DenL] at n3
      | cons a l =>
        rw [hq] at n3
        cases l with
        | nil => simp [DenL] at n3
        | cons b l =>
          cases l with
          | nil => simp only [List.map_cons, List.map_nil, DenL] at n3; obtain ⟨_, _, e1, d1, _⟩ := n3; cases e1; exact ⟨a, b, rfl, d1⟩
          | cons c l =>
            simp only [List.map_cons, DenL] at n3
            obtain ⟨_, _, e1, _, _, _, e2, _, _, _, e3, _⟩ := n3
            cases e1; cases e2; cases e3
    rw [hkv] at hrow0
    have hmod : (ens.modify n.toNat fun e => { e with key := en.key, val := ρ x }) = ens.modify n.toNat fun e => { e with val := ρ x } := by
      apply Array.ext_getElem?
      intro a
      rw [Array.getElem?_modify, Array.getElem?_modify]
      split
      · rename_i hja; subst hja; rw [n1]; rfl
      · rfl
    obtain ⟨hp1, hp2⟩ := put_at (es := es) hm hrow0 n1 hdk0 hdx
    rw [hmod] at hp1 hp2
    obtain ⟨H2, rfl, rfl⟩ := absorb_ok hr (mp := true) (es := es) (rsv := setC rs n.toNat 1 (.v sv)) (r := n.toNat) (c := 1) (row := [k0, .v sv]) (fun d => by rw [putD_set hrow0, setC_setC]) (by rw [putD_set hrow0]) (by rw [setC_get, if_pos rfl, hrow0]; rfl) rfl hsome (by rw [putD_set hrow0]; exact deep_set A.H hb he h3 hp1 hp2)
    have g1 : (setObj e.g (.map (ens.modify n.toNat fun e => { e with val := ρ x }) ens.size)).run M.P w = .ok () (mapSet w e.g (ens.modify n.toNat fun e => { e with val := ρ x })) := by
      simp [setObj, Sem.run, h3, mapSet]
    exact ⟨undef, _, η, .inr ⟨by simp [execOp, Instr.entryStore, hv, run_obj h3, hdk, asInt, asIntOf, born_at hm hn0 (by rw [flatD_len]; exact hn1)]; rw [g1]; rfl, rfl⟩, List.prefix_rfl, H2, denNone η, fun h => by cases h⟩
  rename_i rs hb
  obtain ⟨⟨hn0, hn1⟩, rfl, rfl, rfl⟩ := hr
  have hxv := A.L _ _ hmv
  simp only [Den, Env.get] at hxv
  obtain ⟨e, he, hv⟩ := hxv
  obtain ⟨hsat, _⟩ := A.H.own.1 i _ hb
  simp only [HpSat, Env.get] at hsat
  obtain ⟨e', es, h1, h2, h3, h4⟩ := hsat
  rw [he] at h1; cases h1
  have hm : MapAt η rs es := h4
  have hdk : ρ k = .int kn n := A.L _ _ hi
  have hdx := A.L _ _ hx
  have hlt : n.toNat < rs.length := by omega
  have hrow : rs[n.toNat]? = some rs[n.toNat] := List.getElem?_eq_getElem hlt
  obtain ⟨en, n1, n2, n3⟩ := hm.2 _ _ hrow
  obtain ⟨k0, v0, hkv, hdk0⟩ : ∃ k0 v0, rs[n.toNat] = [k0, v0] ∧ Den η k0 en.key := by
    cases hq : rs[n.toNat] with
    | nil => rw [hq] at n3; simp [DenL] at n3
    | cons a l =>
      rw [hq] at n3
      cases l with
      | nil => simp [DenL] at n3
      | cons b l =>
        cases l with
        | nil => simp only [DenL] at n3; obtain ⟨_, _, e1, d1, _⟩ := n3; cases e1; exact ⟨a, b, rfl, d1⟩
        | cons c l =>
          simp only [DenL] at n3
          obtain ⟨_, _, e1, _, _, _, e2, _, _, _, e3, _⟩ := n3
          cases e1; cases e2; cases e3
  rw [hkv] at hrow
  have hmod : (es.modify n.toNat fun e => { e with key := en.key, val := ρ x }) = es.modify n.toNat fun e => { e with val := ρ x } := by
    apply Array.ext_getElem?
    intro a
    rw [Array.getElem?_modify, Array.getElem?_modify]
    split
    · rename_i hja; subst hja; rw [n1]; rfl
    · rfl
  have hput := mapAt_put hm hrow hdk0 hdx
  rw [hmod] at hput
  obtain ⟨g1, g2⟩ := map_set A.H hb he h2 h3 hput
  rw [Array.size_modify] at g1
  exact ⟨undef, _, η, .inr ⟨by simp [execOp, Instr.entryStore, hv, run_obj h3, hdk, asInt, asIntOf, born_at hm hn0 hn1]; rw [g1]; rfl, rfl⟩, List.prefix_rfl, g2, denNone η, fun h => by cases h⟩
end
end Go.Sx
/- Each operation does what the engine says of it: copy, texts gone over, conversions, the least and the greatest; and all of them together. Conditions: none. -/
set_option linter.unusedVariables false
set_option linter.unusedSimpArgs false
namespace Go.Sx
open Go
section
variable {M : Mx} {η : Env} {w : World} {O : Hps} {nx : Nat} {ρ : Operand → Value} {lk : Operand → Option SV} {v : SV} {O' : Hps} {nx' : Nat} {dst : Option Tmp} {ty : TypeId} {pos : String} {af : Array Edge} {gd : Option (Nat × Bool)}
theorem s_min (A : At M η w O nx ρ lk) (args : Array Operand) (ts : Array TypeId) (hr : (opR M.C lk O nx (.call ⟨.builtin .min, args, ts⟩)).ok O nx v O' nx') : Sound M η w ⟨dst, .call ⟨.builtin .min, args, ts⟩, ty, pos, af, gd⟩ ρ v O' nx' := by
  simp only [opR, builtinR, minR] at hr
  split at hr
  case h_2 => exact hr.elim
  rename_i x y ha
  obtain rfl : args = #[x, y] := by apply Array.ext'; simpa using ha
  split at hr
  case h_2 => exact hr.elim
  rename_i k a hx
  split at hr
  case h_2 => exact hr.elim
  rename_i k' b hy
  have h1 := denInt (A.L _ _ hx)
  have h2 := denInt (A.L _ _ hy)
  exact A.val hr ⟨.int k (if b < a then b else a), .inl (by simp [execOp, resolve, invoke, builtin, h1, h2, Builtin.min_, Builtin.min2]), rfl⟩
theorem s_max (A : At M η w O nx ρ lk) (args : Array Operand) (ts : Array TypeId) (hr : (opR M.C lk O nx (.call ⟨.builtin .max, args, ts⟩)).ok O nx v O' nx') : Sound M η w ⟨dst, .call ⟨.builtin .max, args, ts⟩, ty, pos, af, gd⟩ ρ v O' nx' := by
  simp only [opR, builtinR, maxR] at hr
  split at hr
  case h_2 => exact hr.elim
  rename_i x y ha
  obtain rfl : args = #[x, y] := by apply Array.ext'; simpa using ha
  split at hr
  case h_2 => exact hr.elim
  rename_i k a hx
  split at hr
  case h_2 => exact hr.elim
  rename_i k' b hy
  have h1 := denInt (A.L _ _ hx)
  have h2 := denInt (A.L _ _ hy)
  exact A.val hr ⟨.int k (if a < b then b else a), .inl (by simp [execOp, resolve, invoke, builtin, h1, h2, Builtin.max_, Builtin.max2]), rfl⟩
theorem s_range (A : At M η w O nx ρ lk) (t : TypeId) (x : Operand) (hr : (opR M.C lk O nx (.range t x)).ok O nx v O' nx') : Sound M η w ⟨dst, .range t x, ty, pos, af, gd⟩ ρ v O' nx' := by
  simp only [opR, rangeR] at hr
  split at hr
  case h_2 => exact hr.elim
  rename_i hs
  obtain ⟨d, hd, hm⟩ := A.T.und t (by rw [hs]; simp)
  rw [hs] at hm; simp only [ShM] at hm; subst hm
  split at hr
  case h_2 => exact hr.elim
  rename_i s hx
  obtain ⟨rfl, rfl, rfl⟩ := hr
  have hxv := denStr (A.L _ _ hx)
  refine ⟨.pointer (some ⟨w.heap.size, 0, none⟩), pushed w (.stringIter ⟨s.toArray⟩ 0), η ++ [some ⟨w.heap.size, 0, 0⟩], .inl ?_, List.prefix_append _ _, ?_, ?_, fun _ h => absurd h (by simp)⟩
  · simp [execOp, hxv, Instr.range, run_und hd, pushed]
  · refine A.H.alloc (w' := pushed w (.stringIter ⟨s.toArray⟩ 0)) rfl rfl rfl rfl 0 0 ?_
    simp only [HpSat]
    exact ⟨_, get_new A.H.len _, rfl, heap_push_eq (w := w) (w' := pushed w (.stringIter ⟨s.toArray⟩ 0)) rfl⟩
  · simp only [Den]; exact ⟨_, get_new A.H.len _, by simp⟩
theorem s_next (A : At M η w O nx ρ lk) (x : Operand) (b : Bool) (hr : (opR M.C lk O nx (.next x b)).ok O nx v O' nx') : Sound M η w ⟨dst, .next x b, ty, pos, af, gd⟩ ρ v O' nx' := by
  simp only [opR, nextR] at hr
  split at hr
  case h_2 => exact hr.elim
  split at hr
  case h_2 => exact hr.elim
  rename_i i r es c hx
  split at hr
  case h_2 => exact hr.elim
  rename_i s pos' hh
  split at hr
  case h_2 => exact hr.elim
  rename_i hz
  have hz := beq_eq hz
  have hxv := A.L _ _ hx
  simp only [Den, Env.get] at hxv
  obtain ⟨en, hb, hxv⟩ := hxv
  obtain ⟨hsat, _⟩ := A.H.own.1 i _ hh
  simp only [HpSat, Env.get] at hsat
  obtain ⟨en', h1, h2, h3⟩ := hsat
  rw [hb] at h1; injection h1 with h1; injection h1 with h1; subst h1
  rw [h2, hz] at hxv
  simp only [Nat.zero_add] at hxv
  have hlt : en.g < w.heap.size := (Array.getElem?_eq_some_iff.1 h3).1
  have hget : (getObj en.g).run M.P w = .ok (.stringIter ⟨s.toArray⟩ pos') w := by simp [getObj, Sem.run, h3]
  simp only [Res.ok, decide_eq_true_eq] at hr
  split at hr
  · rename_i hp
    obtain ⟨rfl, rfl, rfl⟩ := hr
    have hset : (setObj en.g (.stringIter ⟨s.toArray⟩ (pos' + (Utf8.decode ⟨s.toArray⟩ pos').2))).run M.P w = .ok () { w with heap := w.heap.setIfInBounds en.g (.stringIter ⟨s.toArray⟩ (pos' + (Utf8.decode ⟨s.toArray⟩ pos').2)) } := by simp [setObj, Sem.run, h3]
    refine ⟨.tuple #[.bool true, .int .i64 (pos' : Int), .int .i32 ((Utf8.decode ⟨s.toArray⟩ pos').1 : Int)], { w with heap := w.heap.setIfInBounds en.g (.stringIter ⟨s.toArray⟩ (pos' + (Utf8.decode ⟨s.toArray⟩ pos').2)) }, η, .inl ?_, List.prefix_rfl, ?_, ?_, fun h => by cases h⟩
    · simp [execOp, hxv, Instr.next, hget, size_mk, hp, hset, goInt]
    · refine A.H.upd hh hb (fun k hk => ?_) (by simp) rfl rfl rfl ?_
      · simp [Array.getElem?_setIfInBounds, Ne.symm hk]
      · simp only [HpSat, Env.get]
        exact ⟨en, hb, h2, by simp [hlt]⟩
    · simp only [Den, DenL]
      exact ⟨_, rfl, _, _, rfl, rfl, _, _, rfl, rfl, _, _, rfl, rfl, rfl⟩
  · rename_i hp
    obtain ⟨rfl, rfl, rfl⟩ := hr
    refine A.same (u := .tuple #[.bool false]) (.inl ?_) ?_ rfl rfl
    · simp [execOp, hxv, Instr.next, hget, size_mk, hp]
    · simp only [Den, DenL]; exact ⟨_, rfl, _, _, rfl, rfl, rfl⟩
theorem rowByte_bytes (l : List UInt8) : (l.map bytesRow).map rowByte = l := by
  rw [List.map_map]
  conv => rhs; rw [← List.map_id l]
  apply List.map_congr_left
  intro b _
  simp [bytesRow, rowByte]
theorem news_bytes {η : Env} : ∀ {l : List UInt8} {news : List Value}, DenLL η 1 (l.map bytesRow) news → news = l.map fun c => .int .u8 (c.toNat : Int)
  | [], news, h => by simpa [DenLL] using h
  | c :: l, news, h => by
    simp only [List.map_cons, DenLL] at h
    obtain ⟨us, ws, rfl, _, h1, h2⟩ := h
    simp only [bytesRow, DenL, Den] at h1
    obtain ⟨u, us', rfl, rfl, rfl⟩ := h1
    rw [news_bytes h2]; rfl
theorem s_convert (A : At M η w O nx ρ lk) (a b : TypeId) (x : Operand) (hr : (opR M.C lk O nx (.convert a b x)).ok O nx v O' nx') : Sound M η w ⟨dst, .convert a b x, ty, pos, af, gd⟩ ρ v O' nx' := by
  simp only [opR, convR] at hr
  split at hr
  · exact hr.elim
  rename_i hok
  have hsa : M.C.T.sh a ≠ .other := by intro h; simp [okSh, h] at hok
  obtain ⟨da, hda, hma⟩ := A.T.und a hsa
  have bytesd : ∀ {t e : TypeId}, bytesSh M.C.T t = some e → M.P.underlying t = some (.slice e) ∧ M.P.underlying e = some (.int .u8) := by
    intro t e h
    unfold bytesSh at h
    split at h
    case h_2 => cases h
    rename_i q hq
    split at h
    case h_2 => cases h
    rename_i hq'
    injection h with h; subst h
    obtain ⟨d, hd, hm⟩ := A.T.und t (by rw [hq]; simp)
    rw [hq] at hm; simp only [ShM] at hm; subst hm
    obtain ⟨d, hd', hm⟩ := A.T.und q (by rw [hq']; simp)
    rw [hq'] at hm; simp only [ShM] at hm; subst hm
    exact ⟨hd, hd'⟩
  split at hr
  · rename_i k n hx
    have hxv := denInt (A.L _ _ hx)
    split at hr
    case h_3 => exact hr.elim
    · rename_i k' hs
      obtain ⟨d, hd, hm⟩ := A.T.und b (by rw [hs]; simp)
      rw [hs] at hm; simp only [ShM] at hm; subst hm
      refine A.val hr ⟨.int k' (k'.wrap n), .inl ?_, rfl⟩
      have : (convert a b (.int k n)).run M.P w = .ok (.int k' (k'.wrap n)) w := by
        simp only [convert, Sem.run_bind, run_und hda, run_und hd, Result.andThen_ok]
        cases da <;> rfl
      simp [execOp, hxv, this]
    · rename_i hs
      obtain ⟨d, hd, hm⟩ := A.T.und b (by rw [hs]; simp)
      rw [hs] at hm; simp only [ShM] at hm; subst hm
      refine A.val hr ⟨.string (Utf8.encode n), .inl ?_, rfl⟩
      have : (convert a b (.int k n)).run M.P w = .ok (.string (Utf8.encode n)) w := by
        simp only [convert, Sem.run_bind, run_und hda, run_und hd, Result.andThen_ok]
        cases da <;> rfl
      simp [execOp, hxv, this]
  · rename_i s hx
    have hxv := denStr (A.L _ _ hx)
    split at hr
    · rename_i hs
      obtain ⟨d, hd, hm⟩ := A.T.und b (by rw [hs]; simp)
      rw [hs] at hm; simp only [ShM] at hm; subst hm
      refine A.val hr ⟨.string ⟨s.toArray⟩, .inl ?_, rfl⟩
      have : (convert a b (.string ⟨s.toArray⟩)).run M.P w = .ok (.string ⟨s.toArray⟩) w := by
        simp only [convert, Sem.run_bind, run_und hda, run_und hd, Result.andThen_ok]
        cases da <;> rfl
      simp [execOp, hxv, this]
    · split at hr
      case h_2 => exact hr.elim
      rename_i e he
      obtain ⟨hd, hd'⟩ := bytesd he
      split at hr
      case h_2 => exact hr.elim
      rename_i hsz
      have hsz := beq_eq hsz
      split at hr
      case h_2 => exact hr.elim
      rename_i hsrc
      obtain ⟨da', hda', hma'⟩ := A.T.und a (by rw [hsrc]; simp)
      rw [hsrc] at hma'; simp only [ShM] at hma'; subst hma'
      obtain ⟨hlen, rfl, rfl, rfl⟩ := hr
      have hrun := run_bytes_of_string (P := M.P) w a b e ⟨s.toArray⟩ hda' hd hd'
      rw [size_mk] at hrun
      have hge := grownCap_ge w s.length 0 e
      have hbs : (Go.bytesRow ⟨s.toArray⟩ (grownCap w s.length 0 e)).size = grownCap w s.length 0 e := by simp [Go.bytesRow, size_mk]; omega
      refine ⟨_, w.drew.alloc (.cells (Go.bytesRow ⟨s.toArray⟩ (grownCap w s.length 0 e)) e ((Go.bytesRow ⟨s.toArray⟩ (grownCap w s.length 0 e)).size, (Go.bytesRow ⟨s.toArray⟩ (grownCap w s.length 0 e)).size + 1)), η ++ [some ⟨w.heap.size, 0, grownCap w s.length 0 e⟩],
        .inl (by simp only [execOp, hxv, Sem.run_bind, hrun, Result.andThen_ok, Sem.run_pure]), List.prefix_append _ _, ?_, den_newsl A.H.len hge, fun _ h => absurd h (by simp)⟩
      refine HeapOK.alloc (w' := w.drew.alloc (.cells (Go.bytesRow ⟨s.toArray⟩ (grownCap w s.length 0 e)) e ((Go.bytesRow ⟨s.toArray⟩ (grownCap w s.length 0 e)).size, (Go.bytesRow ⟨s.toArray⟩ (grownCap w s.length 0 e)).size + 1))) A.H rfl rfl rfl rfl 0 _ ?_
      simp only [HpSat]
      right
      refine ⟨_, Go.bytesRow ⟨s.toArray⟩ (grownCap w s.length 0 e), e, ((Go.bytesRow ⟨s.toArray⟩ (grownCap w s.length 0 e)).size, (Go.bytesRow ⟨s.toArray⟩ (grownCap w s.length 0 e)).size + 1), get_new A.H.len _, heap_push_eq (w := w) (o := .cells (Go.bytesRow ⟨s.toArray⟩ (grownCap w s.length 0 e)) e ((Go.bytesRow ⟨s.toArray⟩ (grownCap w s.length 0 e)).size, (Go.bytesRow ⟨s.toArray⟩ (grownCap w s.length 0 e)).size + 1)) rfl, fun _ => ⟨?_, by rw [hbs, Nat.mul_one], by simpa using hge, rfl⟩, ?_⟩
      · intro o ho h; omega
      · intro k row hk
        rw [List.getElem?_map] at hk
        cases hq : s[k]? with
        | none => rw [hq] at hk; cases hk
        | some c =>
          rw [hq] at hk
          injection hk with hk
          subst hk
          refine ⟨rfl, fun j sv hj => ?_⟩
          cases j with
          | succ j => simp [bytesRow] at hj
          | zero =>
            simp [bytesRow] at hj
            subst hj
            have hkl := (List.getElem?_eq_some_iff.1 hq).1
            refine ⟨.int .u8 (c.toNat : Int), ?_, rfl, rfl⟩
            simp only [Go.bytesRow, Nat.zero_add, Nat.mul_one, Nat.add_zero]
            rw [Array.getElem?_append_left (by simpa using hkl)]
            simp [hq]
  · rename_i bb r es len lim hx
    split at hr
    case h_2 => exact hr.elim
    rename_i hs
    obtain ⟨d, hd, hm⟩ := A.T.und b (by rw [hs]; simp)
    rw [hs] at hm; simp only [ShM] at hm; subst hm
    split at hr
    case h_2 => exact hr.elim
    rename_i e he
    obtain ⟨hd1, hd2⟩ := bytesd he
    split at hr
    case h_2 => exact hr.elim
    rename_i xs m hrows
    obtain ⟨⟨hl, l, hxl⟩, hr⟩ := hr
    have hxd := A.L _ _ hx
    obtain ⟨news, N⟩ := rowsR_news A hxd hrows hl
    have hm : m = len := by
      unfold rowsR at hrows
      simp only at hrows
      split at hrows
      case h_2 => cases hrows
      split at hrows
      case h_2 => cases hrows
      split at hrows
      case h_2 => cases hrows
      simp only [Option.some.injEq, Prod.mk.injEq] at hrows
      exact hrows.2.symm
    subst hm
    subst hxl
    rw [rowByte_bytes] at hr
    refine A.val hr ⟨.string ⟨l.toArray⟩, .inl ?_, rfl⟩
    have hnews := news_bytes N.den
    have hf := N.first w rfl
    simp only [List.length_map] at hl
    simp only [Den] at hxd
    rcases hxd with ⟨_, hxv, h0⟩ | ⟨en, o, _, hxv, _⟩
    · subst h0
      have : l = [] := List.length_eq_zero_iff.1 hl
      subst this
      simp [execOp, hxv, convert, run_und hd1, run_und hd, run_und hd2, Conv.bytesToString]
      rfl
    · rw [hxv] at hf
      simp only [Builtin.firstCells, Nat.mul_one] at hf
      have hconv : (convert a b (.slice (some ⟨en.g, o, none⟩) m (lim.getD en.cap - r))).run M.P w = .ok (.string ⟨l.toArray⟩) w := by
        rw [run_convert_bytes_string w a b e _ m _ hd1 hd2 hd]
        have hf' : (loadCells ⟨en.g, o, none⟩ m).run M.P w = .ok ((l.map (fun c => (c.toNat : Int))).map (Value.int .u8)).toArray w := by
          rw [hf, hnews]; simp
        rw [run_bytesToString w _ m _ _ hf', foldl_push_byteCells]
        simp
      simp [execOp, hxv, hconv]
  · rename_i hx
    obtain ⟨hxv, _⟩ : ρ x = .slice none 0 0 ∧ True := ⟨And.left (A.L _ _ hx), trivial⟩
    split at hr
    case h_2 => exact hr.elim
    rename_i hs
    obtain ⟨d, hd, hm⟩ := A.T.und b (by rw [hs]; simp)
    rw [hs] at hm; simp only [ShM] at hm; subst hm
    split at hr
    case h_2 => exact hr.elim
    rename_i e he
    obtain ⟨hd1, hd2⟩ := bytesd he
    refine A.val hr ⟨.string ⟨[].toArray⟩, .inl ?_, rfl⟩
    simp [execOp, hxv, convert, run_und hd1, run_und hd, run_und hd2, Conv.bytesToString]
    rfl
  · exact hr.elim
theorem s_copy (A : At M η w O nx ρ lk) (args : Array Operand) (ts : Array TypeId) (hr : (opR M.C lk O nx (.call ⟨.builtin .copy, args, ts⟩)).ok O nx v O' nx') : Sound M η w ⟨dst, .call ⟨.builtin .copy, args, ts⟩, ty, pos, af, gd⟩ ρ v O' nx' := by
  simp only [opR, builtinR, copyR] at hr
  split at hr
  case h_2 => exact hr.elim
  rename_i dd x ha
  obtain rfl : args = #[dd, x] := by apply Array.ext'; simpa using ha
  split at hr
  case h_2 => exact hr.elim
  rename_i t u htu
  obtain rfl : ts = #[t, u] := by apply Array.ext'; simpa using htu
  split at hr
  case h_2 => exact hr.elim
  rename_i e hst
  obtain ⟨d, hd, hm⟩ := A.T.und t (by rw [hst]; simp)
  rw [hst] at hm; simp only [ShM] at hm; subst hm
  split at hr
  · exact hr.elim
  rename_i hok
  have hsh : M.C.T.sh e ≠ .other := by intro h; simp [okSh, h] at hok
  obtain ⟨ie, hie, hies, _⟩ := A.T.info e hsh
  split at hr
  case h_2 => exact hr.elim
  rename_i i r es n lim hdv
  have hdd := A.L _ _ hdv
  split at hr
  · exact hr.elim
  rename_i xsv hx
  have hxd := A.L _ _ hx
  split at hr
  · exact hr.elim
  rename_i xs m hrows
  split at hr
  case h_2 => exact hr.elim
  rename_i es' rs hh
  split at hr
  case h_2 => exact hr.elim
  rename_i h1
  have h1 := beq_eq h1
  subst h1
  split at hr
  case h_2 => exact hr.elim
  rename_i h2
  have h2 := beq_eq h2
  subst h2
  obtain ⟨⟨q1, q2, q3⟩, rfl, rfl, rfl⟩ := hr
  obtain ⟨news, N⟩ := rowsR_news A hxd hrows q1
  obtain ⟨hsat, _⟩ := A.H.own.1 i _ hh
  simp only [HpSat, Env.get] at hsat
  have hmin : Nat.min m n = m := Nat.min_eq_left q2
  have hd1 := N.first w rfl
  have fin : ∀ {w' : World}, (Builtin.copy_ #[t, u] ty #[ρ dd, ρ x]).run M.P w = .ok (.int .i64 m) w' → Yields M.P ⟨dst, .call ⟨.builtin .copy, #[dd, x], #[t, u]⟩, ty, pos, af, gd⟩ ρ w (.int .i64 m) w' := by
    intro w' h
    exact .inl (by simp [execOp, resolve, invoke, builtin, h])
  simp only [Den, Env.get] at hdd
  rcases hdd with ⟨p1, hdv', p3⟩ | ⟨en, o, p1, hdv', p3, p4, p5⟩
  · rcases hsat with ⟨p6, rfl⟩ | ⟨en', arr, T, fz, p6, _⟩
    case inr => rw [p1] at p6; cases p6
    subst p3
    have hm0 : m = 0 := by omega
    subst hm0
    have hx0 : xs = [] := List.length_eq_zero_iff.1 q1
    subst hx0
    refine ⟨_, w, η, fin ?_, List.prefix_rfl, ?_, rfl, fun h => by cases h⟩
    · simp [hdv', Builtin.copy_, run_und hd, N.lenOf, run_size hie, hies, hd1, goInt]
    · refine { pre := A.H.pre, len := A.H.len, fr := A.H.fr, sok := A.H.sok, own := ⟨fun j g hj => ?_, fun j k g g' m hj hk hne f f' => ?_⟩ }
      · rw [lkp_setK i _ O j (by rw [hh]; rfl)] at hj
        split at hj
        · rename_i e; subst e; injection hj with hj; subst hj
          exact ⟨Or.inl ⟨p1, by simp⟩, fun k f => (feet.none (b := .loc j) p1 f).elim⟩
        · exact A.H.own.1 j g hj
      · have aux : ∀ (j : Nat) (g : Hp) (m : Nat), feet η w (.loc j) g m → lkp j (setK i (.rows (M.C.T.size e) (List.take r [] ++ [] ++ List.drop (r + 0) [])) O) = some g → lkp j O = some g := by
          intro j g m f hj
          rw [lkp_setK i _ O j (by rw [hh]; rfl)] at hj
          split at hj
          · rename_i e; subst e; exact (feet.none (b := .loc j) p1 f).elim
          · exact hj
        exact A.H.own.2 j k g g' m (aux j g m f hj) (aux k g' m f' hk) hne f f'
  · rcases hsat with ⟨p6, _⟩ | ⟨en', arr, T, fz, p6, p7, p8, p9⟩
    · rw [p1] at p6; cases p6
    rw [p1] at p6; injection p6 with p6; injection p6 with p6; subst p6
    obtain ⟨p8u, p8s, p8c, p8b⟩ := p8 trivial
    rw [p8b] at p9
    obtain ⟨r1, r2⟩ := rows_over p8s (r := r) (xs := xs) (by omega) (by omega) p9 N.den N.one
    by_cases hm0 : m = 0
    · subst hm0
      have hx0 : xs = [] := List.length_eq_zero_iff.1 q1
      have hn0 : news = [] := by apply List.length_eq_zero_iff.1; rw [N.len]; omega
      subst hx0 hn0
      refine ⟨_, w, η, fin ?_, List.prefix_rfl, ?_, rfl, fun h => by cases h⟩
      · simp [hdv', Builtin.copy_, run_und hd, N.lenOf, run_size hie, hies, hd1, goInt, storeCells]
      · refine A.H.upd hh p1 (fun k _ => rfl) rfl rfl rfl rfl ?_
        simp only [HpSat, Env.get]
        right
        exact ⟨en, arr, T, fz, p1, p7, fun _ => ⟨p8u, p8s, by simpa using p8c, p8b⟩, by rw [p8b]; simpa using p9⟩
    · have ho := p5 (.inl (by omega))
      rw [p8b, Nat.zero_add] at ho
      subst ho
      have hst := storeCells_run (P := M.P) en.g (r * M.C.T.size e) T fz news 0 arr w p7 (by simpa using r1) p8u N.one
      simp only [Nat.add_zero] at hst
      have hsz' : (arr.toList.take (r * M.C.T.size e) ++ news ++ arr.toList.drop (r * M.C.T.size e + news.length)).toArray.size = arr.size := by
        simp only [List.size_toArray, List.length_append, List.length_take, List.length_drop, Array.length_toList]; omega
      refine ⟨_, w.setRow en.g (arr.toList.take (r * M.C.T.size e) ++ news ++ arr.toList.drop (r * M.C.T.size e + news.length)).toArray, η, fin ?_, List.prefix_rfl, A.H.upd hh p1 (fun k hk => setRow_other w en.g k _ hk) (setRow_size _ _ _) rfl rfl rfl ?_, rfl, fun h => by cases h⟩
      · simp [hdv', Builtin.copy_, run_und hd, N.lenOf, run_size hie, hies, hmin, hd1, hst, goInt]
      · simp only [HpSat, Env.get]
        right
        refine ⟨en, _, T, fz, p1, setRow_heap w en.g arr _ T fz p7, fun _ => ⟨by rw [hsz']; exact p8u, by rw [hsz']; exact p8s, ?_, p8b⟩, by rw [p8b, ← q1]; exact r2⟩
        simp only [List.length_append, List.length_take, List.length_drop]; omega
theorem denLL_rep {η : Env} {es : Nat} {z : List SV} {zs : List Value} (hz : DenL η z zs) (hl : zs.length = es) : ∀ n, DenLL η es (List.replicate n z) (zeros zs n)
  | 0 => by simp [DenLL, zeros]
  | n + 1 => by
    rw [List.replicate_succ, zeros_succ]
    simp only [DenLL]
    exact ⟨zs, zeros zs n, rfl, hl, hz, denLL_rep hz hl n⟩
theorem s_clear (A : At M η w O nx ρ lk) (args : Array Operand) (ts : Array TypeId) (hr : (opR M.C lk O nx (.call ⟨.builtin .clear, args, ts⟩)).ok O nx v O' nx') : Sound M η w ⟨dst, .call ⟨.builtin .clear, args, ts⟩, ty, pos, af, gd⟩ ρ v O' nx' := by
  simp only [opR, builtinR, clearR] at hr
  split at hr
  case h_2 => exact hr.elim
  rename_i dd ha
  obtain rfl : args = #[dd] := by apply Array.ext'; simpa using ha
  split at hr
  case h_2 => exact hr.elim
  rename_i t htu
  obtain rfl : ts = #[t] := by apply Array.ext'; simpa using htu
  split at hr
  case h_2 => exact hr.elim
  rename_i e hst
  obtain ⟨d, hd, hm⟩ := A.T.und t (by rw [hst]; simp)
  rw [hst] at hm; simp only [ShM] at hm; subst hm
  split at hr
  · exact hr.elim
  rename_i c cs hz
  have hsh : M.C.T.sh e ≠ .other := A.T.zsh e (by rw [hz]; simp)
  obtain ⟨ie, z, h1, h2, h3, h4, h5, _⟩ := A.T.zero e hsh (by rw [hz]; simp)
  rw [hz] at h3 h5
  have h3 := DenL.mono (η' := η) List.nil_prefix h3
  have hzl : z.cells.toList.length = M.C.T.size e := by have := denL_len h3; rw [h5] at this; exact this
  split at hr
  case h_2 => exact hr.elim
  rename_i i r es n lim hdv
  have hdd := A.L _ _ hdv
  split at hr
  case h_2 => exact hr.elim
  rename_i es' rs hh
  split at hr
  case h_2 => exact hr.elim
  rename_i g1
  have g1 := beq_eq g1
  subst g1
  split at hr
  case h_2 => exact hr.elim
  rename_i g2
  have g2 := beq_eq g2
  subst g2
  obtain ⟨q3, rfl, rfl, rfl⟩ := hr
  obtain ⟨hsat, _⟩ := A.H.own.1 i _ hh
  simp only [HpSat, Env.get] at hsat
  have fin : ∀ {w' : World}, (Builtin.clear_ #[t] ty #[ρ dd]).run M.P w = .ok (.tuple #[]) w' → Yields M.P ⟨dst, .call ⟨.builtin .clear, #[dd], #[t]⟩, ty, pos, af, gd⟩ ρ w (.tuple #[]) w' := by
    intro w' h
    exact .inl (by simp [execOp, resolve, invoke, builtin, h])
  have hden : ∀ η, Den η (.tup []) (.tuple #[]) := fun η => by simp only [Den, DenL]; exact ⟨[], rfl, rfl⟩
  simp only [Den, Env.get] at hdd
  rcases hdd with ⟨p1, hdv', p3⟩ | ⟨en, o, p1, hdv', p3, p4, p5⟩
  · rcases hsat with ⟨p6, rfl⟩ | ⟨en', arr, T, fz, p6, _⟩
    case inr => rw [p1] at p6; cases p6
    subst p3
    refine ⟨_, w, η, fin ?_, List.prefix_rfl, ?_, hden _, fun h => by cases h⟩
    · simp [hdv', Builtin.clear_, run_und hd]
    · refine { pre := A.H.pre, len := A.H.len, fr := A.H.fr, sok := A.H.sok, own := ⟨fun j g hj => ?_, fun j k g g' m hj hk hne f f' => ?_⟩ }
      · rw [lkp_setK i _ O j (by rw [hh]; rfl)] at hj
        split at hj
        · rename_i e; subst e; injection hj with hj; subst hj
          exact ⟨Or.inl ⟨p1, by simp⟩, fun k f => (feet.none (b := .loc j) p1 f).elim⟩
        · exact A.H.own.1 j g hj
      · have aux : ∀ (j : Nat) (g : Hp) (m : Nat), feet η w (.loc j) g m → lkp j (setK i (.rows (M.C.T.size e) (List.take r [] ++ List.replicate 0 (c :: cs) ++ List.drop (r + 0) [])) O) = some g → lkp j O = some g := by
          intro j g m f hj
          rw [lkp_setK i _ O j (by rw [hh]; rfl)] at hj
          split at hj
          · rename_i e; subst e; exact (feet.none (b := .loc j) p1 f).elim
          · exact hj
        exact A.H.own.2 j k g g' m (aux j g m f hj) (aux k g' m f' hk) hne f f'
  · rcases hsat with ⟨p6, _⟩ | ⟨en', arr, T, fz, p6, p7, p8, p9⟩
    · rw [p1] at p6; cases p6
    rw [p1] at p6; injection p6 with p6; injection p6 with p6; subst p6
    obtain ⟨p8u, p8s, p8c, p8b⟩ := p8 trivial
    rw [p8b] at p9
    have hLL := denLL_rep h3 hzl n
    have hone := zeros_one h4 n
    have hxl : (List.replicate n (c :: cs)).length = n := List.length_replicate
    obtain ⟨r1, r2⟩ := rows_over p8s (r := r) (xs := List.replicate n (c :: cs)) (by omega) (by omega) p9 hLL hone
    by_cases hn0 : n = 0
    · subst hn0
      refine ⟨_, w, η, fin ?_, List.prefix_rfl, ?_, hden _, fun h => by cases h⟩
      · simp [hdv', Builtin.clear_, run_und hd]
      · refine A.H.upd hh p1 (fun k _ => rfl) rfl rfl rfl rfl ?_
        simp only [HpSat, Env.get]
        right
        exact ⟨en, arr, T, fz, p1, p7, fun _ => ⟨p8u, p8s, by simpa using p8c, p8b⟩, by rw [p8b]; simpa using p9⟩
    · have ho := p5 (.inl (by omega))
      rw [p8b, Nat.zero_add] at ho
      subst ho
      have hst := storeCells_run (P := M.P) en.g (r * M.C.T.size e) T fz (zeros z.cells.toList n) 0 arr w p7 (by simpa using r1) p8u hone
      simp only [Nat.add_zero] at hst
      have hzc : (Builtin.zeroCells z.cells n).toList = zeros z.cells.toList n := by
        unfold Builtin.zeroCells
        exact zeros_array z.cells n _ (by simp [Nat.mul_comm])
      have hsz' : (arr.toList.take (r * M.C.T.size e) ++ zeros z.cells.toList n ++ arr.toList.drop (r * M.C.T.size e + (zeros z.cells.toList n).length)).toArray.size = arr.size := by
        simp only [List.size_toArray, List.length_append, List.length_take, List.length_drop, Array.length_toList]; omega
      refine ⟨_, w.setRow en.g (arr.toList.take (r * M.C.T.size e) ++ zeros z.cells.toList n ++ arr.toList.drop (r * M.C.T.size e + (zeros z.cells.toList n).length)).toArray, η, fin ?_, List.prefix_rfl, A.H.upd hh p1 (fun k hk => setRow_other w en.g k _ hk) (setRow_size _ _ _) rfl rfl rfl ?_, hden _, fun h => by cases h⟩
      · obtain ⟨n, rfl⟩ : ∃ m, n = m + 1 := ⟨n - 1, by omega⟩
        simp [hdv', Builtin.clear_, run_und hd, run_zero h1 h2, hzc, hst]
      · simp only [HpSat, Env.get]
        right
        refine ⟨en, _, T, fz, p1, setRow_heap w en.g arr _ T fz p7, fun _ => ⟨by rw [hsz']; exact p8u, by rw [hsz']; exact p8s, ?_, p8b⟩, by rw [p8b]; rw [hxl] at r2; exact r2⟩
        simp only [List.length_append, List.length_take, List.length_drop, List.length_replicate]; omega
theorem op_sound (A : At M η w O nx ρ lk) (o : Oper) (hr : (opR M.C lk O nx o.op).ok O nx v O' nx') : Sound M η w o ρ v O' nx' := by
  obtain ⟨dst, op, ty, pos, af, gd⟩ := o
  cases op with
  | move x => exact s_move A x hr
  | assign x => exact s_assign A x hr
  | pick c a b => exact s_pick A c a b hr
  | alloc e => exact s_alloc A e hr
  | box e x => exact s_box A e x hr
  | build t ps => exact s_build A t ps hr
  | buildSlice t l ps => exact s_buildSlice A t l ps hr
  | load t x => exact s_load A t x hr
  | store t x y => exact s_store A t x y hr
  | nilCheck x => exact s_nilCheck A x hr
  | binOp op t x y u => exact s_binOp A op t u x y hr
  | unOp op t x => exact s_unOp A op t x hr
  | convert s d x => exact s_convert A s d x hr
  | makeInterface t x => exact s_makeInterface A t x hr
  | makeFunc f a b => exact s_makeFunc A f a b hr
  | makeSlice t l c => exact s_makeSlice A t l c hr
  | slice t x lo hi mx => exact s_slice A t x lo hi mx hr
  | fieldAddr s x f => exact s_fieldAddr A s x f hr
  | field t x f => exact s_field A t x f hr
  | indexAddr t x i => exact s_indexAddr A t x i hr
  | index t x i => exact s_index A t x i hr
  | makeMap t r => exact s_makeMap A t r hr
  | lookup t x i ok => exact s_lookup A t x i ok hr
  | mapUpdate t m k x => exact s_mapUpdate A t m k x hr
  | mapEntry t m k => exact s_mapEntry A t m k hr
  | entryStore t m k x => exact s_entryStore A t m k x hr
  | range t x => exact s_range A t x hr
  | next x b => exact s_next A x b hr
  | extract x i => exact s_extract A x i hr
  | typeAssert x t u ok => exact s_assert A x t u ok hr
  | call c =>
    obtain ⟨callee, args, ts⟩ := c
    cases callee with
    | builtin b =>
      cases b with
      | len => exact s_len A args ts hr
      | append => exact s_append A args ts hr
      | min => exact s_min A args ts hr
      | max => exact s_max A args ts hr
      | copy => exact s_copy A args ts hr
      | clear => exact s_clear A args ts hr
      | _ => exact hr.elim
    | _ => exact hr.elim
  | _ => exact hr.elim
end
end Go.Sx
/- The engine's walk is sound: what it asks for suffices for the model's own run. Conditions: none. -/
set_option linter.unusedVariables false
set_option linter.unusedSimpArgs false
namespace Go.Sx
open Go
section
variable {M : Mx} {η : Env} {w : World} {O : Hps} {nx : Nat}
theorem FrOK.mono {η η' : Env} {a : Act} {fr : Fr} (h : η <+: η') (k : FrOK η a fr) : FrOK η' a fr := fun t sv ht => (k t sv ht).mono h
theorem put_same {a : Act} {d : Nat} {u : Value} (h : d < a.tmps.size) : (a.put (some d) u).tmps.getD d undef = u := by
  simp [Act.put, Array.getD, h]
theorem put_other {a : Act} {d t : Nat} {u : Value} (h : t ≠ d) : (a.put (some d) u).tmps.getD t undef = a.tmps.getD t undef := by
  simp only [Act.put, Array.getD_eq_getD_getElem?]
  rw [Array.getElem?_setIfInBounds, if_neg (Ne.symm h)]
theorem put_size {a : Act} {d : Option Tmp} {u : Value} : (a.put d u).tmps.size = a.tmps.size := by
  cases d <;> simp [Act.put]
theorem put_defers {a : Act} {d : Option Tmp} {u : Value} : (a.put d u).defers = a.defers := by
  cases d <;> simp [Act.put]
theorem FrOK.put {a : Act} {fr : Fr} {d : Nat} {u : Value} {v : SV} (k : FrOK η a fr) (hd : d < a.tmps.size) (hv : Den η v u) : FrOK η (a.put (some d) u) ((d, v) :: fr) := by
  intro t sv ht
  rw [lkp_cons] at ht
  split at ht
  · rename_i e; subst e; injection ht with ht; subst ht
    rw [put_same hd]; exact hv
  · rename_i e; rw [put_other e]; exact k t sv ht
theorem FrOK.know {a : Act} {fr : Fr} {d : Nat} {v : SV} (k : FrOK η a fr) (hv : Den η v (a.tmps.getD d undef)) : FrOK η a ((d, v) :: fr) := by
  intro t sv ht
  rw [lkp_cons] at ht
  split at ht
  · rename_i e; subst e; injection ht with ht; subst ht; exact hv
  · exact k t sv ht
theorem dstOk_lt {N : Nat} {d : Nat} (h : dstOk N (some d) = true) : d < N := by
  simpa [dstOk] using h
def notDfs : SV → Bool
  | .dfs _ => false
  | _ => true
theorem DfOK.other {η : Env} {ds : List Deferred} {v : SV} (h : notDfs v = true) : DfOK η ds (some v) ↔ ds = [] := by
  cases v <;> first | exact Iff.rfl | cases h
theorem Models.know {fr : Fr} {a : Act} (K : Models M η fr O nx a w) {s : Nat} {u v : SV} (hs : lkp s fr = some u) (hu : notDfs u = true) (hv : notDfs v = true) (hd : Den η v (a.tmps.getD s undef)) : Models M η ((s, v) :: fr) O nx a w := by
  refine ⟨K.heap, K.size, K.nds, ?_, K.ro, K.frame.know hd⟩
  have h := K.defers
  rw [lkp_cons]
  split
  · rename_i e
    rw [e, hs, DfOK.other hu] at h
    rw [DfOK.other hv]; exact h
  · exact h
theorem lkp_ds {N d : Nat} {v : SV} {fr : Fr} (hd : dstOk N (some d) = true) (hN : N ≤ DS) : lkp DS ((d, v) :: fr) = lkp DS fr := by
  have h1 := dstOk_lt hd
  have h2 : DS ≠ d := fun e => Nat.lt_irrefl _ (Nat.lt_of_lt_of_le (e ▸ h1) hN)
  rw [lkp_cons, if_neg h2]
theorem ro_mono {η η' : Env} (hp : η <+: η') (h : ∀ l j, M.C.ro = some (l, j) → ∃ e, η[j]? = some (some e) ∧ e.g = l) : ∀ l j, M.C.ro = some (l, j) → ∃ e, η'[j]? = some (some e) ∧ e.g = l := fun l j hj =>
  let ⟨e, h1, h2⟩ := h l j hj; ⟨e, Env.get_mono (b := .loc j) hp h1, h2⟩
/-- The state, once a value has been put away. -/
theorem Models.put {fr : Fr} {a : Act} (K : Models M η fr O nx a w) {η' : Env} {O' : Hps} {nx' : Nat} {w' : World} {d : Option Tmp} {u : Value} {v : SV} (hd : dstOk M.C.N d = true) (hp : η <+: η') (hH : HeapOK M η' w' O' nx') (hv : Den η' v u) {Kp : Fr → Prop} (hk : putK d v fr Kp) :
    ∃ fr', Kp fr' ∧ Models M η' fr' O' nx' (a.put d u) w' := by
  cases d with
  | none => exact ⟨fr, hk, hH, by rw [put_size]; exact K.size, K.nds, by rw [put_defers]; exact K.defers.mono hp, ro_mono hp K.ro, K.frame.mono hp⟩
  | some d =>
    refine ⟨(d, v) :: fr, hk, hH, by rw [put_size]; exact K.size, K.nds, by rw [put_defers, lkp_ds hd K.nds]; exact K.defers.mono hp, ro_mono hp K.ro, (K.frame.mono hp).put ?_ hv⟩
    rw [K.size]; exact dstOk_lt hd
theorem yields_not_defer {P : Program} {o : Oper} {ρ : Operand → Value} {w w' : World} {u : Value} (h : Yields P o ρ w u w') : ∀ c, o.op ≠ .defer c := by
  intro c hc
  have key : ∀ (n : Next) (w' : World), (∀ d, n ≠ .defer d) → (execOp ρ o).run P w ≠ .ok n w' := by
    intro n w' hn he
    simp only [execOp, hc, Sem.run_bind] at he
    cases hr : (resolve ρ c o.type).run P w with
    | ok d w1 =>
      rw [hr] at he
      simp only [Result.andThen, Sem.run_pure] at he
      injection he with he _
      exact hn d he.symm
    | halt x w1 => rw [hr] at he; simp only [Result.andThen] at he; cases he
  rcases h with h | ⟨h, _⟩
  · exact key _ _ (fun d e => by cases e) h
  · exact key _ _ (fun d e => by cases e) h
theorem semAt_call {ro : Option Nat} {ρ : Operand → Value} {o : Oper} {c : Call} (h : o.op = .call c) : o.semAt ro ρ = execOp ρ o := Oper.semAt_eq _ _ _ fun c' hc => by rw [h] at hc; cases hc
theorem wp_yields {P : Program} {o : Oper} {a : Act} {w w' : World} {u : Value} {next : Act → World → Prop} {Q : Exit → Act → World → Prop} {F : Fence} (hF : ∀ f, F.fn f) (h : Yields P o a.eval w u w') (hn : next (a.put o.dst u) w') : o.wpIn F 0 P a w next Q := by
  refine ⟨fun f _ => hF f, ?_⟩
  rw [Oper.semAt_eq _ _ _ (yields_not_defer h)]
  rcases h with h | ⟨h, rfl⟩
  · rw [h]; exact hn
  · rw [h]; exact hn
theorem optAll_denL {lk : Operand → Option SV} {ρ : Operand → Value} {xs : List Operand} {svs : List SV} (hl : ∀ x sv, lk x = some sv → Den η sv (ρ x)) (h : optAll lk xs = some svs) : DenL η svs (xs.map ρ) := optAll_den hl h
/-- A call of a function. -/
theorem wp_call {o : Oper} {a : Act} {c : Call} {lk : Operand → Option SV} {f : FuncId} {args : List SV} {K : SV → Hps → Nat → Prop} {next : Act → World → Prop} {Q : Exit → Act → World → Prop} (ho : o.op = .call c) (H : HeapOK M η w O nx) (hl : ∀ x sv, lk x = some sv → Den η sv (a.eval x))
    (hc : callArgs lk c = some (f, args)) (hC : CALL M f args O nx K) (hn : ∀ v r O' nx' η' w', η <+: η' → HeapOK M η' w' O' nx' → Den η' r v → K r O' nx' → next (a.put o.dst v) w') : o.wpIn M.fence 0 M.P a w next Q := by
  unfold callArgs at hc
  split at hc
  case h_2 => cases hc
  rename_i ff hcal
  split at hc
  case h_2 => cases hc
  rename_i f' first cap args' hf hargs
  simp only [Option.some.injEq, Prod.mk.injEq] at hc
  obtain ⟨rfl, rfl⟩ := hc
  have hfd := hl _ _ hf
  simp only [Den] at hfd
  obtain ⟨us, vs, hfv, h1, h2⟩ := hfd
  have hall := denL_append (denL_append h1 (optAll_denL hl hargs)) h2
  have hexec : (execOp a.eval o).run M.P w = (callFunc f' ⟨us ++ c.args.toList.map a.eval ++ vs⟩).run M.P w := by
    have : (⟨us⟩ ++ c.args.map a.eval ++ ⟨vs⟩ : Array Value) = ⟨us ++ c.args.toList.map a.eval ++ vs⟩ := by apply Array.ext'; simp
    rw [← this]
    simp [execOp, ho, resolve, hcal, hfv, Deferred.ofValue, invoke]
  refine ⟨fun f _ => M.all f, ?_⟩
  rw [semAt_call ho, hexec]
  rcases hC.out η w _ H hall with ⟨g, hg, hcalls⟩ | ⟨v, w', hv, r, O', nx', η', h3, h4, h5, h6⟩
  · rw [hg]
    refine ⟨(fun h => by cases h), ?_⟩
    have hcalls : CallsIn M.fence (0 - 1) M.P g _ w _ := callsIn_wide.2 hcalls
    refine hcalls.mono fun e w' he => ?_
    obtain ⟨v, rfl, r, O', nx', η', h3, h4, h5, h6⟩ := he
    exact hn v r O' nx' η' w' h3 h4 h5 h6
  · rw [hv]
    exact hn v r O' nx' η' w' h3 h4 h5 h6
/-- A round. -/
theorem wp_round {o : Oper} {a : Act} {c : Call} {lk : Operand → Option SV} {j : Nat} {args : List SV} {K : SV → Hps → Nat → Prop} {next : Act → World → Prop} {Q : Exit → Act → World → Prop} (ho : o.op = .call c) (H : HeapOK M η w O nx) (hl : ∀ x sv, lk x = some sv → Den η sv (a.eval x))
    (hc : yieldArgs lk c = some (j, args)) (hC : YIELD M j args O nx K) (hn : ∀ v r O' nx' η' w', η <+: η' → HeapOK M η' w' O' nx' → Den η' r v → K r O' nx' → next (a.put o.dst v) w') : o.wpIn M.fence 0 M.P a w next Q := by
  unfold yieldArgs at hc
  split at hc
  case h_2 => cases hc
  rename_i ff hcal
  split at hc
  case h_2 => cases hc
  rename_i j' args' hf hargs
  simp only [Option.some.injEq, Prod.mk.injEq] at hc
  obtain ⟨rfl, rfl⟩ := hc
  have hfd := hl _ _ hf
  simp only [Den] at hfd
  obtain ⟨e, he, hfv⟩ := hfd
  have hall := optAll_denL hl hargs
  obtain ⟨fn, tmps, asg, body, hy, hr⟩ := hC.out η w _ e H hall he
  have hexec : (execOp a.eval o).run M.P w = (Instr.yield e.g ⟨c.args.toList.map a.eval⟩).run M.P w := by
    have : (#[] ++ c.args.map a.eval : Array Value) = ⟨c.args.toList.map a.eval⟩ := by apply Array.ext'; simp
    rw [← this]
    simp [execOp, ho, resolve, hcal, hfv, Deferred.ofValue, invoke]
  refine ⟨fun f _ => M.all f, ?_⟩
  rw [semAt_call ho, hexec, hy]
  refine ⟨(fun h => by cases h), ?_⟩
  have hr : RoundIn M.fence (0 - 1) M.P e.g fn tmps asg body w _ := hr
  refine hr.mono fun en w' he => ?_
  obtain ⟨v, rfl, r, O', nx', η', h3, h4, h5, h6⟩ := he
  exact hn v r O' nx' η' w' h3 h4 h5 h6
/-- One operation that is carried out. -/
theorem stepO_wp (hT : TabOK M.P M.C.T) {fr : Fr} {a : Act} (K : Models M η fr O nx a w) {o : Oper} {lk : Operand → Option SV} (hl : ∀ x sv, lk x = some sv → Den η sv (a.eval x)) {K' : SV → Hps → Nat → Prop} (h : stepO M o lk O nx K') {next : Act → World → Prop} {Q : Exit → Act → World → Prop}
    (hn : ∀ u v O' nx' η' w', dstOk M.C.N o.dst = true → η <+: η' → HeapOK M η' w' O' nx' → Den η' v u → K' v O' nx' → next (a.put o.dst u) w') : o.wpIn M.fence 0 M.P a w next Q := by
  unfold stepO at h
  split at h
  · exact h.out.elim
  rename_i hd
  have main : ∀ {op : Op}, o.op = op → (opR M.C lk O nx op).go O nx K' → o.wpIn M.fence 0 M.P a w next Q := by
    intro op ho h
    subst ho
    obtain ⟨v, O', nx', h1, h2⟩ := Res.go_ok h
    obtain ⟨u, w', η', h3, h4, h5, h6, _⟩ := op_sound ⟨K.heap, hT, hl⟩ o h1
    exact wp_yields M.all h3 (hn u v O' nx' η' w' hd h4 h5 h6 h2)
  split at h
  · rename_i c ho
    split at h
    · exact main ho h
    · split at h
      · rename_i f args hc
        rw [force1L_iff] at h
        refine wp_call ho K.heap hl hc h fun v r O' nx' η' w' h1 h2 h3 h4 => ?_
        rw [force_iff, forceO_iff] at h4
        exact hn v r O' nx' η' w' hd h1 h2 h3 h4
      · split at h
        · rename_i j args hc
          rw [force1L_iff] at h
          refine wp_round ho K.heap hl hc h fun v r O' nx' η' w' h1 h2 h3 h4 => ?_
          rw [force_iff, forceO_iff] at h4
          exact hn v r O' nx' η' w' hd h1 h2 h3 h4
        · exact h.out.elim
  · exact main rfl h
theorem yielded_of {ops : Array Oper} {a : Act} {j s : Nat} (h : slotOf ops.toList j = some s) {b : Bool} (hb : a.tmps.getD s undef = .bool b) : yielded ops a.tmps j = some b := by
  unfold slotOf at h
  rw [nth_get] at h
  unfold yielded
  cases ho : ops.toList[j]? with
  | none => rw [ho] at h; cases h
  | some o =>
    rw [ho] at h
    simp only at h
    have ho' : ops[j]? = some o := by simpa using ho
    have hs : s < a.tmps.size := by
      rcases Nat.lt_or_ge s a.tmps.size with hlt | hge
      · exact hlt
      · rw [Array.getD_eq_getD_getElem?, Array.getElem?_eq_none hge] at hb; cases hb
    rw [Array.getD_eq_getD_getElem?, Array.getElem?_eq_getElem hs] at hb
    simp only [Option.getD_some] at hb
    simp [ho', h, Array.getElem?_eq_getElem hs, hb]
theorem yielded_not {ops : Array Oper} {a : Act} {j s : Nat} (h : slotOf ops.toList j = some s) {want : Bool} (hb : a.tmps.getD s undef ≠ .bool want) : yielded ops a.tmps j ≠ some want := by
  unfold slotOf at h
  rw [nth_get] at h
  unfold yielded
  cases ho : ops.toList[j]? with
  | none => rw [ho] at h; cases h
  | some o =>
    rw [ho] at h
    simp only at h
    have ho' : ops[j]? = some o := by simpa using ho
    simp only [ho', Option.bind_some, h]
    intro hy
    split at hy
    · rename_i b hq
      injection hy with hy
      subst hy
      apply hb
      rw [Array.getD_eq_getD_getElem?, hq]; rfl
    · cases hy
theorem wpList_want {P : Program} {ops : Array Oper} {Q : Exit → Act → World → Prop} {a : Act} {w : World} {rest : List Oper} {o : Oper} (hw : Region.wanted o (yielded ops a.tmps) = true) {F : Fence} (h : o.wpIn F 0 P a w (wpListIn F 0 P ops Q rest) Q) : wpListIn F 0 P ops Q (o :: rest) a w := by
  unfold wpListIn; rw [if_pos hw]; exact h
theorem wpList_skip' {P : Program} {ops : Array Oper} {Q : Exit → Act → World → Prop} {a : Act} {w : World} {rest : List Oper} {o : Oper} (hw : ¬ Region.wanted o (yielded ops a.tmps) = true) {F : Fence} (hF : ∀ f, F.fn f) (h : wpListIn F 0 P ops Q rest (a.put o.dst undef) w) : wpListIn F 0 P ops Q (o :: rest) a w := by
  unfold wpListIn; rw [if_neg hw]; exact ⟨fun f _ => hF f, h⟩
theorem wanted_none {o : Oper} {y : Nat → Option Bool} (h : o.guard = none) : Region.wanted o y = true := by simp [Region.wanted, h]
theorem wanted_some {o : Oper} {y : Nat → Option Bool} {j : Nat} {b : Bool} (h : o.guard = some (j, b)) : Region.wanted o y = true ↔ y j = some b := by simp [Region.wanted, h]
theorem runS_sound (hT : TabOK M.P M.C.T) {ops : Array Oper} {Q : Exit → Act → World → Prop} : ∀ (rest : List Oper) {fr : Fr} {O : Hps} {nx : Nat} {K : Fr → Hps → Nat → Prop}, runS M ops.toList rest fr O nx K →
    ∀ {η : Env} {a : Act} {w : World}, Models M η fr O nx a w → (∀ η fr O nx a w, Models M η fr O nx a w → K fr O nx → Q .normal a w) → wpListIn M.fence 0 M.P ops Q rest a w
  | [], fr, O, nx, K, h, η, a, w, hm, hq => hq η fr O nx a w hm h
  | o :: rest, fr, O, nx, K, h, η, a, w, hm, hq => by
    unfold runS at h
    have step : ∀ {fr' : Fr}, Models M η fr' O nx a w → stepO M o (lookF fr') O nx (fun v O nx => putK o.dst v fr' fun fr => runS M ops.toList rest fr O nx K) → o.wpIn M.fence 0 M.P a w (wpListIn M.fence 0 M.P ops Q rest) Q := by
      intro fr' hm' h
      refine stepO_wp hT hm' (fun x sv hx => lookF_den hm'.frame hx) h fun u v O' nx' η' w' hd hp hH hv hk => ?_
      obtain ⟨fr2, h1, h2⟩ := hm'.put hd hp hH hv hk
      exact runS_sound hT rest h1 h2 hq
    have skip : ∀ {fr' : Fr}, Models M η fr' O nx a w → (match dstOk M.C.N o.dst with | true => putK o.dst undefS fr' fun fr => runS M ops.toList rest fr O nx K | false => STOP "slot") → wpListIn M.fence 0 M.P ops Q rest (a.put o.dst undef) w := by
      intro fr' hm' h
      split at h
      · rename_i hd
        obtain ⟨fr2, h1, h2⟩ := hm'.put hd List.prefix_rfl hm'.heap (denNone η) h
        exact runS_sound hT rest h1 h2 hq
      · exact h.out.elim
    split at h
    · rename_i hg
      exact wpList_want (wanted_none hg) (step hm h)
    · rename_i j want hg
      split at h
      · exact h.out.elim
      rename_i s hs
      split at h
      · rename_i b hb
        have hbv := denBool (hm.frame s _ hb)
        have hy := yielded_of hs hbv
        cases b with
        | true =>
          have h := h.t rfl
          have hm' : Models M η ((s, .bool true) :: fr) O nx a w := hm.know hb rfl rfl hbv
          cases want with
          | true => exact wpList_want ((wanted_some hg).2 hy) (step hm' h)
          | false => exact wpList_skip' (hF := M.all) (fun hw => by rw [wanted_some hg, hy] at hw; cases hw) (skip hm' h)
        | false =>
          have h := h.f rfl
          have hm' : Models M η ((s, .bool false) :: fr) O nx a w := hm.know hb rfl rfl hbv
          cases want with
          | false => exact wpList_want ((wanted_some hg).2 hy) (step hm' h)
          | true => exact wpList_skip' (hF := M.all) (fun hw => by rw [wanted_some hg, hy] at hw; cases hw) (skip hm' h)
      · rename_i hb
        have hbv := hm.frame s _ hb
        simp only [Den, DenL] at hbv
        obtain ⟨vs, hbv, rfl⟩ := hbv
        exact wpList_skip' (hF := M.all) (fun hw => by rw [wanted_some hg] at hw; exact yielded_not hs (by rw [hbv]; simp) hw) (skip hm h)
      · exact h.out.elim
end
end Go.Sx
/- The engine's walk is sound: guarded operations that only compute; the code; loops, calls, the way into a function and out of it. Conditions: none. -/
set_option linter.unusedVariables false
set_option linter.unusedSimpArgs false
namespace Go.Sx
open Go
section
variable {M : Mx} {η : Env} {w : World} {O : Hps} {nx : Nat}
theorem PathOK.sub {a : Act} : ∀ {p q : List (Nat × Bool)}, subPath p q = true → PathOK a q → PathOK a p
  | [], q, _, _ => fun x hx => by cases hx
  | (s, b) :: p, q, h, hq => by
    simp only [subPath, Bool.and_eq_true, List.any_eq_true] at h
    obtain ⟨⟨x, hx, h1⟩, h2⟩ := h
    have h3 := beq_eq h1.1
    have h4 : x.2 = b := by simpa using h1.2
    intro y hy
    rcases List.mem_cons.1 hy with rfl | hy
    · have := hq x hx; rw [h3, h4] at this; exact this
    · exact PathOK.sub h2 hq y hy
theorem lookG_den {a : Act} {fr : Fr} {gs : Gs} {path : List (Nat × Bool)} (hf : FrOK η a fr) (hg : GsOK η a gs) (hp : PathOK a path) {x : Operand} {sv : SV} (hx : lookG fr gs path x = some sv) : Den η sv (a.eval x) := by
  cases x with
  | tmp t =>
    simp only [lookG] at hx
    split at hx
    · rename_i q v hq
      split at hx
      · rename_i hs
        injection hx with hx
        subst hx
        exact (hg t q v hq).1 (PathOK.sub hs hp)
      · cases hx
    · exact hf t sv hx
  | const v => exact lookF_den hf hx
  | global g => exact lookF_den hf hx
  | func f => exact lookF_den hf hx
theorem pathBool_true {a : Act} {fr : Fr} {gs : Gs} (hf : FrOK η a fr) (hg : GsOK η a gs) : ∀ {path : List (Nat × Bool)} {g : Bool}, pathBool fr gs path = some g → PathOK a path → g = true
  | [], g, h, _ => by simp only [pathBool, Option.some.injEq] at h; exact h.symm
  | (s, want) :: r, g, h, hp => by
    have hpr : PathOK a r := fun x hx => hp x (List.mem_cons_of_mem _ hx)
    simp only [pathBool] at h
    split at h
    case h_2 => cases h
    rename_i b hb
    have hbv := denBool (lookG_den hf hg hpr hb)
    have hsv := hp (s, want) (List.mem_cons_self ..)
    simp only [Act.eval] at hbv
    rw [hbv] at hsv
    injection hsv with hsv
    simp only at hsv
    split at h
    case h_2 => cases h
    rename_i x hx
    have hxt := pathBool_true hf hg hx hpr
    subst hxt hsv
    cases b <;> simp at h <;> exact h
theorem gPath_ok {a : Act} {gs : Gs} (hg : GsOK η a gs) {s : Nat} {want : Bool} (h : a.tmps.getD s undef = .bool want) : PathOK a (gPath gs s want) := by
  intro x hx
  unfold gPath at hx
  rcases List.mem_cons.1 hx with rfl | hx
  · exact h
  · split at hx
    · rename_i q v hq
      by_cases hp : PathOK a q
      · exact hp x hx
      · have := (hg s q v hq).2 hp
        rw [h] at this; cases this
    · cases hx
theorem PathOK.put {a : Act} {d : Nat} {u : Value} {p : List (Nat × Bool)} (h : notIn d p = true) : PathOK (a.put (some d) u) p ↔ PathOK a p := by
  unfold notIn at h
  have key : ∀ x ∈ p, (a.put (some d) u).tmps.getD x.1 undef = a.tmps.getD x.1 undef := by
    intro x hx
    have := (List.all_eq_true.1 h) x hx
    have hne : x.1 ≠ d := ne_of_beq (by simpa using this)
    exact put_other hne
  exact ⟨fun k x hx => by rw [← key x hx]; exact k x hx, fun k x hx => by rw [key x hx]; exact k x hx⟩
theorem lkp_mem {α : Type} : ∀ {l : List (Nat × α)} {t : Nat} {v : α}, lkp t l = some v → (t, v) ∈ l
  | [], t, v, h => by simp [lkp] at h
  | (d, u) :: r, t, v, h => by
    rw [lkp_cons] at h
    split at h
    · rename_i e; subst e; injection h with h; subst h; exact List.mem_cons_self ..
    · exact List.mem_cons_of_mem _ (lkp_mem h)
theorem GsOK.put {a : Act} {gs : Gs} (hg : GsOK η a gs) {η' : Env} (hp : η <+: η') {d : Option Tmp} {u : Value} (hd : freshG d gs = true) : GsOK η' (a.put d u) gs := by
  cases d with
  | none => exact fun t p sv h => ⟨fun k => ((hg t p sv h).1 k).mono hp, (hg t p sv h).2⟩
  | some d =>
    intro t p sv h
    have hm := lkp_mem h
    have := (List.all_eq_true.1 hd) _ hm
    simp only [Bool.and_eq_true] at this
    have hne : t ≠ d := ne_of_beq (by simpa using this.1)
    have hn : notIn d p = true := this.2
    rw [PathOK.put hn, put_other hne]
    exact ⟨fun k => ((hg t p sv h).1 k).mono hp, (hg t p sv h).2⟩
theorem Res.gg_ok {g : Prop} : ∀ {r : Res} {K : SV → Prop}, r.gg g K → ∃ v, (g → ∀ O nx, r.ok O nx v O nx) ∧ K v
  | .val v, K, h => by simp only [Res.gg, force_iff] at h; exact ⟨v, fun _ _ _ => ⟨rfl, rfl, rfl⟩, h⟩
  | .need p k, K, h => by
    simp only [Res.gg] at h
    obtain ⟨v, h1, h2⟩ := Res.gg_ok h.k
    exact ⟨v, fun hg O nx => ⟨h.p hg, h1 hg O nx⟩, h2⟩
  | .get rs i f, K, h => by
    simp only [Res.gg, forceL_iff] at h
    obtain ⟨row, hr, h⟩ := h.out
    obtain ⟨v, h1, h2⟩ := Res.gg_ok h
    exact ⟨v, fun hg O nx => ⟨row, hr hg, h1 hg O nx⟩, h2⟩
  | .new _ _, _, h => h.out.elim
  | .upd _ _ _, _, h => h.out.elim
  | .repl _ _ _, _, h => h.out.elim
  | .ite _ _ _, _, h => h.out.elim
  | .fail, _, h => h.out.elim
theorem opG_sound (hT : TabOK M.P M.C.T) {a : Act} {fr : Fr} {gs : Gs} {path : List (Nat × Bool)} (H : HeapOK M η w O nx) (hf : FrOK η a fr) (hg : GsOK η a gs) (hp : PathOK a path) (o : Oper) {v : SV} {O' : Hps} {nx' : Nat} (hr : (opG M.C fr gs path O nx o.op).ok O nx v O' nx') : Sound M η w o a.eval v O' nx' := by
  have A : At M η w O nx a.eval (lookG fr gs path) := ⟨H, hT, fun x sv hx => lookG_den hf hg hp hx⟩
  obtain ⟨dst, op, ty, pos, af, gd⟩ := o
  cases op with
  | pick c x y =>
    simp only [opG, pickR] at hr
    split at hr
    case h_2 => exact hr.elim
    rename_i s
    split at hr
    case h_2 => exact hr.elim
    rename_i b hb
    have hbv := denBool (A.L _ _ hb)
    split at hr
    case h_2 => exact hr.elim
    rename_i p q hx hy
    refine A.val hr ⟨.bool (bif b then p else q), .inl ?_, rfl⟩
    cases b with
    | true =>
      have h2 := denBool (lookG_den hf hg (path := (s, true) :: path) (fun z hz => by
        rcases List.mem_cons.1 hz with rfl | hz
        · exact hbv
        · exact hp z hz) hx)
      simp [execOp, hbv, h2, asBool]
    | false =>
      have h2 := denBool (lookG_den hf hg (path := (s, false) :: path) (fun z hz => by
        rcases List.mem_cons.1 hz with rfl | hz
        · exact hbv
        · exact hp z hz) hy)
      simp [execOp, hbv, h2, asBool]
  | _ => exact op_sound A _ hr
theorem runG_sound (hT : TabOK M.P M.C.T) {ops : Array Oper} {Q : Exit → Act → World → Prop} : ∀ (rest : List Oper) {fr : Fr} {gs : Gs} {O : Hps} {nx : Nat} {K : Fr → Hps → Nat → Prop}, runG M ops.toList rest fr gs O nx K →
    ∀ {η : Env} {a : Act} {w : World}, Models M η fr O nx a w → GsOK η a gs → (∀ η fr O nx a w, Models M η fr O nx a w → K fr O nx → Q .normal a w) → wpListIn M.fence 0 M.P ops Q rest a w
  | [], fr, gs, O, nx, K, h, η, a, w, hm, hg, hq => hq η fr O nx a w hm h
  | o :: rest, fr, gs, O, nx, K, h, η, a, w, hm, hg, hq => by
    unfold runG at h
    split at h
    · exact h.out.elim
    rename_i hd
    split at h
    · exact h.out.elim
    rename_i hfresh
    split at h
    · rename_i hgu
      refine wpList_want (wanted_none hgu) ?_
      have main : ∀ {op : Op}, o.op = op → ((opG M.C fr gs [] O nx op).go O nx fun v O nx => putK o.dst v fr fun fr => runG M ops.toList rest fr gs O nx K) → o.wpIn M.fence 0 M.P a w (wpListIn M.fence 0 M.P ops Q rest) Q := by
        intro op ho h
        subst ho
        obtain ⟨v, O', nx', h1, h2⟩ := Res.go_ok h
        obtain ⟨u, w', η', h3, h4, h5, h6, _⟩ := opG_sound hT hm.heap hm.frame hg (fun x hx => by cases hx) o h1
        obtain ⟨fr2, h7, h8⟩ := hm.put hd h4 h5 h6 h2
        exact wp_yields M.all h3 (runG_sound hT rest h7 h8 (hg.put h4 hfresh) hq)
      split at h
      · rename_i c ho
        split at h
        · exact main ho h
        · split at h
          · rename_i f args hc
            rw [force1L_iff] at h
            refine wp_call ho hm.heap (fun x sv hx => lookG_den hm.frame hg (fun x hx => by cases hx) hx) hc h fun v r O' nx' η' w' h1 h2 h3 h4 => ?_
            rw [force_iff, forceO_iff] at h4
            obtain ⟨fr2, h7, h8⟩ := hm.put hd h1 h2 h3 h4
            exact runG_sound hT rest h7 h8 (hg.put h1 hfresh) hq
          · exact h.out.elim
      · exact main rfl h
    · rename_i j want hgu
      split at h
      · exact h.out.elim
      rename_i s hs
      split at h
      · exact h.out.elim
      rename_i d hdd
      split at h
      · exact h.out.elim
      rename_i hnot
      split at h
      · exact h.out.elim
      rename_i g hgb
      obtain ⟨v, h1, h2⟩ := Res.gg_ok h
      rw [hdd] at hd hfresh
      have hlt : d < a.tmps.size := by rw [hm.size]; exact dstOk_lt hd
      -- the state behind it, whichever way
      have next : ∀ {η' : Env} {u : Value} {w' : World}, η <+: η' → HeapOK M η' w' O nx → (PathOK a (gPath gs s want) → Den η' v u) → (¬ PathOK a (gPath gs s want) → u = undef) → wpListIn M.fence 0 M.P ops Q rest (a.put o.dst u) w' := by
        intro η' u w' hp hH hv hn
        rw [hdd]
        refine runG_sound hT rest h2 ⟨hH, by rw [put_size]; exact hm.size, hm.nds, by rw [put_defers, lkp_ds hd hm.nds]; exact hm.defers.mono hp, ro_mono hp hm.ro, (hm.frame.mono hp).put hlt (by simp only [Den])⟩ ?_ hq
        intro t p sv ht
        rw [lkp_cons] at ht
        split at ht
        · rename_i e
          subst e
          injection ht with ht
          injection ht with ht1 ht2
          subst ht1 ht2
          rw [PathOK.put hnot, put_same hlt]
          exact ⟨hv, hn⟩
        · exact (hg.put (u := u) hp hfresh) t p sv ht
      by_cases hw : a.tmps.getD s undef = .bool want
      · have hp := gPath_ok hg hw
        have hgt := pathBool_true hm.frame hg hgb hp
        obtain ⟨u, w', η', h3, h4, h5, h6, _⟩ := opG_sound hT hm.heap hm.frame hg hp o (h1 hgt O nx)
        exact wpList_want ((wanted_some hgu).2 (yielded_of hs hw)) (wp_yields M.all h3 (next h4 h5 (fun _ => h6) (fun h => absurd hp h)))
      · have hnp : ¬ PathOK a (gPath gs s want) := fun hp => hw (hp (s, want) (List.mem_cons_self ..))
        exact wpList_skip' (hF := M.all) (fun hh => by rw [wanted_some hgu] at hh; exact yielded_not hs hw hh) (next List.prefix_rfl hm.heap (fun h => absurd h hnp) (fun _ => rfl))
theorem scope_straightIn {F : Fence} {P : Program} {Q : Exit → Act → World → Prop} {a : Act} {w : World} {c : Code} (h : c.wpIn F 0 P (Exit.noGoto Q) a w) : (Code.scope c).wpIn F 0 P Q a w := by
  have s1 : ∀ {b : Frame} {a : Act} {k : List Item} {cs : List Frame} {w : World}, step P (lone (b.atR a (.code (.scope c) :: k)) cs w) = .next (lone (b.atR a (.code c :: .inScope c :: k)) cs w) := step_lone_go (by simp [stepG, stepG.exec, Frame.atR])
  have s2 : ∀ {b : Frame} {a : Act} {k : List Item} {cs : List Frame} {w : World}, step P (lone (b.atR a (.inScope c :: k)) cs w) = .next (lone (b.atR a k) cs w) := step_lone_go (by simp [stepG, stepG.exec, Frame.atR])
  intro b k cs hro hb hr
  have h0 : (lone (b.atR a (.code (.scope c) :: k)) cs w).fenced P F := fenced_calm hb hr rfl
  obtain ⟨e, a₁, w₁, hq, harr⟩ := h b (.inScope c :: k) cs hro hb hr
  cases e with
  | normal => exact ⟨.normal, a₁, w₁, hq, .head h0 s1 (StepsIn.trans harr (.one (fenced_calm hb hr rfl) s2))⟩
  | exit id =>
    have hx : exitTo id (.inScope c :: k) = exitTo id k := by simp [exitTo]
    exact ⟨.exit id, a₁, w₁, hq, fun k' hk => .head h0 s1 (harr.1 k' (by rw [hx]; exact hk)), fun hr' hk => let ⟨k₁, h1, h2⟩ := harr.2 hr' (by rw [hx]; exact hk); ⟨k₁, h1, .head h0 s1 h2⟩⟩
  | goto l => exact hq.elim
  | ret => exact ⟨_, a₁, w₁, hq, .of_steps (.one h0 s1) harr⟩
  | panic ch => exact ⟨_, a₁, w₁, hq, .of_steps (.one h0 s1) harr⟩
  | outgrown => exact ⟨_, a₁, w₁, hq, .of_steps (.one h0 s1) harr⟩
theorem region_sound (hT : TabOK M.P M.C.T) {id : Nat} {ops : Array Oper} {fr : Fr} {K : Fr → Hps → Nat → Prop} {Q : Exit → Act → World → Prop}
    (h : match guarded ops.toList && !(loudly ops.toList) with | true => runG M ops.toList ops.toList fr [] O nx K | false => runS M ops.toList ops.toList fr O nx K) {a : Act} (hm : Models M η fr O nx a w) (hq : ∀ η fr O nx a w, Models M η fr O nx a w → K fr O nx → Q .normal a w) :
    (Code.region id ops false).wpIn M.fence 0 M.P Q a w := by
  refine wpIn_region_list ?_
  split at h
  · exact runG_sound hT _ h hm (fun t p sv ht => by simp [lkp] at ht) hq
  · exact runS_sound hT _ h hm hq
/-- THE WALK IS SOUND. -/
theorem run_sound (hT : TabOK M.P M.C.T) : ∀ (c : Code) {fr : Fr} {O : Hps} {nx : Nat} {Q : Post}, run M c fr O nx Q → Walk M c fr O nx Q
  | .skip, fr, O, nx, Q, h => fun η a w hm => wpIn_skip ⟨η, fr, O, nx, hm, h⟩
  | .label l, fr, O, nx, Q, h => fun η a w hm => wpIn_label ⟨η, fr, O, nx, hm, h⟩
  | .ret, fr, O, nx, Q, h => fun η a w hm => wpIn_ret ⟨η, fr, O, nx, hm, h⟩
  | .exit id, fr, O, nx, Q, h => fun η a w hm => wpIn_exit ⟨η, fr, O, nx, hm, h⟩
  | .region id ops draw, fr, O, nx, Q, h => by
    simp only [run] at h
    cases draw with
    | true => exact h.out
    | false => exact fun η a w hm => region_sound hT h hm fun η fr O nx a w hm hk => ⟨η, fr, O, nx, hm, hk⟩
  | .seq x y, fr, O, nx, Q, h => fun η a w hm => by
    refine wpIn_seq (Code.wpIn_mono ?_ (run_sound hT x h η a w hm))
    intro e a w hq
    cases e with
    | normal => obtain ⟨η, fr, O, nx, hm, hq⟩ := hq; exact run_sound hT y hq η a w hm
    | exit id => exact hq
    | ret => exact hq
    | goto l => exact hq
    | panic ch => exact hq
    | outgrown => exact hq
  | .cond c x y, fr, O, nx, Q, h => fun η a w hm => by
    simp only [run] at h
    split at h
    case h_3 => exact h.out.elim
    case h_2 n hb =>
      have hbv := lookF_den hm.frame hb
      simp only [Den] at hbv
      obtain ⟨b, hbv, h0⟩ := hbv
      split at h
      case h_2 => exact h.out.elim
      rename_i t
      refine wpIn_cond_split hbv (fun e => ?_) (fun e => ?_)
      · subst e
        exact run_sound hT x (h.t (h0 rfl)) η a w (hm.know (s := t) (show lkp t fr = _ from hb) rfl rfl hbv)
      · subst e
        exact run_sound hT y h.f η a w (hm.know (s := t) (show lkp t fr = _ from hb) rfl rfl hbv)
    rename_i b hb
    have hbv := denBool (lookF_den hm.frame hb)
    split at h
    · rename_i t
      refine wpIn_cond_split hbv (fun e => ?_) (fun e => ?_)
      · subst e
        exact run_sound hT x (h.t rfl) η a w (hm.know (s := t) (show lkp t fr = _ from hb) rfl rfl hbv)
      · subst e
        exact run_sound hT y (h.f rfl) η a w (hm.know (s := t) (show lkp t fr = _ from hb) rfl rfl hbv)
    · refine wpIn_cond_split hbv (fun e => ?_) (fun e => ?_)
      · subst e; exact run_sound hT x (h.t rfl) η a w hm
      · subst e; exact run_sound hT y (h.f rfl) η a w hm
  | .block id body, fr, O, nx, Q, h => fun η a w hm => by
    refine wpIn_block (Code.wpIn_mono ?_ (run_sound hT body h η a w hm))
    intro e a w hq
    cases e with
    | normal => exact hq
    | exit i =>
      obtain ⟨η, fr, O, nx, hm, hq⟩ := hq
      simp only [Exit.inBlock]
      simp only at hq
      split at hq
      · rename_i e
        have e := beq_eq e
        subst e
        rw [if_pos rfl]
        exact ⟨η, fr, O, nx, hm, hq⟩
      · rename_i e
        rw [if_neg (ne_of_beq e)]
        exact ⟨η, fr, O, nx, hm, hq⟩
    | ret => exact hq
    | goto l => exact hq
    | panic ch => exact hq
    | outgrown => exact hq
  | .loop body, fr, O, nx, Q, h => fun η a w hm b k cs hro hb hr =>
    let ⟨e, a', w', hq, harr⟩ := h.out η a w hm b k cs hro
    ⟨e, a', w', hq, .of_steps (.one (fenced_calm hb hr rfl) stepR_loop) harr⟩
  | .scope body, fr, O, nx, Q, h => fun η a w hm => by
    refine scope_straightIn (Code.wpIn_mono ?_ (run_sound hT body h η a w hm))
    intro e a w hq
    cases e <;> exact hq
  | .rangeFunc f ps asg body, fr, O, nx, Q, h => h.out
  | .goto _, fr, O, nx, Q, h => h.out.elim
  | .refuse _, fr, O, nx, Q, h => h.out.elim
/-- From one state to another that says less. -/
structure GOES (M : Mx) (fr : Fr) (O : Hps) (nx : Nat) (fr' : Fr) (O' : Hps) (nx' : Nat) : Prop where
  out : ∀ η a w, Models M η fr O nx a w → ∃ η', Models M η' fr' O' nx' a w
/-- A loop: what holds at each round's head, by a tale x of one's own; a measure that each round lowers. -/
theorem LOOP.inv {body : Code} {fr : Fr} {Q : Post} (hT : TabOK M.P M.C.T) {X : Type} (P : X → Prop) (I : X → Fr × Hps × Nat) (μ : X → Nat) (x0 : X) (hP : P x0) (h0 : GOES M fr O nx (I x0).1 (I x0).2.1 (I x0).2.2)
    (hr : ∀ x, P x → run M body (I x).1 (I x).2.1 (I x).2.2 fun e fr O nx => match e with
      | .normal => ∃ x', P x' ∧ μ x' < μ x ∧ GOES M fr O nx (I x').1 (I x').2.1 (I x').2.2
      | e => Q e fr O nx) : LOOP M body fr O nx Q := by
  refine ⟨fun η a w hm => ?_⟩
  obtain ⟨η', hm0⟩ := h0.out η a w hm
  intro b k cs hro
  have hb : M.fence.fn b.fn := M.all _
  have hrm : M.fence.room (cs.length + 1 + 0) := M.room _
  have key : ∀ n x η a w, P x → μ x = n → Models M η (I x).1 (I x).2.1 (I x).2.2 a w →
      ∃ e a' w', liftQ M Q e a' w' ∧ ArrivesIn (Machine.fenced M.P M.fence) M.P (lone (b.atR a (.code body :: .inLoop body :: k)) cs w) b k cs e a' w' := by
    intro n
    induction n using Nat.strongRecOn with
    | _ n ih =>
      intro x η a w hx hn hm
      obtain ⟨e, a', w', hq, harr⟩ := run_sound hT body (hr x hx) η a w hm b (.inLoop body :: k) cs hro hb hrm
      cases e with
      | normal =>
        obtain ⟨η1, fr1, O1, nx1, hm1, x', hx', hlt, hnext⟩ := hq
        obtain ⟨η2, hm2⟩ := hnext.out η1 a' w' hm1
        obtain ⟨e2, a2, w2, hq2, harr2⟩ := ih (μ x') (hn ▸ hlt) x' η2 a' w' hx' rfl hm2
        exact ⟨e2, a2, w2, hq2, .of_steps (StepsIn.trans harr (.one (fenced_calm hb hrm rfl) stepR_inLoop)) harr2⟩
      | exit id =>
        obtain ⟨η1, fr1, O1, nx1, hm1, hq⟩ := hq
        exact ⟨.exit id, a', w', ⟨η1, fr1, O1, nx1, hm1, hq⟩, .pass (x := .inLoop body) rfl (fun _ _ => .inl (by simp)) harr⟩
      | ret =>
        obtain ⟨η1, fr1, O1, nx1, hm1, hq⟩ := hq
        exact ⟨.ret, a', w', ⟨η1, fr1, O1, nx1, hm1, hq⟩, .pass (x := .inLoop body) rfl (fun _ _ => .inl (by simp)) harr⟩
      | goto l => exact hq.elim
      | panic ch => exact hq.elim
      | outgrown => exact hq.elim
  exact key _ x0 η' a w hP rfl hm0
/-- One round of a loop, and what is left of it. -/
theorem LOOP.once {body : Code} {fr : Fr} {Q : Post} (hT : TabOK M.P M.C.T)
    (hr : run M body fr O nx fun e fr O nx => match e with
      | .normal => LOOP M body fr O nx Q
      | e => Q e fr O nx) : LOOP M body fr O nx Q := by
  refine ⟨fun η a w hm => ?_⟩
  intro b k cs hro
  have hb : M.fence.fn b.fn := M.all _
  have hrm : M.fence.room (cs.length + 1 + 0) := M.room _
  obtain ⟨e, a', w', hq, harr⟩ := run_sound hT body hr η a w hm b (.inLoop body :: k) cs hro hb hrm
  cases e with
  | normal =>
    obtain ⟨η1, fr1, O1, nx1, hm1, hq⟩ := hq
    obtain ⟨e2, a2, w2, hq2, harr2⟩ := hq.out η1 a' w' hm1 b k cs hro
    exact ⟨e2, a2, w2, hq2, .of_steps (StepsIn.trans harr (.one (fenced_calm hb hrm rfl) stepR_inLoop)) harr2⟩
  | exit id =>
    obtain ⟨η1, fr1, O1, nx1, hm1, hq⟩ := hq
    exact ⟨.exit id, a', w', ⟨η1, fr1, O1, nx1, hm1, hq⟩, (.pass (x := .inLoop body) rfl (fun _ _ => .inl (by simp)) harr)⟩
  | ret =>
    obtain ⟨η1, fr1, O1, nx1, hm1, hq⟩ := hq
    exact ⟨.ret, a', w', ⟨η1, fr1, O1, nx1, hm1, hq⟩, (.pass (x := .inLoop body) rfl (fun _ _ => .inl (by simp)) harr)⟩
  | goto l => exact hq.elim
  | panic ch => exact hq.elim
  | outgrown => exact hq.elim
end
end Go.Sx
/- Contracts: what a function comes to, said in names of its own; how it is shown by the walk, and how it is used at a call. Conditions: none. -/
set_option linter.unusedVariables false
set_option linter.unusedSimpArgs false
namespace Go.Sx
open Go

/-! ### Other names for the same blocks -/
def renB (σ : Nat → Nat) : Blk → Blk
  | .glob g => .glob g
  | .loc i => .loc (σ i)
mutual
def ren (σ : Nat → Nat) : SV → SV
  | .bool b => .bool b
  | .int k n => .int k n
  | .str s => .str s
  | .ptr b r es c => .ptr (renB σ b) r es c
  | .sl b r es len lim => .sl (renB σ b) r es len lim
  | .val v => .val v
  | .agg cs => .agg (renL σ cs)
  | .arr es rs => .arr es (renLL σ rs)
  | .tup vs => .tup (renL σ vs)
  | .ifc t v => .ifc t (ren σ v)
  | .fn f a b => .fn f (renL σ a) (renL σ b)
  | .mp b => .mp (renB σ b)
  | .any => .any
  | .nb n => .nb n
  | .yf b => .yf (renB σ b)
  | .dfs l => .dfs (renL σ l)
def renL (σ : Nat → Nat) : List SV → List SV
  | [] => []
  | c :: cs => ren σ c :: renL σ cs
def renLL (σ : Nat → Nat) : List (List SV) → List (List SV)
  | [] => []
  | r :: rs => renL σ r :: renLL σ rs
end
def renF (σ : Nat → Nat) : Fr → Fr
  | [] => []
  | (t, v) :: r => (t, ren σ v) :: renF σ r
def renC (σ : Nat → Nat) : DC → DC
  | .v s => .v (ren σ s)
  | .kid es rows => .kid es (renLL σ rows)
def renCL (σ : Nat → Nat) : List DC → List DC
  | [] => []
  | c :: cs => renC σ c :: renCL σ cs
def renCLL (σ : Nat → Nat) : List (List DC) → List (List DC)
  | [] => []
  | r :: rs => renCL σ r :: renCLL σ rs
theorem renCL_map (σ : Nat → Nat) : ∀ r : List DC, renCL σ r = r.map (renC σ)
  | [] => rfl
  | c :: cs => by simp only [renCL, List.map_cons, renCL_map σ cs]
theorem renCLL_map (σ : Nat → Nat) : ∀ rs : List (List DC), renCLL σ rs = rs.map (renCL σ)
  | [] => rfl
  | c :: cs => by simp only [renCLL, List.map_cons, renCLL_map σ cs]
theorem renL_map (σ : Nat → Nat) : ∀ r : List SV, renL σ r = r.map (ren σ)
  | [] => rfl
  | c :: cs => by simp only [renL, List.map_cons, renL_map σ cs]
theorem renLL_map (σ : Nat → Nat) : ∀ rs : List (List SV), renLL σ rs = rs.map (renL σ)
  | [] => rfl
  | c :: cs => by simp only [renLL, List.map_cons, renLL_map σ cs]
theorem flatC_ren (σ : Nat → Nat) (c : DC) : flatC (renC σ c) = ren σ (flatC c) := by cases c <;> rfl
theorem flatD_ren (σ : Nat → Nat) (rs : List (List DC)) : flatD (renCLL σ rs) = renLL σ (flatD rs) := by
  rw [renCLL_map, renLL_map]
  unfold flatD
  rw [List.map_map, List.map_map]
  refine List.map_congr_left fun r _ => ?_
  simp only [Function.comp, renCL_map, renL_map, List.map_map]
  exact List.map_congr_left fun c _ => flatC_ren σ c
theorem kidAt_ren (σ : Nat → Nat) (rs : List (List DC)) (i j : Nat) : kidAt (renCLL σ rs) i j = (kidAt rs i j).map fun x => (x.1, renLL σ x.2) := by
  unfold kidAt
  rw [renCLL_map, List.getElem?_map]
  cases rs[i]? with
  | none => rfl
  | some row =>
    simp only [Option.map_some, renCL_map, List.getElem?_map]
    cases row[j]? with
    | none => rfl
    | some c => cases c <;> rfl
def renH (σ : Nat → Nat) : Hp → Hp
  | .box row => .box (renL σ row)
  | .rows es rs => .rows es (renLL σ rs)
  | .siter s p => .siter s p
  | .tbl vs => .tbl vs
  | .bld T e l => .bld T e l
  | .dfr => .dfr
  | .lp st li fr => .lp st li (renF σ fr)
  | .mp rs => .mp (renLL σ rs)
  | .deep mp es rs => .deep mp es (renCLL σ rs)
theorem plainLL_map {α : Type} (f : α → List SV) (h : ∀ x, plainL (f x) = true) : ∀ xs : List α, plainLL (xs.map f) = true
  | [] => rfl
  | x :: xs => by simp only [List.map_cons, plainLL, h x, plainLL_map f h xs, Bool.and_self]
theorem plainLL_append : ∀ {xs ys : List (List SV)}, plainLL xs = true → plainLL ys = true → plainLL (xs ++ ys) = true
  | [], ys, _, h => h
  | x :: xs, ys, h, k => by
    simp only [plainLL, Bool.and_eq_true] at h
    simp only [List.cons_append, plainLL, h.1, plainLL_append h.2 k, Bool.and_self]
mutual
theorem ren_plain (σ : Nat → Nat) : ∀ {v : SV}, plain v = true → ren σ v = v
  | .bool _, _ => rfl
  | .int _ _, _ => rfl
  | .str _, _ => rfl
  | .val _, _ => rfl
  | .any, _ => rfl
  | .nb _, _ => rfl
  | .ptr (.glob _) _ _ _, _ => rfl
  | .ptr (.loc _) _ _ _, h => by simp [plain] at h
  | .sl (.glob _) _ _ _ _, _ => rfl
  | .sl (.loc _) _ _ _ _, h => by simp [plain] at h
  | .agg cs, h => by simp only [plain] at h; simp only [ren, renL_plain σ h]
  | .arr _ rs, h => by simp only [plain] at h; simp only [ren, renLL_plain σ h]
  | .tup vs, h => by simp only [plain] at h; simp only [ren, renL_plain σ h]
  | .ifc _ v, h => by simp only [plain] at h; simp only [ren, ren_plain σ h]
  | .fn _ a b, h => by simp only [plain, Bool.and_eq_true] at h; simp only [ren, renL_plain σ h.1, renL_plain σ h.2]
  | .mp (.glob _), _ => rfl
  | .mp (.loc _), h => by simp [plain] at h
  | .yf _, h => by simp [plain] at h
  | .dfs _, h => by simp [plain] at h
theorem renL_plain (σ : Nat → Nat) : ∀ {vs : List SV}, plainL vs = true → renL σ vs = vs
  | [], _ => rfl
  | c :: cs, h => by simp only [plainL, Bool.and_eq_true] at h; simp only [renL, ren_plain σ h.1, renL_plain σ h.2]
theorem renLL_plain (σ : Nat → Nat) : ∀ {vs : List (List SV)}, plainLL vs = true → renLL σ vs = vs
  | [], _ => rfl
  | c :: cs, h => by simp only [plainLL, Bool.and_eq_true] at h; simp only [renLL, renL_plain σ h.1, renLL_plain σ h.2]
end
theorem renF_plain (σ : Nat → Nat) : ∀ {fr : Fr}, plainF fr = true → renF σ fr = fr
  | [], _ => rfl
  | (t, v) :: r, h => by simp only [plainF, Bool.and_eq_true] at h; simp only [renF, ren_plain σ h.1, renF_plain σ h.2]
theorem renC_plain (σ : Nat → Nat) : ∀ {c : DC}, plainC c = true → renC σ c = c
  | .v s, h => by simp only [plainC] at h; simp only [renC, ren_plain σ h]
  | .kid _ rs, h => by simp only [plainC] at h; simp only [renC, renLL_plain σ h]
theorem renCL_plain (σ : Nat → Nat) : ∀ {r : List DC}, plainCL r = true → renCL σ r = r
  | [], _ => rfl
  | c :: cs, h => by simp only [plainCL, Bool.and_eq_true] at h; simp only [renCL, renC_plain σ h.1, renCL_plain σ h.2]
theorem renCLL_plain (σ : Nat → Nat) : ∀ {r : List (List DC)}, plainCLL r = true → renCLL σ r = r
  | [], _ => rfl
  | c :: cs, h => by simp only [plainCLL, Bool.and_eq_true] at h; simp only [renCLL, renCL_plain σ h.1, renCLL_plain σ h.2]
theorem renH_plain (σ : Nat → Nat) {h : Hp} (p : plainH h = true) : renH σ h = h := by
  cases h <;> simp only [plainH] at p <;> simp only [renH, renL_plain σ, renLL_plain σ, renF_plain σ, renCLL_plain σ, p]
section
variable {η η' : Env} {σ : Nat → Nat}
def Fwd (η η' : Env) (σ : Nat → Nat) : Prop := ∀ i x, η[i]? = some x → η'[σ i]? = some x
theorem Fwd.get (h : Fwd η η' σ) {b : Blk} {x : Option Ent} (hb : η.get b = some x) : η'.get (renB σ b) = some x := by
  cases b with
  | glob g => exact hb
  | loc i => exact h i x hb
mutual
theorem Den.ren (h : Fwd η η' σ) : ∀ {sv : SV} {v : Value}, Den η sv v → Den η' (ren σ sv) v
  | .bool _, _, d => d
  | .int _ _, _, d => d
  | .str _, _, d => d
  | .ptr b r es c, v, d => by
    simp only [Den, Go.Sx.ren] at d ⊢
    obtain ⟨e, h1, h2⟩ := d
    exact ⟨e, h.get h1, h2⟩
  | .sl b r es len lim, v, d => by
    simp only [Den, Go.Sx.ren] at d ⊢
    rcases d with ⟨h1, h2⟩ | ⟨e, o, h1, h2⟩
    · exact .inl ⟨h.get h1, h2⟩
    · exact .inr ⟨e, o, h.get h1, h2⟩
  | .val _, _, d => d
  | .agg cs, v, d => by
    simp only [Den, Go.Sx.ren] at d ⊢
    obtain ⟨vs, h1, h2, h3⟩ := d
    exact ⟨vs, h1, DenL.ren h h2, h3⟩
  | .arr es rs, v, d => by
    simp only [Den, Go.Sx.ren] at d ⊢
    obtain ⟨vs, h1, h2, h3⟩ := d
    exact ⟨vs, h1, DenLL.ren h h2, h3⟩
  | .tup ts, v, d => by
    simp only [Den, Go.Sx.ren] at d ⊢
    obtain ⟨vs, h1, h2⟩ := d
    exact ⟨vs, h1, DenL.ren h h2⟩
  | .ifc t x, v, d => by
    simp only [Den, Go.Sx.ren] at d ⊢
    obtain ⟨u, h1, h2⟩ := d
    exact ⟨u, h1, Den.ren h h2⟩
  | .fn f a b, v, d => by
    simp only [Den, Go.Sx.ren] at d ⊢
    obtain ⟨us, vs, h1, h2, h3⟩ := d
    exact ⟨us, vs, h1, DenL.ren h h2, DenL.ren h h3⟩
  | .mp b, v, d => by
    simp only [Den, Go.Sx.ren] at d ⊢
    obtain ⟨e, h1, h2⟩ := d
    exact ⟨e, h.get h1, h2⟩
  | .yf b, v, d => by
    simp only [Den, Go.Sx.ren] at d ⊢
    obtain ⟨e, h1, h2⟩ := d
    exact ⟨e, h.get h1, h2⟩
  | .dfs _, _, d => d
  | .any, _, d => d
  | .nb _, _, d => d
theorem DenL.ren (h : Fwd η η' σ) : ∀ {cs : List SV} {vs : List Value}, DenL η cs vs → DenL η' (renL σ cs) vs
  | [], _, d => d
  | c :: cs, vs, d => by
    simp only [DenL, renL] at d ⊢
    obtain ⟨u, us, h1, h2, h3⟩ := d
    exact ⟨u, us, h1, Den.ren h h2, DenL.ren h h3⟩
theorem DenLL.ren {es : Nat} (h : Fwd η η' σ) : ∀ {rs : List (List SV)} {vs : List Value}, DenLL η es rs vs → DenLL η' es (renLL σ rs) vs
  | [], _, d => d
  | r :: rs, vs, d => by
    simp only [DenLL, renLL] at d ⊢
    obtain ⟨us, ws, h1, h2, h3, h4⟩ := d
    exact ⟨us, ws, h1, h2, DenL.ren h h3, DenLL.ren h h4⟩
end
def Bwd (η η' : Env) (σ : Nat → Nat) (k : Nat) : Prop := ∀ i x, i < k → η[σ i]? = some x → η'[i]? = some x
mutual
/-- All names lie below k. -/
def below (k : Nat) : SV → Bool
  | .bool _ | .int _ _ | .str _ | .val _ | .any | .nb _ => true
  | .ptr b _ _ _ => belowB k b
  | .sl b _ _ _ _ => belowB k b
  | .agg cs => belowL k cs
  | .arr _ rs => belowLL k rs
  | .tup vs => belowL k vs
  | .ifc _ v => below k v
  | .fn _ a b => belowL k a && belowL k b
  | .mp b => belowB k b
  | .yf b => belowB k b
  | .dfs l => belowL k l
def belowL (k : Nat) : List SV → Bool
  | [] => true
  | c :: cs => below k c && belowL k cs
def belowLL (k : Nat) : List (List SV) → Bool
  | [] => true
  | r :: rs => belowL k r && belowLL k rs
def belowB (k : Nat) : Blk → Bool
  | .glob _ => true
  | .loc i => Nat.blt i k
end
def belowF (k : Nat) : Fr → Bool
  | [] => true
  | (_, v) :: r => below k v && belowF k r
def belowC (k : Nat) : DC → Bool
  | .v s => below k s
  | .kid _ rs => belowLL k rs
def belowCL (k : Nat) : List DC → Bool
  | [] => true
  | c :: cs => belowC k c && belowCL k cs
def belowCLL (k : Nat) : List (List DC) → Bool
  | [] => true
  | r :: rs => belowCL k r && belowCLL k rs
def belowH (k : Nat) : Hp → Bool
  | .box row => belowL k row
  | .rows _ rs => belowLL k rs
  | .siter _ _ => true
  | .tbl _ => true
  | .bld _ _ _ => true
  | .mp rs => belowLL k rs
  | .dfr => true
  | .lp _ _ fr => belowF k fr
  | .deep _ _ rs => belowCLL k rs
mutual
theorem plain_below (k : Nat) : ∀ {v : SV}, plain v = true → below k v = true
  | .bool _, _ => rfl
  | .int _ _, _ => rfl
  | .str _, _ => rfl
  | .val _, _ => rfl
  | .any, _ => rfl
  | .nb _, _ => rfl
  | .ptr (.glob _) _ _ _, _ => rfl
  | .ptr (.loc _) _ _ _, h => by simp [plain] at h
  | .sl (.glob _) _ _ _ _, _ => rfl
  | .sl (.loc _) _ _ _ _, h => by simp [plain] at h
  | .agg cs, h => by simp only [plain] at h; simp only [below, plainL_below k h]
  | .arr _ rs, h => by simp only [plain] at h; simp only [below, plainLL_below k h]
  | .tup vs, h => by simp only [plain] at h; simp only [below, plainL_below k h]
  | .ifc _ v, h => by simp only [plain] at h; simp only [below, plain_below k h]
  | .fn _ a b, h => by simp only [plain, Bool.and_eq_true] at h; simp only [below, plainL_below k h.1, plainL_below k h.2, Bool.and_self]
  | .mp (.glob _), _ => rfl
  | .mp (.loc _), h => by simp [plain] at h
  | .yf _, h => by simp [plain] at h
  | .dfs _, h => by simp [plain] at h
theorem plainL_below (k : Nat) : ∀ {vs : List SV}, plainL vs = true → belowL k vs = true
  | [], _ => rfl
  | c :: cs, h => by simp only [plainL, Bool.and_eq_true] at h; simp only [belowL, plain_below k h.1, plainL_below k h.2, Bool.and_self]
theorem plainLL_below (k : Nat) : ∀ {vs : List (List SV)}, plainLL vs = true → belowLL k vs = true
  | [], _ => rfl
  | c :: cs, h => by simp only [plainLL, Bool.and_eq_true] at h; simp only [belowLL, plainL_below k h.1, plainLL_below k h.2, Bool.and_self]
end
theorem plainF_below (k : Nat) : ∀ {fr : Fr}, plainF fr = true → belowF k fr = true
  | [], _ => rfl
  | (t, v) :: r, h => by simp only [plainF, Bool.and_eq_true] at h; simp only [belowF, plain_below k h.1, plainF_below k h.2, Bool.and_self]
theorem plainC_below (k : Nat) : ∀ {c : DC}, plainC c = true → belowC k c = true
  | .v s, h => by simp only [plainC] at h; simp only [belowC, plain_below k h]
  | .kid _ rs, h => by simp only [plainC] at h; simp only [belowC, plainLL_below k h]
theorem plainCL_below (k : Nat) : ∀ {r : List DC}, plainCL r = true → belowCL k r = true
  | [], _ => rfl
  | c :: cs, h => by simp only [plainCL, Bool.and_eq_true] at h; simp only [belowCL, plainC_below k h.1, plainCL_below k h.2, Bool.and_self]
theorem plainCLL_below (k : Nat) : ∀ {r : List (List DC)}, plainCLL r = true → belowCLL k r = true
  | [], _ => rfl
  | c :: cs, h => by simp only [plainCLL, Bool.and_eq_true] at h; simp only [belowCLL, plainCL_below k h.1, plainCLL_below k h.2, Bool.and_self]
theorem plainH_below (k : Nat) {h : Hp} (p : plainH h = true) : belowH k h = true := by
  cases h <;> simp only [plainH] at p <;> simp only [belowH, plainL_below k, plainLL_below k, plainF_below k, plainCLL_below k, p]
variable {k : Nat}
theorem Bwd.get (h : Bwd η η' σ k) {b : Blk} {x : Option Ent} (hk : belowB k b = true) (hb : η.get (renB σ b) = some x) : η'.get b = some x := by
  cases b with
  | glob g => exact hb
  | loc i => exact h i x (by simpa [belowB] using hk) hb
mutual
theorem Den.unren (h : Bwd η η' σ k) : ∀ {sv : SV} {v : Value}, below k sv = true → Den η (ren σ sv) v → Den η' sv v
  | .bool _, _, _, d => d
  | .int _ _, _, _, d => d
  | .str _, _, _, d => d
  | .ptr b r es c, v, hk, d => by
    simp only [Den, Go.Sx.ren] at d ⊢
    obtain ⟨e, h1, h2⟩ := d
    exact ⟨e, h.get (by simpa [below] using hk) h1, h2⟩
  | .sl b r es len lim, v, hk, d => by
    simp only [Den, Go.Sx.ren] at d ⊢
    rcases d with ⟨h1, h2⟩ | ⟨e, o, h1, h2⟩
    · exact .inl ⟨h.get (by simpa [below] using hk) h1, h2⟩
    · exact .inr ⟨e, o, h.get (by simpa [below] using hk) h1, h2⟩
  | .val _, _, _, d => d
  | .agg cs, v, hk, d => by
    simp only [below] at hk
    simp only [Den, Go.Sx.ren] at d ⊢
    obtain ⟨vs, h1, h2, h3⟩ := d
    exact ⟨vs, h1, DenL.unren h hk h2, h3⟩
  | .arr es rs, v, hk, d => by
    simp only [below] at hk
    simp only [Den, Go.Sx.ren] at d ⊢
    obtain ⟨vs, h1, h2, h3⟩ := d
    exact ⟨vs, h1, DenLL.unren h hk h2, h3⟩
  | .tup ts, v, hk, d => by
    simp only [below] at hk
    simp only [Den, Go.Sx.ren] at d ⊢
    obtain ⟨vs, h1, h2⟩ := d
    exact ⟨vs, h1, DenL.unren h hk h2⟩
  | .ifc t x, v, hk, d => by
    simp only [below] at hk
    simp only [Den, Go.Sx.ren] at d ⊢
    obtain ⟨u, h1, h2⟩ := d
    exact ⟨u, h1, Den.unren h hk h2⟩
  | .fn f a b, v, hk, d => by
    simp only [below, Bool.and_eq_true] at hk
    simp only [Den, Go.Sx.ren] at d ⊢
    obtain ⟨us, vs, h1, h2, h3⟩ := d
    exact ⟨us, vs, h1, DenL.unren h hk.1 h2, DenL.unren h hk.2 h3⟩
  | .mp b, v, hk, d => by
    simp only [Den, Go.Sx.ren] at d ⊢
    obtain ⟨e, h1, h2⟩ := d
    exact ⟨e, h.get (by simpa [below] using hk) h1, h2⟩
  | .yf b, v, hk, d => by
    simp only [Den, Go.Sx.ren] at d ⊢
    obtain ⟨e, h1, h2⟩ := d
    exact ⟨e, h.get (by simpa [below] using hk) h1, h2⟩
  | .dfs _, _, _, d => d
  | .any, _, _, d => d
  | .nb _, _, _, d => d
theorem DenL.unren (h : Bwd η η' σ k) : ∀ {cs : List SV} {vs : List Value}, belowL k cs = true → DenL η (renL σ cs) vs → DenL η' cs vs
  | [], _, _, d => d
  | c :: cs, vs, hk, d => by
    simp only [belowL, Bool.and_eq_true] at hk
    simp only [DenL, renL] at d ⊢
    obtain ⟨u, us, h1, h2, h3⟩ := d
    exact ⟨u, us, h1, Den.unren h hk.1 h2, DenL.unren h hk.2 h3⟩
theorem DenLL.unren {es : Nat} (h : Bwd η η' σ k) : ∀ {rs : List (List SV)} {vs : List Value}, belowLL k rs = true → DenLL η es (renLL σ rs) vs → DenLL η' es rs vs
  | [], _, _, d => d
  | r :: rs, vs, hk, d => by
    simp only [belowLL, Bool.and_eq_true] at hk
    simp only [DenLL, renLL] at d ⊢
    obtain ⟨us, ws, h1, h2, h3, h4⟩ := d
    exact ⟨us, ws, h1, h2, DenL.unren h hk.1 h3, DenLL.unren h hk.2 h4⟩
end
theorem renL_get : ∀ {row : List SV} {j : Nat}, (renL σ row)[j]? = (row[j]?).map (ren σ)
  | [], j => by simp [renL]
  | c :: cs, 0 => by simp [renL]
  | c :: cs, j + 1 => by simp [renL, renL_get (row := cs) (j := j)]
theorem renL_len : ∀ {row : List SV}, (renL σ row).length = row.length
  | [] => rfl
  | c :: cs => by simp [renL, renL_len (row := cs)]
theorem renLL_get : ∀ {rs : List (List SV)} {j : Nat}, (renLL σ rs)[j]? = (rs[j]?).map (renL σ)
  | [], j => by simp [renLL]
  | c :: cs, 0 => by simp [renLL]
  | c :: cs, j + 1 => by simp [renLL, renLL_get (rs := cs) (j := j)]
theorem renLL_len : ∀ {row : List (List SV)}, (renLL σ row).length = row.length
  | [] => rfl
  | c :: cs => by simp [renLL, renLL_len (row := cs)]
theorem belowL_get : ∀ {row : List SV} {j : Nat} {c : SV}, belowL k row = true → row[j]? = some c → below k c = true
  | [], j, c, _, h => by simp at h
  | d :: cs, 0, c, hk, h => by simp only [belowL, Bool.and_eq_true] at hk; simp at h; subst h; exact hk.1
  | d :: cs, j + 1, c, hk, h => by simp only [belowL, Bool.and_eq_true] at hk; simp at h; exact belowL_get hk.2 h
theorem belowLL_get : ∀ {rs : List (List SV)} {j : Nat} {c : List SV}, belowLL k rs = true → rs[j]? = some c → belowL k c = true
  | [], j, c, _, h => by simp at h
  | d :: cs, 0, c, hk, h => by simp only [belowLL, Bool.and_eq_true] at hk; simp at h; subst h; exact hk.1
  | d :: cs, j + 1, c, hk, h => by simp only [belowLL, Bool.and_eq_true] at hk; simp at h; exact belowLL_get hk.2 h
theorem CellsAt.ren (h : Fwd η η' σ) {arr : Array Value} {o : Nat} {row : List SV} (d : CellsAt η arr o row) : CellsAt η' arr o (renL σ row) := by
  intro j sv hj
  rw [renL_get] at hj
  cases hr : row[j]? with
  | none => rw [hr] at hj; cases hj
  | some c =>
    rw [hr] at hj
    simp only [Option.map_some, Option.some.injEq] at hj
    subst hj
    obtain ⟨v, h1, h2, h3⟩ := d j c hr
    exact ⟨v, h1, h2, h3.ren h⟩
theorem CellsAt.unren (h : Bwd η η' σ k) {arr : Array Value} {o : Nat} {row : List SV} (hk : belowL k row = true) (d : CellsAt η arr o (renL σ row)) : CellsAt η' arr o row := by
  intro j sv hj
  obtain ⟨v, h1, h2, h3⟩ := d j (Go.Sx.ren σ sv) (by rw [renL_get, hj]; rfl)
  exact ⟨v, h1, h2, h3.unren h (belowL_get hk hj)⟩
theorem lkp_renF : ∀ {fr : Fr} {t : Nat} {v : SV}, lkp t (renF σ fr) = some v → ∃ u, lkp t fr = some u ∧ v = ren σ u
  | [], t, v, h => by simp [renF, lkp] at h
  | (d, u) :: r, t, v, h => by
    simp only [renF] at h
    rw [lkp_cons] at h ⊢
    split at h
    · rename_i e; subst e; injection h with h; exact ⟨u, by simp, h.symm⟩
    · rename_i e; rw [if_neg e]; exact lkp_renF h
theorem lkp_renF' : ∀ {fr : Fr} {t : Nat} {u : SV}, lkp t fr = some u → lkp t (renF σ fr) = some (ren σ u)
  | [], t, v, h => by simp [lkp] at h
  | (d, u) :: r, t, v, h => by
    simp only [renF]
    rw [lkp_cons] at h ⊢
    split at h
    · rename_i e; subst e; injection h with h; subst h; rw [if_pos rfl]
    · rename_i e; rw [if_neg e]; exact lkp_renF' h
theorem belowF_get : ∀ {fr : Fr} {t : Nat} {v : SV}, belowF k fr = true → lkp t fr = some v → below k v = true
  | [], t, v, _, h => by simp [lkp] at h
  | (d, u) :: r, t, v, hb, h => by
    simp only [belowF, Bool.and_eq_true] at hb
    rw [lkp_cons] at h
    split at h
    · injection h with h; subst h; exact hb.1
    · exact belowF_get hb.2 h
theorem TmpsOK.ren (h : Fwd η η' σ) {tmps : Array Value} {fr : Fr} (d : TmpsOK η tmps fr) : TmpsOK η' tmps (renF σ fr) := fun t sv ht => by
  obtain ⟨u, h1, rfl⟩ := lkp_renF ht
  exact (d t u h1).ren h
theorem TmpsOK.unren (h : Bwd η η' σ k) {tmps : Array Value} {fr : Fr} (hk : belowF k fr = true) (d : TmpsOK η tmps (renF σ fr)) : TmpsOK η' tmps fr := fun t sv ht =>
  (d t _ (lkp_renF' ht)).unren h (belowF_get hk ht)
theorem LpSat.ren (h : Fwd η η' σ) {r : Loop} {st : LpS} {li : LpI} {fr : Fr} (d : LpSat η r st li fr) : LpSat η' r st li (renF σ fr) :=
  let ⟨h1, h2, h3, h4, h5, h6, h7⟩ := d; ⟨h1, h2, h3, h4, h5, h6, h7.ren h⟩
theorem LpSat.unren (h : Bwd η η' σ k) {r : Loop} {st : LpS} {li : LpI} {fr : Fr} (hk : belowF k fr = true) (d : LpSat η r st li (renF σ fr)) : LpSat η' r st li fr :=
  let ⟨h1, h2, h3, h4, h5, h6, h7⟩ := d; ⟨h1, h2, h3, h4, h5, h6, h7.unren h hk⟩
theorem DfL.unren (h : Bwd η η' σ k) : ∀ {l : List SV} {ds : List Deferred}, belowL k l = true → DfL η (renL σ l) ds → DfL η' l ds
  | [], ds, _, d => d
  | c :: l, ds, hk, d => by
    simp only [belowL, Bool.and_eq_true] at hk
    cases c with
    | ptr b _ _ _ =>
      simp only [DfL, renL, Go.Sx.ren] at d ⊢
      obtain ⟨e, r, h1, h2, h3⟩ := d
      exact ⟨e, r, h.get (by simpa [below] using hk.1) h1, h2, DfL.unren h hk.2 h3⟩
    | _ => simp only [DfL, renL, Go.Sx.ren] at d
theorem KidSat.ren (h : Fwd η η' σ) {w : World} {v : Value} {es : Nat} {rows : List (List SV)} (d : KidSat η w v es rows) : KidSat η' w v es (renLL σ rows) := by
  rcases d with ⟨h1, rfl⟩ | ⟨g, cap, arr, T, fz, h1, h2, h3, h4, h5, h6⟩
  · exact .inl ⟨h1, rfl⟩
  · refine .inr ⟨g, cap, arr, T, fz, by rw [renLL_len]; exact h1, h2, h3, h4, by rw [renLL_len]; exact h5, fun j row hr => ?_⟩
    rw [renLL_get] at hr
    cases hq : rows[j]? with
    | none => rw [hq] at hr; cases hr
    | some q =>
      rw [hq] at hr
      simp only [Option.map_some, Option.some.injEq] at hr
      subst hr
      rw [renL_len]
      exact ⟨(h6 j q hq).1, (h6 j q hq).2.ren h⟩
theorem KidSat.unren (h : Bwd η η' σ k) {w : World} {v : Value} {es : Nat} {rows : List (List SV)} (hk : belowLL k rows = true) (d : KidSat η w v es (renLL σ rows)) : KidSat η' w v es rows := by
  rcases d with ⟨h1, h0⟩ | ⟨g, cap, arr, T, fz, h1, h2, h3, h4, h5, h6⟩
  · refine .inl ⟨h1, ?_⟩
    have := congrArg List.length h0
    rw [renLL_len] at this
    exact List.length_eq_zero_iff.1 this
  · refine .inr ⟨g, cap, arr, T, fz, by rw [renLL_len] at h1; exact h1, h2, h3, h4, by rw [renLL_len] at h5; exact h5, fun j row hr => ?_⟩
    obtain ⟨p1, p2⟩ := h6 j (renL σ row) (by rw [renLL_get, hr]; rfl)
    rw [renL_len] at p1
    exact ⟨p1, p2.unren h (belowLL_get hk hr)⟩
theorem KidsOK.ren (h : Fwd η η' σ) {w : World} {g : Nat} {o : Obj} {es : Nat} {rs : List (List DC)} (d : KidsOK η w g o es rs) : KidsOK η' w g o es (renCLL σ rs) := by
  refine ⟨fun i j es' rows hk => ?_, fun i j i' j' x x' v v' k h1 h2 h3 h4 h5 h6 => ?_⟩
  · rw [kidAt_ren] at hk
    cases hq : kidAt rs i j with
    | none => rw [hq] at hk; cases hk
    | some x =>
      rw [hq] at hk
      obtain ⟨es0, rows0⟩ := x
      simp only [Option.map_some, Option.some.injEq, Prod.mk.injEq] at hk
      obtain ⟨rfl, rfl⟩ := hk
      obtain ⟨v, g1, g2, g3⟩ := d.sat i j _ _ hq
      exact ⟨v, g1, g2.ren h, g3⟩
  · rw [kidAt_ren] at h1 h2
    obtain ⟨y, hy, _⟩ := Option.map_eq_some_iff.1 h1
    obtain ⟨y', hy', _⟩ := Option.map_eq_some_iff.1 h2
    exact d.ne i j i' j' y y' v v' k hy hy' h3 h4 h5 h6
theorem belowCL_get : ∀ {row : List DC} {j : Nat} {c : DC}, belowCL k row = true → row[j]? = some c → belowC k c = true
  | [], j, c, _, h => by simp at h
  | d :: cs, 0, c, hk, h => by simp only [belowCL, Bool.and_eq_true] at hk; simp at h; subst h; exact hk.1
  | d :: cs, j + 1, c, hk, h => by simp only [belowCL, Bool.and_eq_true] at hk; simp at h; exact belowCL_get hk.2 h
theorem belowCLL_get : ∀ {rs : List (List DC)} {j : Nat} {c : List DC}, belowCLL k rs = true → rs[j]? = some c → belowCL k c = true
  | [], j, c, _, h => by simp at h
  | d :: cs, 0, c, hk, h => by simp only [belowCLL, Bool.and_eq_true] at hk; simp at h; subst h; exact hk.1
  | d :: cs, j + 1, c, hk, h => by simp only [belowCLL, Bool.and_eq_true] at hk; simp at h; exact belowCLL_get hk.2 h
theorem kidAt_below {rs : List (List DC)} {i j es : Nat} {rows : List (List SV)} (hk : belowCLL k rs = true) (h : kidAt rs i j = some (es, rows)) : belowLL k rows = true := by
  unfold kidAt at h
  split at h
  · rename_i row hr
    split at h
    · rename_i es' rows' hc
      simp only [Option.some.injEq, Prod.mk.injEq] at h
      obtain ⟨rfl, rfl⟩ := h
      exact belowCL_get (belowCLL_get hk hr) hc
    · cases h
  · cases h
theorem belowL_flat : ∀ {r : List DC}, belowCL k r = true → belowL k (r.map flatC) = true
  | [], _ => rfl
  | c :: cs, h => by
    simp only [belowCL, Bool.and_eq_true] at h
    simp only [List.map_cons, belowL, belowL_flat h.2, Bool.and_true]
    cases c with
    | v s => exact h.1
    | kid es rows => rfl
theorem belowLL_flat : ∀ {r : List (List DC)}, belowCLL k r = true → belowLL k (flatD r) = true
  | [], _ => rfl
  | c :: cs, h => by
    simp only [belowCLL, Bool.and_eq_true] at h
    have := belowLL_flat h.2
    unfold flatD at this ⊢
    simp only [List.map_cons, belowLL, belowL_flat h.1, this, Bool.and_self]
theorem KidsOK.unren (h : Bwd η η' σ k) {w : World} {g : Nat} {o : Obj} {es : Nat} {rs : List (List DC)} (hk : belowCLL k rs = true) (d : KidsOK η w g o es (renCLL σ rs)) : KidsOK η' w g o es rs := by
  refine ⟨fun i j es' rows hkd => ?_, fun i j i' j' x x' v v' k h1 h2 h3 h4 h5 h6 => ?_⟩
  · obtain ⟨v, g1, g2, g3⟩ := d.sat i j es' (renLL σ rows) (by rw [kidAt_ren, hkd]; rfl)
    exact ⟨v, g1, g2.unren h (kidAt_below hk hkd), g3⟩
  · exact d.ne i j i' j' _ _ v v' k (by rw [kidAt_ren, h1]; rfl) (by rw [kidAt_ren, h2]; rfl) h3 h4 h5 h6
theorem DeepSat.ren (h : Fwd η η' σ) {w : World} {i es : Nat} {rs : List (List DC)} {x : Option Ent} (hx : η.get (.loc i) = some x) (d : DeepSat η w (.loc i) es rs) : DeepSat η' w (.loc (σ i)) es (renCLL σ rs) := by
  intro e he
  have := h.get (b := .loc i) hx
  rw [show η'.get (renB σ (.loc i)) = some (some e) from he] at this
  injection this with this
  subst this
  obtain ⟨h1, h2⟩ := d e hx
  exact ⟨h1, fun o ho => (h2 o ho).ren h⟩
theorem HpSat.ren (h : Fwd η η' σ) {w : World} {own : Bool} {i : Nat} {hp : Hp} (d : HpSat η w own (.loc i) hp) : HpSat η' w own (.loc (σ i)) (renH σ hp) := by
  have hg : ∀ {x}, η.get (.loc i) = some x → η'.get (.loc (σ i)) = some x := fun hx => h.get (b := .loc i) hx
  cases hp with
  | box row =>
    simp only [HpSat, renH] at d ⊢
    obtain ⟨e, arr, T, fz, h1, h2, h3, h4⟩ := d
    exact ⟨e, arr, T, fz, hg h1, h2, h3, h4.ren h⟩
  | rows es rs =>
    simp only [HpSat, renH] at d ⊢
    rcases d with ⟨h1, rfl⟩ | ⟨e, arr, T, fz, h1, h2, h3, h4⟩
    · exact .inl ⟨hg h1, rfl⟩
    · refine .inr ⟨e, arr, T, fz, hg h1, h2, by rw [renLL_len]; exact h3, fun j row hr => ?_⟩
      rw [renLL_get] at hr
      cases hq : rs[j]? with
      | none => rw [hq] at hr; cases hr
      | some q =>
        rw [hq] at hr
        simp only [Option.map_some, Option.some.injEq] at hr
        subst hr
        rw [renL_len]
        exact ⟨(h4 j q hq).1, (h4 j q hq).2.ren h⟩
  | tbl vs =>
    simp only [HpSat, renH] at d ⊢
    obtain ⟨e, h1, h2⟩ := d
    exact ⟨e, hg h1, h2⟩
  | siter s p =>
    simp only [HpSat, renH] at d ⊢
    obtain ⟨e, h1, h2⟩ := d
    exact ⟨e, hg h1, h2⟩
  | mp rs =>
    simp only [HpSat, renH] at d ⊢
    obtain ⟨e, es, h1, h2, h3, h4, h5⟩ := d
    refine ⟨e, es, hg h1, h2, h3, by rw [renLL_len]; exact h4, fun j row hr => ?_⟩
    rw [renLL_get] at hr
    cases hq : rs[j]? with
    | none => rw [hq] at hr; cases hr
    | some q =>
      rw [hq] at hr
      simp only [Option.map_some, Option.some.injEq] at hr
      subst hr
      obtain ⟨en, g1, g2, g3⟩ := h5 j q hq
      exact ⟨en, g1, g2, g3.ren h⟩
  | dfr =>
    simp only [HpSat, renH] at d ⊢
    obtain ⟨e, h1, h2⟩ := d
    exact ⟨e, hg h1, h2⟩
  | lp st li fr =>
    simp only [HpSat, renH] at d ⊢
    obtain ⟨e, r, h1, h2, h3, h4⟩ := d
    exact ⟨e, r, hg h1, h2, h3, h4.ren h⟩
  | bld  T t l =>
    simp only [HpSat, renH] at d ⊢
    obtain ⟨e, h1, h2⟩ := d
    exact ⟨e, hg h1, h2⟩
  | deep mp es rs =>
    cases mp
    · simp only [HpSat, renH, flatD_ren] at d ⊢
      obtain ⟨d1, d2⟩ := d
      obtain ⟨x, hx, _⟩ := d1.ent
      refine ⟨?_, d2.ren h hx⟩
      rcases d1 with ⟨h1, h0⟩ | ⟨e, arr, T, fz, h1, h2, h3, h4⟩
      · exact .inl ⟨hg h1, by rw [h0]; rfl⟩
      · refine .inr ⟨e, arr, T, fz, hg h1, h2, by rw [renLL_len]; exact h3, fun j row hr => ?_⟩
        rw [renLL_get] at hr
        cases hq : (flatD rs)[j]? with
        | none => rw [hq] at hr; cases hr
        | some q =>
          rw [hq] at hr
          simp only [Option.map_some, Option.some.injEq] at hr
          subst hr
          rw [renL_len]
          exact ⟨(h4 j q hq).1, (h4 j q hq).2.ren h⟩
    · simp only [HpSat, renH, flatD_ren] at d ⊢
      obtain ⟨⟨d1, d0⟩, d2⟩ := d
      obtain ⟨x, hx, _⟩ := d1.ent
      refine ⟨⟨?_, d0⟩, d2.ren h hx⟩
      obtain ⟨e, es, h1, h2, h3, h4, h5⟩ := d1
      refine ⟨e, es, hg h1, h2, h3, by rw [renLL_len]; exact h4, fun j row hr => ?_⟩
      rw [renLL_get] at hr
      cases hq : (flatD rs)[j]? with
      | none => rw [hq] at hr; cases hr
      | some q =>
        rw [hq] at hr
        simp only [Option.map_some, Option.some.injEq] at hr
        subst hr
        obtain ⟨en, g1, g2, g3⟩ := h5 j q hq
        exact ⟨en, g1, g2, g3.ren h⟩
theorem RowsSat.unren (h : Bwd η η' σ k) {w : World} {own : Bool} {b b' : Blk} (hg : ∀ {x}, η.get b = some x → η'.get b' = some x) {es : Nat} {rs : List (List SV)} (hk : belowLL k rs = true) (d : RowsSat η w own b es (renLL σ rs)) : RowsSat η' w own b' es rs := by
  rcases d with ⟨h1, h0⟩ | ⟨e, arr, T, fz, h1, h2, h3, h4⟩
  · refine .inl ⟨hg h1, ?_⟩
    have := congrArg List.length h0
    rw [renLL_len] at this
    exact List.length_eq_zero_iff.1 this
  · refine .inr ⟨e, arr, T, fz, hg h1, h2, by rw [renLL_len] at h3; exact h3, fun j row hr => ?_⟩
    obtain ⟨p1, p2⟩ := h4 j (renL σ row) (by rw [renLL_get, hr]; rfl)
    rw [renL_len] at p1
    exact ⟨p1, p2.unren h (belowLL_get hk hr)⟩
theorem MpSat.unren (h : Bwd η η' σ k) {w : World} {b b' : Blk} (hg : ∀ {x}, η.get b = some x → η'.get b' = some x) {rs : List (List SV)} (hk : belowLL k rs = true) (d : MpSat η w b (renLL σ rs)) : MpSat η' w b' rs := by
  obtain ⟨e, es, h1, h2, h3, h4, h5⟩ := d
  refine ⟨e, es, hg h1, h2, h3, by rw [renLL_len] at h4; exact h4, fun j row hr => ?_⟩
  obtain ⟨en, g1, g2, g3⟩ := h5 j (renL σ row) (by rw [renLL_get, hr]; rfl)
  exact ⟨en, g1, g2, g3.unren h (belowLL_get hk hr)⟩
theorem DeepSat.unren (h : Bwd η η' σ k) {w : World} {b b' : Blk} (hg : ∀ {x}, η.get b = some x → η'.get b' = some x) {es : Nat} {rs : List (List DC)} {x : Option Ent} (hx : η.get b = some x) (hk : belowCLL k rs = true) (d : DeepSat η w b es (renCLL σ rs)) : DeepSat η' w b' es rs := by
  intro e he
  have := hg hx
  rw [he] at this
  injection this with this
  subst this
  obtain ⟨h1, h2⟩ := d e hx
  exact ⟨h1, fun o ho => (h2 o ho).unren h hk⟩
theorem HpSat.unren (h : Bwd η η' σ k) {w : World} {own : Bool} {i : Nat} (hi : i < k) {hp : Hp} (hk : belowH k hp = true) (d : HpSat η w own (.loc (σ i)) (renH σ hp)) : HpSat η' w own (.loc i) hp := by
  have hg : ∀ {x}, η.get (.loc (σ i)) = some x → η'.get (.loc i) = some x := fun hx => h i _ hi hx
  cases hp with
  | box row =>
    simp only [HpSat, renH] at d ⊢
    obtain ⟨e, arr, T, fz, h1, h2, h3, h4⟩ := d
    exact ⟨e, arr, T, fz, hg h1, h2, h3, h4.unren h hk⟩
  | rows es rs =>
    simp only [HpSat, renH] at d ⊢
    rcases d with ⟨h1, h0⟩ | ⟨e, arr, T, fz, h1, h2, h3, h4⟩
    · refine .inl ⟨hg h1, ?_⟩
      have := congrArg List.length h0
      rw [renLL_len] at this
      exact List.length_eq_zero_iff.1 this
    · refine .inr ⟨e, arr, T, fz, hg h1, h2, by rw [renLL_len] at h3; exact h3, fun j row hr => ?_⟩
      obtain ⟨p1, p2⟩ := h4 j (renL σ row) (by rw [renLL_get, hr]; rfl)
      rw [renL_len] at p1
      exact ⟨p1, p2.unren h (belowLL_get hk hr)⟩
  | tbl vs =>
    simp only [HpSat, renH] at d ⊢
    obtain ⟨e, h1, h2⟩ := d
    exact ⟨e, hg h1, h2⟩
  | siter s p =>
    simp only [HpSat, renH] at d ⊢
    obtain ⟨e, h1, h2⟩ := d
    exact ⟨e, hg h1, h2⟩
  | mp rs =>
    simp only [HpSat, renH] at d ⊢
    obtain ⟨e, es, h1, h2, h3, h4, h5⟩ := d
    refine ⟨e, es, hg h1, h2, h3, by rw [renLL_len] at h4; exact h4, fun j row hr => ?_⟩
    obtain ⟨en, g1, g2, g3⟩ := h5 j (renL σ row) (by rw [renLL_get, hr]; rfl)
    exact ⟨en, g1, g2, g3.unren h (belowLL_get hk hr)⟩
  | dfr =>
    simp only [HpSat, renH] at d ⊢
    obtain ⟨e, h1, h2⟩ := d
    exact ⟨e, hg h1, h2⟩
  | lp st li fr =>
    simp only [HpSat, renH] at d ⊢
    obtain ⟨e, r, h1, h2, h3, h4⟩ := d
    exact ⟨e, r, hg h1, h2, h3, h4.unren h hk⟩
  | bld  T t l =>
    simp only [HpSat, renH] at d ⊢
    obtain ⟨e, h1, h2⟩ := d
    exact ⟨e, hg h1, h2⟩
  | deep mp es rs =>
    cases mp
    · simp only [HpSat, renH, flatD_ren] at d ⊢
      obtain ⟨d1, d2⟩ := d
      obtain ⟨x, hx, _⟩ := d1.ent
      exact ⟨d1.unren h hg (belowLL_flat hk), d2.unren h hg hx hk⟩
    · simp only [HpSat, renH, flatD_ren] at d ⊢
      obtain ⟨⟨d1, d0⟩, d2⟩ := d
      obtain ⟨x, hx, _⟩ := d1.ent
      exact ⟨⟨d1.unren h hg (belowLL_flat hk), d0⟩, d2.unren h hg hx hk⟩
end

theorem CellsAt.plain {η η' : Env} {arr : Array Value} {o : Nat} {row : List SV} (hp : plainL row = true) (d : CellsAt η arr o row) : CellsAt η' arr o row :=
  CellsAt.unren (σ := id) (k := 0) (fun i x hi => by omega) (plainL_below 0 hp) (by rw [renL_plain _ hp]; exact d)
theorem plainLL_get : ∀ {rs : List (List SV)} {i : Nat} {row : List SV}, plainLL rs = true → rs[i]? = some row → plainL row = true
  | [], i, row, _, h => by simp at h
  | r :: rs, 0, row, hp, h => by simp only [plainLL, Bool.and_eq_true] at hp; simp at h; subst h; exact hp.1
  | r :: rs, i + 1, row, hp, h => by simp only [plainLL, Bool.and_eq_true] at hp; simp at h; exact plainLL_get hp.2 h
/-- What a package variable plainly holds reads the same by any names. -/
theorem HpSat.plain {η η' : Env} {w : World} {own : Bool} {g : Nat} {h : Hp} (d : HpSat η w own (.glob g) h) (hp : plainH h = true) : HpSat η' w own (.glob g) h := by
  cases h with
  | box row =>
    simp only [plainH] at hp
    simp only [HpSat] at d ⊢
    obtain ⟨e, arr, T, fz, h1, h2, h3, h4⟩ := d
    exact ⟨e, arr, T, fz, h1, h2, h3, h4.plain hp⟩
  | rows es rs =>
    simp only [plainH] at hp
    simp only [HpSat] at d ⊢
    rcases d with ⟨h1, h2⟩ | ⟨e, arr, T, fz, h1, h2, h3, h4⟩
    · exact .inl ⟨h1, h2⟩
    · exact .inr ⟨e, arr, T, fz, h1, h2, h3, fun i row hr => ⟨(h4 i row hr).1, (h4 i row hr).2.plain (plainLL_get hp hr)⟩⟩
  | mp rs =>
    simp only [plainH] at hp
    simp only [HpSat] at d ⊢
    obtain ⟨e, es, h1, h2, h3, h4, h5⟩ := d
    exact ⟨e, es, h1, h2, h3, h4, fun i row hr => let ⟨en, g1, g2, g3⟩ := h5 i row hr; ⟨en, g1, g2, DenL.unren (σ := id) (k := 0) (fun i x hi => by omega) (plainL_below 0 (plainLL_get hp hr)) (by rw [renL_plain _ (plainLL_get hp hr)]; exact g3)⟩⟩
  | siter s p => exact d
  | tbl vs => exact d
  | dfr => exact d
  | lp st li fr =>
    simp only [plainH] at hp
    simp only [HpSat] at d ⊢
    obtain ⟨e, r, h1, h2, h3, h4⟩ := d
    exact ⟨e, r, h1, h2, h3, LpSat.unren (σ := id) (k := 0) (fun i x hi => by omega) (plainF_below 0 hp) (by rw [renF_plain _ hp]; exact h4)⟩
  | bld T t l => exact d
  | deep mp es rs =>
    simp only [plainH] at hp
    have hb := plainCLL_below 0 hp
    have hB : Bwd η η' id 0 := fun i x hi => by omega
    have e1 : renCLL id rs = rs := renCLL_plain id hp
    have hg : ∀ {x}, η.get (.glob g) = some x → η'.get (.glob g) = some x := fun hx => hx
    rw [← e1] at d
    cases mp
    · simp only [HpSat, flatD_ren] at d ⊢
      obtain ⟨d1, d2⟩ := d
      obtain ⟨x, hx, _⟩ := d1.ent
      exact ⟨d1.unren hB hg (belowLL_flat hb), d2.unren hB hg hx hb⟩
    · simp only [HpSat, flatD_ren] at d ⊢
      obtain ⟨⟨d1, d0⟩, d2⟩ := d
      obtain ⟨x, hx, _⟩ := d1.ent
      exact ⟨⟨d1.unren hB hg (belowLL_flat hb), d0⟩, d2.unren hB hg hx hb⟩

/-! ### Contracts -/
/-- The blocks that a heap names. -/
def blocksOf (η : Env) (w : World) (O : Hps) : Nat → Prop := fun g => ∃ i h, lkp i O = some h ∧ feet η w (.loc i) h g
theorem kid_renH {σ : Nat → Nat} {w : World} {g k : Nat} {h : Hp} : kid w g (renH σ h) k ↔ kid w g h k := by
  cases h with
  | deep mp es rs =>
    simp only [renH, kid]
    constructor
    · rintro ⟨o, i, j, x, v, h1, h2, h3, h4⟩
      rw [kidAt_ren] at h2
      obtain ⟨y, hy, _⟩ := Option.map_eq_some_iff.1 h2
      exact ⟨o, i, j, y, v, h1, hy, h3, h4⟩
    · rintro ⟨o, i, j, x, v, h1, h2, h3, h4⟩
      exact ⟨o, i, j, _, v, h1, by rw [kidAt_ren, h2]; rfl, h3, h4⟩
  | _ => exact Iff.rfl
theorem feet.ren {σ : Nat → Nat} {η η' : Env} {w : World} {i k : Nat} {h : Hp} (hg : ∀ x, η[i]? = some x → η'[σ i]? = some x) (f : feet η w (.loc i) h k) : feet η' w (.loc (σ i)) (renH σ h) k :=
  let ⟨e, h1, h2⟩ := f; ⟨e, hg _ h1, h2.imp id kid_renH.2⟩
theorem feet.unren {σ : Nat → Nat} {η η' : Env} {w : World} {i k : Nat} {h : Hp} (hg : ∀ x, η'[σ i]? = some x → η[i]? = some x) (f : feet η' w (.loc (σ i)) (renH σ h) k) : feet η w (.loc i) h k :=
  let ⟨e, h1, h2⟩ := f; ⟨e, hg _ h1, h2.imp id kid_renH.1⟩
/-- A function's contract, in names 0 .. k-1: from arguments, with what it may write (O) and what it only reads (S), to a result, what it then owns, and how many names there are. -/
def shB (S : Hps) : List (Blk × Hp) := S.map fun p => (Blk.loc p.1, p.2)
structure Does (P : Program) (T : Tab) (f : FuncId) (k : Nat) (args : List SV) (O S : Hps) (Q : SV → Hps → Nat → Prop) : Prop where
  out : ∀ (M : Mx) (vs : List Value), M.P = P → M.C.T = T → M.F = blocksOf M.η0 M.w0 O → M.C.S = shB S → HeapOK M M.η0 M.w0 O k → DenL M.η0 args vs →
    Invokes M.P f ⟨vs⟩ M.w0 fun v w' => ∃ r O' nx' η', Q r O' nx' ∧ M.η0 <+: η' ∧ HeapOK M η' w' O' nx' ∧ Den η' r v
end Go.Sx
/- Contracts: how one is shown by the walk, and how it is used at a call. Conditions: none. -/
set_option linter.unusedVariables false
set_option linter.unusedSimpArgs false
namespace Go.Sx
open Go

/-! ### The way in, and out -/
def argFr : Nat → List SV → Fr
  | _, [] => []
  | n, v :: vs => (n, v) :: argFr (n + 1) vs
def Res.gv : Res → (SV → Prop) → Prop
  | .val v, K => force v K
  | .need p k, K => NEED p (k.gv K)
  | .get rs i f, K => GET rs i fun row => forceL row fun row => (f row).gv K
  | _, _ => STOP "result"
def retGo (C : Cx) (fr : Fr) (O : Hps) : List ResultVar → (List SV → Prop) → Prop
  | [], K => K []
  | .tmp t :: r, K => match lkp t fr with
    | some v => retGo C fr O r fun vs => K (v :: vs)
    | none => STOP "result"
  | .cell a t :: r, K => match lkp a fr with
    | some p => (loadR C.T (hLook C O) t p).gv fun v => retGo C fr O r fun vs => K (v :: vs)
    | none => STOP "result"
def oneOf : List SV → SV
  | [v] => v
  | vs => .tup vs
structure FIN (M : Mx) (O : Hps) (nx : Nat) (r : SV) (Q : SV → Hps → Nat → Prop) : Prop where
  out : ∀ η w v, HeapOK M η w O nx → Den η r v → ∃ r' O' nx' η', Q r' O' nx' ∧ M.η0 <+: η' ∧ HeapOK M η' w O' nx' ∧ Den η' r' v
def finGo (M : Mx) (O : Hps) (nx : Nat) (Q : SV → Hps → Nat → Prop) : List SV → Prop
  | [v] => FIN M O nx v Q
  | vs => FIN M O nx (.tup vs) Q
theorem finGo_eq {M : Mx} {O : Hps} {nx : Nat} {Q : SV → Hps → Nat → Prop} : ∀ vs, finGo M O nx Q vs = FIN M O nx (oneOf vs) Q
  | [] => rfl
  | [_] => rfl
  | _ :: _ :: _ => rfl
/-- The calls that were put off are made: a loop's rounds have put off none. -/
def dropsK : List SV → Hps → (Hps → Prop) → Prop
  | [], O, K => K O
  | c :: l, O, K => match c with
    | .ptr (.loc j) _ _ _ => match lkp j O with
      | some .dfr => delKK j O fun O => dropsK l O K
      | _ => STOP "put off"
    | _ => STOP "put off"
def offGo (fr : Fr) (O : Hps) (K : Hps → Prop) : Prop := match lkp DS fr with
  | some v => match v with
    | .dfs l => dropsK l O K
    | _ => K O
  | none => K O
/-- What stands at a function's end. -/
def endQ (M : Mx) (res : List ResultVar) (Q : SV → Hps → Nat → Prop) : Post
  | .normal, fr, O, nx => offGo fr O fun O => retGo M.C fr O res fun vs => finGo M O nx Q vs
  | .ret, fr, O, nx => offGo fr O fun O => retGo M.C fr O res fun vs => finGo M O nx Q vs
  | .exit _, _, _, _ => STOP "exit"
section
variable {M : Mx} {η : Env} {w : World} {O : Hps} {nx : Nat}
theorem Res.gv_ok : ∀ {r : Res} {K : SV → Prop}, r.gv K → ∃ v, (∀ O nx, r.ok O nx v O nx) ∧ K v
  | .val v, K, h => by simp only [Res.gv, force_iff] at h; exact ⟨v, fun _ _ => ⟨rfl, rfl, rfl⟩, h⟩
  | .need p k, K, h => by
    simp only [Res.gv] at h
    obtain ⟨v, h1, h2⟩ := Res.gv_ok h.k
    exact ⟨v, fun O nx => ⟨h.p, h1 O nx⟩, h2⟩
  | .get rs i f, K, h => by
    simp only [Res.gv, forceL_iff] at h
    obtain ⟨row, hr, h⟩ := h.out
    obtain ⟨v, h1, h2⟩ := Res.gv_ok h
    exact ⟨v, fun O nx => ⟨row, hr, h1 O nx⟩, h2⟩
  | .new _ _, _, h => h.out.elim
  | .upd _ _ _, _, h => h.out.elim
  | .repl _ _ _, _, h => h.out.elim
  | .take _ _ _ _, _, h => h.out.elim
  | .putk _ _ _ _, _, h => h.out.elim
  | .find _ _ _, _, h => h.out.elim
  | .findD _ _ _, _, h => h.out.elim
  | .ite _ _ _, _, h => h.out.elim
  | .fail, _, h => h.out.elim
def resOne (tmps : Array Value) : ResultVar → Sem Value
  | .tmp t => pure (tmps.getD t undef)
  | .cell c t => do loadVar t (← asAddr (tmps.getD c undef))
theorem results_eq (fn : Func) (tmps : Array Value) : results fn tmps = (do let vs ← fn.results.mapM (resOne tmps); pure (if h : vs.size = 1 then vs[0] else .tuple vs)) := by
  have : (fun x : ResultVar => match x with | ResultVar.tmp t => (pure (tmps.getD t undef) : Sem Value) | ResultVar.cell c t => do loadVar t (← asAddr (tmps.getD c undef))) = resOne tmps := by
    funext x; cases x <;> rfl
  rw [← this]
  rfl
theorem run_asAddr {P : Program} {w : World} {v : Value} {a : Addr} (h : v = .pointer (some a)) : (asAddr v).run P w = .ok a w := by subst h; rfl
theorem retGo_run (hT : TabOK M.P M.C.T) (H : HeapOK M η w O nx) {a : Act} {fr : Fr} (hf : FrOK η a fr) : ∀ {res : List ResultVar} {K : List SV → Prop}, retGo M.C fr O res K →
    ∃ svs vs, K svs ∧ DenL η svs vs ∧ (res.mapM (resOne a.tmps)).run M.P w = .ok vs w
  | [], K, h => ⟨[], [], h, by simp [DenL], rfl⟩
  | .tmp t :: r, K, h => by
    simp only [retGo] at h
    split at h
    case h_2 => exact h.out.elim
    rename_i v hv
    obtain ⟨svs, vs, h1, h2, h3⟩ := retGo_run hT H hf h
    refine ⟨_, a.tmps.getD t undef :: vs, h1, ?_, ?_⟩
    · simp only [DenL]; exact ⟨_, _, rfl, hf t v hv, h2⟩
    · simp only [List.mapM_cons, Sem.run_bind, resOne, Sem.run_pure, Result.andThen_ok, h3]
  | .cell c t :: r, K, h => by
    simp only [retGo] at h
    split at h
    case h_2 => exact h.out.elim
    rename_i p hp
    obtain ⟨v, hl, h⟩ := Res.gv_ok h
    obtain ⟨svs, vs, h1, h2, h3⟩ := retGo_run hT H hf h
    obtain ⟨_, _, ad, u, h4, h5, h6⟩ := loadR_sound hT H (hf c p hp) (hl O nx)
    refine ⟨_, u :: vs, h1, ?_, ?_⟩
    · simp only [DenL]; exact ⟨_, _, rfl, h6, h2⟩
    · simp only [List.mapM_cons, Sem.run_bind, resOne, run_asAddr h4, Result.andThen_ok, h5, h3, Sem.run_pure]
end
theorem argFr_ok {η : Env} : ∀ {n : Nat} {args : List SV} {vs : List Value} {t : Nat} {sv : SV}, DenL η args vs → lkp t (argFr n args) = some sv → ∃ v, n ≤ t ∧ vs[t - n]? = some v ∧ Den η sv v
  | n, [], vs, t, sv, _, h => by simp [argFr, lkp] at h
  | n, a :: args, vs, t, sv, hd, h => by
    simp only [DenL] at hd
    obtain ⟨u, us, rfl, h1, h2⟩ := hd
    simp only [argFr, lkp_cons] at h
    split at h
    · rename_i e; subst e; injection h with h; subst h
      exact ⟨u, Nat.le_refl _, by simp, h1⟩
    · obtain ⟨v, h3, h4, h5⟩ := argFr_ok h2 h
      refine ⟨v, by omega, ?_, h5⟩
      rw [show t - n = (t - (n + 1)) + 1 by omega]
      simpa using h4
/-- A block of one's own is written, and told of no more. -/
theorem HeapOK.drop {M : Mx} {η : Env} {w w' : World} {O : Hps} {nx : Nat} (H : HeapOK M η w O nx) {j : Nat} {h0 : Hp} (hj : lkp j O = some h0) {e : Ent} (he : η[j]? = some (some e)) (hother : ∀ k, k ≠ e.g → w'.heap[k]? = w.heap[k]?) (hsz : w'.heap.size = w.heap.size)
    (ho : w'.os = w.os) (ht : w'.tape = w.tape) (hp : w'.output = w.output) (hdr : w.drawn ≤ w'.drawn) : HeapOK M η w' (delK j O) nx := by
  have fi : feet η w (.loc j) h0 e.g := feet.own he
  have back : ∀ {i h}, lkp i (delK j O) = some h → i ≠ j ∧ lkp i O = some h := fun {i h} hi => by
    have hne : i ≠ j := fun e => by subst e; rw [lkp_delK_self] at hi; cases hi
    exact ⟨hne, by rw [← lkp_delK j O i hne]; exact hi⟩
  have keep : ∀ {i h}, lkp i (delK j O) = some h → ∀ k, feet η w (.loc i) h k → w'.heap[k]? = w.heap[k]? := fun {i h} hi k f => hother k fun hk => H.own.2 i j h h0 k (back hi).2 hj (back hi).1 f (hk ▸ fi)
  have bk : ∀ {i h}, lkp i (delK j O) = some h → ∀ k, feet η w' (.loc i) h k → feet η w (.loc i) h k := fun {i h} hi k f => H.stands List.prefix_rfl (back hi).2 (keep hi) f
  refine ⟨H.pre, H.len, ⟨fun i h hi => ⟨(H.own.1 i h (back hi).2).1.keep (keep hi), fun k f => (H.own.1 i h (back hi).2).2 k (bk hi k f)⟩, fun i i' h h' k hi hi' hne f f' => H.own.2 i i' h h' k (back hi).2 (back hi').2 hne (bk hi k f) (bk hi' k f')⟩,
    ⟨ho.trans H.fr.os, ht.trans H.fr.tape, hp.trans H.fr.output, Nat.le_trans H.fr.drawn hdr, by rw [hsz]; exact H.fr.size, fun k hk hF => ?_⟩, H.sok⟩
  rw [hother k ?_]
  · exact H.fr.block k hk hF
  · intro hke
    rcases (H.own.1 j h0 hj).2 e.g fi with h | h
    · exact hF (hke ▸ h)
    · omega
/-- On the way out: the calls that were put off, then the results. -/
theorem drops_sound {M : Mx} {F : Fence} {P : Program} {fn : Func} {tmps : Array Value} {R : Ending → World → Prop} {η : Env} {nx : Nat} : ∀ {l : List SV} {ds : List Deferred} {O : Hps} {w : World} {K : Hps → Prop}, DfL η l ds → HeapOK M η w O nx → dropsK l O K →
    (∀ w' O', HeapOK M η w' O' nx → K O' → LeavesInM F 0 P fn tmps R [] .returning w') → LeavesInM F 0 P fn tmps R ds .returning w
  | [], ds, O, w, K, hd, H, h, hK => by
    simp only [DfL] at hd
    subst hd
    exact hK w O H h
  | c :: l, ds, O, w, K, hd, H, h, hK => by
    unfold dropsK at h
    split at h
    case h_2 => exact h.out.elim
    rename_i j _ _ _
    split at h
    case h_2 => exact h.out.elim
    rename_i hj
    rw [delKK_iff] at h
    simp only [DfL] at hd
    obtain ⟨e, r, h1, rfl, h3⟩ := hd
    have hs := (H.own.1 j _ hj).1
    simp only [HpSat] at hs
    obtain ⟨e', h4, h5, h6⟩ := hs
    rw [h1] at h4
    injection h4 with h4
    injection h4 with h4
    subst h4
    have hlt := (Array.getElem?_eq_some_iff.1 h6).1
    refine ⟨(fun h => by cases h), .inl ⟨e.g, w.putObj e.g (.deferred none), rfl, run_takeDeferred h6, ?_⟩⟩
    exact drops_sound h3 (H.drop hj (show η[j]? = some (some e) from h1) (fun k hk => World.putObj_heap_other hk) World.putObj_size rfl rfl rfl (Nat.le_refl _)) h hK
theorem off_sound {M : Mx} {F : Fence} {P : Program} {fn : Func} {tmps : Array Value} {R : Ending → World → Prop} {η : Env} {nx : Nat} {fr : Fr} {ds : List Deferred} {O : Hps} {w : World} {K : Hps → Prop} (hd : DfOK η ds (lkp DS fr)) (H : HeapOK M η w O nx) (h : offGo fr O K)
    (hK : ∀ w' O', HeapOK M η w' O' nx → K O' → LeavesInM F 0 P fn tmps R [] .returning w') : LeavesInM F 0 P fn tmps R ds .returning w := by
  unfold offGo at h
  split at h
  · rename_i v hv
    rw [hv] at hd
    split at h
    · exact drops_sound hd H h hK
    · rename_i hnd
      have : ds = [] := by
        cases v <;> first | exact hd | exact (hnd _ rfl).elim
      subst this
      exact hK w O H h
  · rename_i hv
    rw [hv] at hd
    have hd : ds = [] := hd
    subst hd
    exact hK w O H h
theorem end_sound {M : Mx} (hT : TabOK M.P M.C.T) {fn : Func} {res : List ResultVar} (hres : fn.results = res.toArray) {K : SV → Hps → Nat → Prop} {η : Env} {fr : Fr} {O : Hps} {nx : Nat} {a : Act} {w : World} (hm : Models M η fr O nx a w)
    (h : offGo fr O fun O => retGo M.C fr O res fun vs => K (oneOf vs) O nx) {R : Ending → World → Prop} (hR : ∀ w' O' v r, HeapOK M η w' O' nx → Den η r v → K r O' nx → R (.returned v) w') : LeavesInM Fence.wide 0 M.P fn a.tmps R a.defers .returning w := by
  refine off_sound hm.defers hm.heap h fun w' O' H' hr => ?_
  obtain ⟨svs, rvs, h1, h2, h3⟩ := retGo_run hT H' hm.frame hr
  have hrun : (results fn a.tmps).run M.P w' = .ok (if h : rvs.length = 1 then rvs[0]'(by omega) else .tuple ⟨rvs⟩) w' := by
    have hh : (res.toArray.mapM (resOne a.tmps)).run M.P w' = .ok ⟨rvs⟩ w' := by
      rw [Array.mapM_eq_mapM_toList]
      simp only [Sem.run_map, h3, Result.andThen_ok]
    rw [results_eq, hres]
    simp only [Sem.run_bind, hh, Result.andThen_ok, Sem.run_pure]
    rfl
  have hden : Den η (oneOf svs) (if h : rvs.length = 1 then rvs[0]'(by omega) else .tuple ⟨rvs⟩) := by
    have hl := denL_len h2
    match svs, h2, hl with
    | [], h2, hl =>
      simp only [DenL] at h2; subst h2
      simp only [oneOf, Den, DenL]
      exact ⟨[], by simp, rfl⟩
    | [s], h2, hl =>
      simp only [DenL] at h2
      obtain ⟨u, us, rfl, h4, rfl⟩ := h2
      simpa [oneOf] using h4
    | s :: s' :: r, h2, hl =>
      simp only [List.length_cons] at hl
      rw [dif_neg (by omega)]
      simp only [oneOf, Den]
      exact ⟨rvs, rfl, h2⟩
  exact ⟨_, hrun, hR w' O' _ _ H' hden h1⟩
theorem argFr_get {n : Nat} {args : List SV} {t : Nat} {v : SV} (h : lkp t (argFr n args) = some v) : n ≤ t ∧ t < n + args.length := by
  induction args generalizing n with
  | nil => simp [argFr, lkp] at h
  | cons a l ih =>
    simp only [argFr, lkp_cons] at h
    split at h
    · rename_i e; subst e; simp
    · have := ih h; simp only [List.length_cons]; omega
theorem argFr_nd {η : Env} {args : List SV} (h : args.length ≤ DS) : DfOK η [] (lkp DS (argFr 0 args)) := by
  cases hv : lkp DS (argFr 0 args) with
  | none => exact rfl
  | some v => have := argFr_get hv; omega
/-- A contract, by the walk of the function's body. -/
theorem Does.enter {P : Program} {T : Tab} {f g : FuncId} {k : Nat} {args : List SV} {O S : Hps} {Q : SV → Hps → Nat → Prop} {fn : Func} {c : Code} (hT : TabOK P T) (hcall : ∀ args w, (callFunc f args).run P w = .ok (.enter g args) w)
    (hf : P.funcs[g]? = some fn) (hb : fn.body = some c) (N : Nat) (hN : fn.ntmps = N) (hlen : Nat.ble args.length N = true) (res : List ResultVar) (hres : fn.results = res.toArray)
    (h : ∀ w0 F η0, η0.length = k → run ⟨P, ⟨T, N, shB S, none⟩, w0, F, η0⟩ c (argFr 0 args) O k (endQ ⟨P, ⟨T, N, shB S, none⟩, w0, F, η0⟩ res Q)) (hND : Nat.ble N DS = true := by rfl) : Does P T f k args O S Q := by
  refine ⟨fun M vs hP hT' hF hS H hd => .inl ⟨g, by rw [hP]; exact hcall _ _, ?_⟩⟩
  obtain ⟨P', ⟨T', N', S', ro'⟩, w0, F, η0⟩ := M
  simp only at hP hT' hF hS H hd ⊢
  subst hP hT' hS
  have hk : η0.length = k := H.len
  have H' : HeapOK ⟨P', ⟨T', N, shB S, none⟩, w0, F, η0⟩ η0 w0 O k := ⟨H.pre, H.len, H.own, H.fr, H.sok⟩
  have hl := denL_len hd
  refine callsIn_wide (n := 0) |>.1 (callsIn_of_wp_marks hf hb trivial ?_)
  have hm : Models ⟨P', ⟨T', N, shB S, none⟩, w0, F, η0⟩ η0 (argFr 0 args) O k { tmps := ⟨vs⟩ ++ Array.replicate (fn.ntmps - (Array.mk vs).size) undef, defers := [] } w0 := by
    refine ⟨H', ?_, Nat.le_of_ble_eq_true hND, argFr_nd (Nat.le_trans (Nat.le_of_ble_eq_true hlen) (Nat.le_of_ble_eq_true hND)) , (fun l j h => by cases h), ?_⟩
    · have := Nat.le_of_ble_eq_true hlen
      simp only [Array.size_append, Array.size_replicate, hN, List.size_toArray]
      show vs.length + (N - vs.length) = N
      omega
    · intro t sv ht
      obtain ⟨v, _, h1, h2⟩ := argFr_ok hd ht
      have hlt := (List.getElem?_eq_some_iff.1 h1).1
      simp only [Nat.sub_zero] at h1 hlt
      rw [Array.getD_eq_getD_getElem?, Array.getElem?_append_left (by simpa using hlt)]
      have : (Array.mk vs)[t]? = some v := by simpa using h1
      rw [this]; exact h2
  refine Code.wpIn_mono ?_ (run_sound hT c (h w0 F η0 hk) η0 _ w0 hm)
  have fin : ∀ {η1 : Env} {fr1 : Fr} {O1 : Hps} {nx1 : Nat} {a : Act} {w1 : World}, Models ⟨P', ⟨T', N, shB S, none⟩, w0, F, η0⟩ η1 fr1 O1 nx1 a w1 → (offGo fr1 O1 fun O1 => retGo ⟨T', N, shB S, none⟩ fr1 O1 res fun vs => finGo ⟨P', ⟨T', N, shB S, none⟩, w0, F, η0⟩ O1 nx1 Q vs) →
      LeavesInM Fence.wide 0 P' fn a.tmps (fun e w' => ∃ v, e = .returned v ∧ ∃ r O' nx' η', Q r O' nx' ∧ η0 <+: η' ∧ HeapOK ⟨P', ⟨T', N', shB S, ro'⟩, w0, F, η0⟩ η' w' O' nx' ∧ Den η' r v) a.defers .returning w1 := by
    intro η1 fr1 O1 nx1 a w1 hm1 hr
    refine end_sound (M := ⟨P', ⟨T', N, shB S, none⟩, w0, F, η0⟩) (K := fun r O nx => FIN ⟨P', ⟨T', N, shB S, none⟩, w0, F, η0⟩ O nx r Q) hT hres hm1 (by simpa only [finGo_eq] using hr) fun w2 O2 v r H2 hd2 hk => ?_
    obtain ⟨r', O', nx', η', h5, h6, h7, h8⟩ := hk.out η1 w2 v H2 hd2
    exact ⟨v, rfl, r', O', nx', η', h5, h6, ⟨h7.pre, h7.len, h7.own, h7.fr, h7.sok⟩, h8⟩
  intro e a w hq
  cases e with
  | normal => obtain ⟨η1, fr1, O1, nx1, hm1, hq⟩ := hq; exact fin hm1 hq
  | ret => obtain ⟨η1, fr1, O1, nx1, hm1, hq⟩ := hq; exact fin hm1 hq
  | exit id => obtain ⟨η1, fr1, O1, nx1, hm1, hq⟩ := hq; exact hq.out.elim
  | goto l => exact hq.elim
  | panic ch => exact hq.elim
  | outgrown => exact hq.elim
end Go.Sx
