/- Part 2: SxOpsI. Conditions: as each part says. -/
import Derived.Laws.IdiomStrings
import Derived.Test.YtbfbokdccdagkaaGreatDoorICh1
set_option linter.unusedVariables false
set_option linter.unusedSimpArgs false
namespace Go.Sx
open Go
section
variable {M : Mx} {η : Env} {w : World} {O : Hps} {nx : Nat} {ρ : Operand → Value} {lk : Operand → Option SV} {v : SV} {O' : Hps} {nx' : Nat} {dst : Option Tmp} {ty : TypeId} {pos : String} {af : Array Edge} {gd : Option (Nat × Bool)}
theorem Z4t {w w' : World} (h : w'.heap = w.heap) (a : Addr) : w'.cell? a = w.cell? a := by unfold World.cell?; rw [h]
structure News (P : Program) (w : World) (η : Env) (es : Nat) (xs : List (List SV)) (m : Nat) (xv : Value) (news : List Value) : Prop where
 len : news.length = m * es
 one : ∀ u ∈ news, u.oneCell' = true
 den : DenLL η es xs news
 lenOf : ∀ w', (Builtin.lenOf xv).run P w' = .ok m w'
 first : ∀ w', w'.heap = w.heap → (Builtin.firstCells es m xv).run P w' = .ok ⟨news⟩ w'
theorem Ja (A : At M η w O nx ρ lk) {es : Nat} {x : SV} {xv : Value} {xs : List (List SV)} {m : Nat} (hd : Den η x xv) (h : Z4f M.C O es x = some (xs, m)) (hl : xs.length = m) : ∃ news, News M.P w η es xs m xv news := by
 unfold Z4f at h
 split at h
 · rename_i b r es' len lim
   split at h
   case h_2 => cases h
   rename_i es'' rs hh
   split at h
   case h_2 => cases h
   rename_i h1
   split at h
   case h_2 => cases h
   rename_i h2
   have h1 := Zy h1
   have h2 := Zy h2
   subst h1 h2
   simp only [Option.some.injEq, Prod.mk.injEq] at h
   obtain ⟨rfl, rfl⟩ := h
   have hsat := A.H.look hh
   simp only [HpSat] at hsat
   simp only [Den] at hd
   rcases hd with ⟨q1, rfl, q3⟩ | ⟨en, o, q1, rfl, q3, q4, q5⟩
   · subst q3
     refine ⟨[], by simp, by simp, by simp [DenLL], fun w' => rfl, fun w' _ => rfl⟩
   · by_cases h0 : len = 0
     · subst h0
       refine ⟨[], by simp, by simp, by simp [DenLL], fun w' => rfl, fun w' _ => ?_⟩
       simp [Builtin.firstCells, loadCells, loadCellsFrom]
     · rcases hsat with ⟨q6, rfl⟩ | ⟨en', arr, T, fz, q6, q7, _, q8⟩
       · rw [q1] at q6; cases q6
       rw [q1] at q6; injection q6 with q6; injection q6 with q6; subst q6
       have q8' : ∀ (i : Nat) (row : List SV), ((rs.drop r).take len)[i]? = some row → row.length = es ∧ CellsAt η arr (en.base + r * es + i * es) row := by
         intro i row hi
         rw [List.getElem?_take] at hi
         split at hi
         · rw [List.getElem?_drop] at hi
           obtain ⟨p1, p2⟩ := q8 _ row hi
           refine ⟨p1, ?_⟩
           rw [show en.base + r * es + i * es = en.base + (r + i) * es by rw [Nat.add_mul]; omega]
           exact p2
         · cases hi
       obtain ⟨p1, p2, p3⟩ := Z5K q8'
       rw [hl] at p1 p2 p3
       have ho := q5 (by omega)
       subst ho
       refine ⟨_, p2, p3, p1, fun w' => rfl, fun w' hw' => ?_⟩
       have hcell : ∀ j u, ((arr.toList.drop (en.base + r * es)).take (len * es))[j]? = some u → w'.cell? ((⟨en.g, en.base + r * es, none⟩ : Addr).add j) = some u := by
         intro j u hj
         rw [List.getElem?_take] at hj
         split at hj
         · rw [List.getElem?_drop] at hj
           rw [Addr.add_lit, Z4t hw']
           simp only [World.cell?, q7]
           simpa using hj
         · cases hj
       exact run_firstCells_some (P := M.P) w' es len ⟨en.g, en.base + r * es, none⟩ len _ _ p2 hcell
 · simp only [Option.some.injEq, Prod.mk.injEq] at h
   obtain ⟨rfl, rfl⟩ := h
   obtain ⟨rfl, _⟩ : xv = .slice none 0 0 ∧ _ := hd
   exact ⟨[], by simp, by simp, by simp [DenLL], fun w' => rfl, fun w' _ => rfl⟩
 · rename_i s
   split at h
   case h_2 => cases h
   rename_i h1
   have h1 := Zy h1
   subst h1
   simp only [Option.some.injEq, Prod.mk.injEq] at h
   obtain ⟨rfl, rfl⟩ := h
   have hd' := WX hd
   clear hd
   subst hd'
   refine ⟨s.map fun b => .int .u8 (b.toNat : Int), by simp, ?_, ?_, fun w' => ?_, fun w' _ => ?_⟩
   · intro u hu
     obtain ⟨b, _, rfl⟩ := List.mem_map.1 hu
     rfl
   · clear hl
     induction s with
     | nil => simp [DenLL]
     | cons b s ih =>
       simp only [List.map_cons, DenLL]
       exact ⟨[.int .u8 (b.toNat : Int)], _, rfl, rfl, by simp [bytesRow, DenL, Den], ih⟩
   · simp [Builtin.lenOf, JU]
   · have : (ByteArray.mk s.toArray).extract 0 s.length = ⟨s.toArray⟩ := by rw [V5]; simp
     simp [Builtin.firstCells, this]
 · cases h
theorem Z00 {es : Nat} : ∀ {rs qs : List (List SV)} {us vs : List Value}, DenLL η es rs us → DenLL η es qs vs → DenLL η es (rs ++ qs) (us ++ vs)
 | [], qs, us, vs, h, k => by simp only [DenLL] at h; subst h; exact k
 | r :: rs, qs, us, vs, h, k => by
   simp only [DenLL] at h
   obtain ⟨a, b, rfl, h1, h2, h3⟩ := h
   simp only [List.cons_append, DenLL, List.append_assoc]
   exact ⟨a, _, rfl, h1, h2, Z00 h3 k⟩
theorem Z1g {arr : Array Value} {es r cap : Nat} {rs xs : List (List SV)} {us : List Value} (hsz : arr.size = cap * es) (hfits : r + xs.length ≤ cap) (hrr : r ≤ rs.length)
   (hr : ∀ (i : Nat) (row : List SV), rs[i]? = some row → row.length = es ∧ CellsAt η arr (0 + i * es) row) (hd : DenLL η es xs us) (h1 : ∀ u ∈ us, u.oneCell' = true) :
   r * es + us.length ≤ arr.size ∧
   ∀ (i : Nat) (q : List SV), (rs.take r ++ xs ++ rs.drop (r + xs.length))[i]? = some q → q.length = es ∧ CellsAt η (arr.toList.take (r * es) ++ us ++ arr.toList.drop (r * es + us.length)).toArray (0 + i * es) q := by
 have hl := Jg hd
 have hfit : r * es + us.length ≤ arr.size := by
   have : (r + xs.length) * es ≤ cap * es := Nat.mul_le_mul_right _ hfits
   rw [Nat.add_mul] at this; omega
 refine ⟨hfit, ?_⟩
 intro i q hi
 have ht : (rs.take r).length = r := by rw [List.length_take]; omega
 rw [List.append_assoc] at hi
 by_cases hir : i < r
 · rw [List.getElem?_append_left (by omega), List.getElem?_take, if_pos hir] at hi
   obtain ⟨p1, p2⟩ := hr i q hi
   refine ⟨p1, Wy (o := 0 + i * es) p2 p1 hfit (.inl ?_)⟩
   have : (i + 1) * es ≤ r * es := Nat.mul_le_mul_right _ hir
   rw [Nat.succ_mul] at this; omega
 · rw [List.getElem?_append_right (by omega), ht] at hi
   by_cases hix : i - r < xs.length
   · rw [List.getElem?_append_left hix] at hi
     obtain ⟨p1, p2⟩ := YL hd h1 (i - r) q hi
     refine ⟨p1, fun j sv hj => ?_⟩
     obtain ⟨u, p3, p4, p5⟩ := p2 j sv hj
     refine ⟨u, ?_, p4, p5⟩
     have hlt := (Array.getElem?_eq_some_iff.1 p3).1
     have hut : (arr.toList.take (r * es)).length = r * es := by rw [List.length_take]; simp; omega
     have hi' : i * es = r * es + (i - r) * es := by rw [← Nat.add_mul]; congr 1; omega
     simp only [List.append_assoc, List.getElem?_toArray]
     rw [List.getElem?_append_right (by omega), hut, List.getElem?_append_left (by simp at hlt; omega)]
     rw [show 0 + i * es + j - r * es = 0 + (i - r) * es + j by omega]
     simpa using p3
   · rw [List.getElem?_append_right (by omega), List.getElem?_drop] at hi
     rw [show r + xs.length + (i - r - xs.length) = i by omega] at hi
     obtain ⟨p1, p2⟩ := hr i q hi
     refine ⟨p1, Wy (o := 0 + i * es) p2 p1 hfit (.inr ?_)⟩
     have : (r + xs.length) * es ≤ i * es := Nat.mul_le_mul_right _ (by omega)
     rw [Nat.add_mul] at this; omega
theorem Z7l {need old : Nat} (h : old < need) : Builtin.nextslicecap need old ≤ need + need / 4 + 192 := by
 unfold Builtin.nextslicecap
 split
 · omega
 · split
   · omega
   · rw [growBy_four]
     (repeat' split) <;> omega
theorem W6 {need old bytes : Nat} (h : old < need) (hb : min (2 * need) (need + need / 4 + 192) * bytes ≤ 281474976710656) : Builtin.nextslicecap need old * bytes ≤ 281474976710656 :=
 Nat.le_trans (Nat.mul_le_mul_right _ (Nat.le_min.2 ⟨nextslicecap_le h, Z7l h⟩)) hb
theorem Z6z {k b : Nat} (h : k * b ≤ 140737488355328) : min (2 * k) (k + k / 4 + 192) * b ≤ 281474976710656 :=
 Nat.le_trans (Nat.mul_le_mul_right _ (Nat.min_le_left _ _)) (by rw [Nat.mul_assoc]; omega)
theorem Z5N {P : Program} {w : World} {t u e : TypeId} {i : TypeInfo} {z : Value} {ty : TypeId} {base : Option Addr} {n cap m : Nat} {xv : Value} {olds news : List Value} (ht : P.underlying t = some (.slice e)) (hu : (∃ q, P.underlying u = some (.slice q)) ∨ P.underlying u = some .string) (hi : P.info? e = some i) (hz : i.zero = some z)
   (hn : ∀ w', (Builtin.lenOf xv).run P w' = .ok m w') (hf : ∀ w', w'.heap = w.heap → (Builtin.firstCells i.size m xv).run P w' = .ok ⟨news⟩ w') (ho : ∀ w', w'.heap = w.heap → (Builtin.firstCells i.size n (.slice base n cap)).run P w' = .ok ⟨olds⟩ w')
   (hroom : cap < n + m) (h63 : n + m ≤ 9223372036854775807) (hbytes : min (2 * (n + m)) ((n + m) + (n + m) / 4 + 192) * i.bytes ≤ 281474976710656) :
   (Builtin.append_ #[t, u] ty #[.slice base n cap, xv]).run P w = .ok (.slice (some ⟨w.heap.size, 0, none⟩) (n + m) (grownCap w (n + m) cap e))
     (w.drew.alloc (.cells ⟨olds ++ news ++ (Builtin.zeroCells z.cells (grownCap w (n + m) cap e - (n + m))).toList⟩ e)) := by
 have hcap := W6 hroom hbytes
 have h1 : ¬ (n + m ≤ cap) := by omega
 have h2 : ¬ (9223372036854775807 < ((n : Int) + (m : Int))) := by omega
 have h3 : ¬ (281474976710656 < Builtin.nextslicecap (n + m) cap * i.bytes) := by omega
 have hd1 := hf w.drew rfl
 have hd2 := ho w.drew rfl
 have harr : (Array.mk olds ++ Array.mk news ++ Builtin.zeroCells z.cells (grownCap w (n + m) cap e - (n + m))) = ⟨olds ++ news ++ (Builtin.zeroCells z.cells (grownCap w (n + m) cap e - (n + m))).toList⟩ := by
   apply Array.ext'; simp
 have hdraw : (choose (.appendCap (n + m) cap e)).run P w = .ok (grownCap w (n + m) cap e) w.drew := by
   simp [grownCap, Question.forced]
 rw [← harr]
 rcases hu with ⟨q, hu⟩ | hu
 · simp [Builtin.append_, Ze ht, Ze hu, Zv hi, U2 hi, Xi hi hz, hn, h1, h2, h3, hd1, hd2, newRow, Question.forced, grownCap]
   try (congr 2; apply Array.ext'; simp)
 · simp [Builtin.append_, Ze ht, Ze hu, Zv hi, U2 hi, Xi hi hz, hn, h1, h2, h3, hd1, hd2, newRow, Question.forced, grownCap]
   try (congr 2; apply Array.ext'; simp)
theorem Z5O {P : Program} {w : World} {t u e : TypeId} {i : TypeInfo} {ty : TypeId} {g n cap m : Nat} {arr : Array Value} {tt : TypeId} {fz : Nat × Nat} {xv : Value} {news : List Value} (ht : P.underlying t = some (.slice e)) (hu : (∃ q, P.underlying u = some (.slice q)) ∨ P.underlying u = some .string) (hi : P.info? e = some i)
   (hn : ∀ w', (Builtin.lenOf xv).run P w' = .ok m w') (hf : ∀ w', w'.heap = w.heap → (Builtin.firstCells i.size m xv).run P w' = .ok ⟨news⟩ w')
   (hg : w.heap[g]? = some (.cells arr tt fz)) (huf : JG arr.size fz) (h1 : ∀ u ∈ news, u.oneCell' = true) (hroom : n + m ≤ cap) (hfit : n * i.size + news.length ≤ arr.size) :
   (Builtin.append_ #[t, u] ty #[.slice (some ⟨g, 0, none⟩) n cap, xv]).run P w = .ok (.slice (some ⟨g, 0, none⟩) (n + m) cap) (w.setRow g (arr.toList.take (n * i.size) ++ news ++ arr.toList.drop (n * i.size + news.length)).toArray) := by
 have hd1 := hf w rfl
 have hst := X0 (P := P) g (n * i.size) tt fz news 0 arr w hg (by simpa using hfit) huf h1
 simp only [Nat.add_zero] at hst
 have hadd : (⟨g, 0, none⟩ : Addr).add (n * i.size) = ⟨g, n * i.size, none⟩ := by rw [Addr.add_lit, Nat.zero_add]
 rcases hu with ⟨q, hu⟩ | hu
 · simp [Builtin.append_, Ze ht, Ze hu, Zv hi, hn, hroom, hd1, hadd, hst]
 · simp [Builtin.append_, Ze ht, Ze hu, Zv hi, hn, hroom, hd1, hadd, hst]
theorem Z1h {P : Program} {w : World} {t u e : TypeId} {i : TypeInfo} {ty : TypeId} {xv : Value} (ht : P.underlying t = some (.slice e)) (hu : (∃ q, P.underlying u = some (.slice q)) ∨ P.underlying u = some .string) (hi : P.info? e = some i)
   (hn : ∀ w', (Builtin.lenOf xv).run P w' = .ok 0 w') (hf : ∀ w', w'.heap = w.heap → (Builtin.firstCells i.size 0 xv).run P w' = .ok ⟨[]⟩ w') :
   (Builtin.append_ #[t, u] ty #[.slice none 0 0, xv]).run P w = .ok (.slice none 0 0) w := by
 have hd1 := hf w rfl
 rcases hu with ⟨q, hu⟩ | hu
 · simp [Builtin.append_, Ze ht, Ze hu, Zv hi, hn, hd1]
 · simp [Builtin.append_, Ze ht, Ze hu, Zv hi, hn, hd1]
theorem Z1i {η : Env} {es : Nat} {z : List SV} {zs : List Value} (hz : DenL η z zs) (hl : zs.length = es) : ∀ n, DenLL η es (List.replicate n z) (Xd zs n)
 | 0 => by simp [DenLL, Xd]
 | n + 1 => by
   rw [List.replicate_succ, Z2P]
   simp only [DenLL]
   exact ⟨zs, Xd zs n, rfl, hl, hz, Z1i hz hl n⟩
theorem Z4u {P : Program} {w : World} {t u e : TypeId} {i : TypeInfo} {z : Value} {ty : TypeId} {k kk : IntKind} {n : Int} (ht : P.underlying t = some (.slice e)) (hu : P.underlying u = some (.int k)) (hi : P.info? e = some i) (hz : i.zero = some z) (hs : 0 < i.size)
   (h0 : 0 < n) (h63 : n ≤ 9223372036854775807) (hby : n.toNat * i.bytes ≤ 140737488355328) :
   (Builtin.append_ #[t, u] ty #[.slice none 0 0, .int kk n]).run P w = .ok (.slice (some ⟨w.heap.size, 0, none⟩) n.toNat (grownCap w n.toNat 0 e))
     (w.drew.alloc (.cells ⟨(Builtin.zeroCells z.cells n.toNat).toList ++ (Builtin.zeroCells z.cells (grownCap w n.toNat 0 e - n.toNat)).toList⟩ e)) := by
 obtain ⟨m, rfl⟩ : ∃ m : Nat, n = (m : Int) := ⟨n.toNat, by omega⟩
 simp only [Int.toNat_natCast] at hby ⊢
 have hw : IntKind.i64.wrap (m : Int) = m := IntWalk.i64_in _ ⟨by omega, by omega⟩
 have hcap := W6 (need := m) (old := 0) (bytes := i.bytes) (by omega) (Z6z hby)
 have h1 : ¬ (281474976710656 < (m : Int) * (i.bytes : Int)) := by rw [← Int.natCast_mul]; omega
 have h2 : ¬ (281474976710656 < Builtin.nextslicecap m 0 * i.bytes) := by omega
 have h3 : ¬ m = 0 := by omega
 have h4 : ¬ i.size = 0 := by omega
 have h7 : ¬ m * i.size = 0 := Nat.mul_ne_zero h3 h4
 have h5 : ¬ (9223372036854775807 < (m : Int)) := by omega
 have h6 : ¬ ((m : Int) < 0) := by omega
 simp [Builtin.append_, Ze ht, Ze hu, Zv hi, U2 hi, Xi hi hz, asInt, asIntOf, hw, h1, h2, h3, h4, h5, h6, h7, newRow, Question.forced, grownCap, Builtin.firstCells]
 try (congr 2; apply Array.ext'; simp)
theorem Z3p {P : Program} {w : World} {t u e : TypeId} {i : TypeInfo} {ty : TypeId} {k kk : IntKind} (ht : P.underlying t = some (.slice e)) (hu : P.underlying u = some (.int k)) (hi : P.info? e = some i) :
   (Builtin.append_ #[t, u] ty #[.slice none 0 0, .int kk 0]).run P w = .ok (.slice none 0 0) w := by
 have hw : IntKind.i64.wrap 0 = 0 := IntWalk.i64_in _ ⟨by omega, by omega⟩
 simp [Builtin.append_, Ze ht, Ze hu, Zv hi, U2 hi, asInt, asIntOf, hw]
theorem Z9W (A : At M η w O nx ρ lk) (args : Array Operand) (ts : Array TypeId) (hr : (opR M.C lk O nx (.call ⟨.builtin .append, args, ts⟩)).ok O nx v O' nx') : Y5 M η w ⟨dst, .call ⟨.builtin .append, args, ts⟩, ty, pos, af, gd⟩ ρ v O' nx' := by
 simp only [opR, JF, Z8h] at hr
 split at hr
 case h_2 => exact hr.elim
 rename_i s x ha
 obtain rfl : args = #[s, x] := by apply Array.ext'; simpa using ha
 split at hr
 case h_2 => exact hr.elim
 rename_i t u htu
 obtain rfl : ts = #[t, u] := by apply Array.ext'; simpa using htu
 split at hr
 case h_2 => exact hr.elim
 rename_i sv hs
 split at hr
 case h_2 => exact hr.elim
 rename_i xsv hx
 have hsd := A.L _ _ hs
 have hxd := A.L _ _ hx
 have fin : ∀ {z : Value} {w' : World}, (Builtin.append_ #[t, u] ty #[ρ s, ρ x]).run M.P w = .ok z w' → WW M.P ⟨dst, .call ⟨.builtin .append, #[s, x], #[t, u]⟩, ty, pos, af, gd⟩ ρ w z w' := by
   intro z w' h
   exact .inl (by simp [execOp, resolve, invoke, builtin, h])
 have main : ((∃ q, M.P.underlying u = some (.slice q)) ∨ M.P.underlying u = some .string) → (Z3k M.C O nx t sv xsv).ok O nx v O' nx' → Y5 M η w ⟨dst, .call ⟨.builtin .append, #[s, x], #[t, u]⟩, ty, pos, af, gd⟩ ρ v O' nx' := by
   intro hu hr
   unfold Z3k at hr
   split at hr
   case h_2 => exact hr.elim
   rename_i e hst
   obtain ⟨d, hd, hm⟩ := A.T.und t (by rw [hst]; simp)
   rw [hst] at hm; simp only [ShM] at hm; subst hm
   split at hr
   · exact hr.elim
   rename_i c cs hz
   have hsh : M.C.T.sh e ≠ .other := A.T.zsh e (by rw [hz]; simp)
   obtain ⟨ie, z, h1, h2, h3, h4, h5, _⟩ := A.T.zero e hsh (by rw [hz]; simp)
   rw [hz] at h3 h5
   obtain ⟨ie', hie, hies, hieb⟩ := A.T.info e hsh
   rw [h1] at hie; injection hie with hie; subst hie
   have h3 := DenL.mono (η' := η) List.nil_prefix h3
   have hzl : z.cells.size = M.C.T.size e := by have := ZN h3; rw [h5] at this; simpa using this
   split at hr
   · exact hr.elim
   rename_i xs m hrows
   have newarr : ∀ {base : Option Addr} {n cap : Nat} {olds news : List Value} {rs : List (List SV)} {Oo : Hps}, HeapOK M η w Oo nx → ρ s = .slice base n cap → News M.P w η (M.C.T.size e) xs m (ρ x) news → cap < n + m → n + m ≤ 9223372036854775807 → min (2 * (n + m)) ((n + m) + (n + m) / 4 + 192) * M.C.T.bytes e ≤ 281474976710656 →
       (∀ w', w'.heap = w.heap → (Builtin.firstCells (M.C.T.size e) n (.slice base n cap)).run M.P w' = .ok ⟨olds⟩ w') → DenLL η (M.C.T.size e) rs olds → (∀ u ∈ olds, u.oneCell' = true) → rs.length = n → xs.length = m →
       v = .sl (.loc nx) 0 (M.C.T.size e) (n + m) none → O' = (nx, .rows (M.C.T.size e) (rs ++ xs)) :: Oo → nx' = nx + 1 → Y5 M η w ⟨dst, .call ⟨.builtin .append, #[s, x], #[t, u]⟩, ty, pos, af, gd⟩ ρ v O' nx' := by
     intro base n cap olds news rs Oo hH hsv N hroom h63 hby ho hol ho1 hrl hxl e1 e2 e3
     subst e1 e2 e3
     have hge := grownCap_ge w (n + m) cap e
     have hrun := Z5N (P := M.P) (ty := ty) (base := base) (i := ie) hd hu h1 h2 N.lenOf (by rw [hies]; exact N.first) (by rw [hies]; exact ho) hroom h63 (by rw [hieb]; exact hby)
     rw [← hsv] at hrun
     have hLL := Z00 hol N.den
     have hlen := Jg hLL
     have hone : ∀ u ∈ olds ++ news, u.oneCell' = true := by
       intro u hu; rcases List.mem_append.1 hu with hu | hu
       · exact ho1 u hu
       · exact N.one u hu
     have hra := YL hLL hone
     refine ⟨_, _, η ++ [some ⟨w.heap.size, 0, grownCap w (n + m) cap e⟩], fin hrun, List.prefix_append _ _, ?_, VF A.H.len hge, fun _ h => absurd h (by simp)⟩
     refine HeapOK.alloc (w' := w.drew.alloc (.cells ⟨olds ++ news ++ (Builtin.zeroCells z.cells (grownCap w (n + m) cap e - (n + m))).toList⟩ e)) hH rfl rfl rfl rfl 0 _ ?_
     simp only [HpSat]
     right
     have hszz : (olds ++ news ++ (Builtin.zeroCells z.cells (grownCap w (n + m) cap e - (n + m))).toList).length = grownCap w (n + m) cap e * M.C.T.size e := by
       rw [List.length_append, hlen, List.length_append, hrl, hxl, Array.length_toList, size_zeroCells, hzl, ← Nat.add_mul]
       congr 1; omega
     refine ⟨_, _, e, (0, 0), ZV hH.len _, Yv (w := w) (w' := w.drew.alloc _) rfl, fun _ => ⟨U3 _, hszz, ?_, rfl⟩, ?_⟩
     · rw [List.length_append, hrl, hxl]; exact hge
     · intro k row hk
       obtain ⟨p1, p2⟩ := hra k row hk
       refine ⟨p1, fun j sv' hj => ?_⟩
       obtain ⟨y, p3, p4, p5⟩ := p2 j sv' hj
       refine ⟨y, ?_, p4, p5.mono (List.prefix_append _ _)⟩
       have hlt := (Array.getElem?_eq_some_iff.1 p3).1
       simp only [List.getElem?_toArray]
       rw [List.getElem?_append_left (by simpa using hlt)]
       simpa using p3
   split at hr
   · obtain ⟨⟨q1, q2, q3⟩, e1, e2, e3⟩ := hr
     have hsv : ρ s = .slice none 0 0 := And.left hsd
     obtain ⟨news, N⟩ := Ja A hxd hrows q1
     by_cases hm0 : m = 0
     · subst hm0
       have hx0 : xs = [] := List.length_eq_zero_iff.1 q1
       have hn0 : news = [] := by apply List.length_eq_zero_iff.1; rw [N.len]; omega
       subst hx0 hn0 e1 e2 e3
       have hrun := Z1h (P := M.P) (ty := ty) (w := w) (i := ie) hd hu h1 N.lenOf (by rw [hies]; exact N.first)
       rw [← hsv] at hrun
       refine ⟨_, w, η ++ [none], fin hrun, List.prefix_append _ _, ?_, ?_, fun _ h => absurd h (by simp)⟩
       · exact A.H.name none (Or.inl ⟨ZV A.H.len _, rfl⟩) (fun e h => by cases h) (fun e h => by cases h)
       · exact Or.inl ⟨ZV A.H.len _, hsv, rfl⟩
     · refine newarr (rs := []) (olds := []) A.H hsv N (by omega) (by omega) (Z6z (by simpa using q3)) (fun w' _ => rfl) (by simp [DenLL]) (by simp) rfl q1 (by simpa using e1) (by simpa using e2) e3
   · rename_i i es n _
     split at hr
     case h_2 => exact hr.elim
     rename_i es' rs hh
     split at hr
     case h_2 => exact hr.elim
     rename_i hes
     have hes := Zy hes
     subst hes
     split at hr
     case h_2 => exact hr.elim
     rename_i hes'
     have hes' := Zy hes'
     subst hes'
     obtain ⟨⟨q1, q2, q3, q4⟩, e1, e2, e3⟩ := hr
     obtain ⟨news, N⟩ := Ja A hxd hrows q1
     obtain ⟨hsat, hFb⟩ := A.H.own.1 i _ hh
     simp only [HpSat, Env.get] at hsat
     simp only [Den, Env.get] at hsd
     rcases hsd with ⟨p1, hsv, p3⟩ | ⟨en, o, p1, hsv, p3, p4, p5⟩
     · rcases hsat with ⟨p6, rfl⟩ | ⟨en', arr, T, fz, p6, _⟩
       case inr => rw [p1] at p6; cases p6
       subst p3
       by_cases hm0 : m = 0
       · subst hm0
         have hx0 : xs = [] := List.length_eq_zero_iff.1 q1
         have hn0 : news = [] := by apply List.length_eq_zero_iff.1; rw [N.len]; omega
         subst hx0 hn0 e1 e2 e3
         have hrun := Z1h (P := M.P) (ty := ty) (w := w) (i := ie) hd hu h1 N.lenOf (by rw [hies]; exact N.first)
         rw [← hsv] at hrun
         refine ⟨_, w, η ++ [none], fin hrun, List.prefix_append _ _, ?_, ?_, fun _ h => absurd h (by simp)⟩
         · exact (A.H.forget i).name none (Or.inl ⟨ZV A.H.len _, rfl⟩) (fun e h => by cases h) (fun e h => by cases h)
         · exact Or.inl ⟨ZV A.H.len _, hsv, rfl⟩
       · exact newarr (rs := []) (olds := []) (A.H.forget i) hsv N (by omega) (by omega) q4 (fun w' _ => rfl) (by simp [DenLL]) (by simp) rfl q1 (by simpa using e1) (by simpa using e2) e3
     · rcases hsat with ⟨p6, _⟩ | ⟨en', arr, T, fz, p6, p7, p8, p9⟩
       · rw [p1] at p6; cases p6
       rw [p1] at p6; injection p6 with p6; injection p6 with p6; subst p6
       obtain ⟨p8u, p8s, p8c, p8b⟩ := p8 trivial
       rw [p8b] at p9
       simp only [Option.getD_none] at hsv p3 p4 p5
       have p9' : ∀ (k : Nat) (row : List SV), (rs.take n)[k]? = some row → row.length = M.C.T.size e ∧ CellsAt η arr (0 + k * M.C.T.size e) row := by
         intro k row hk
         rw [List.getElem?_take] at hk
         split at hk
         · exact p9 k row hk
         · cases hk
       have hrn : (rs.take n).length = n := by rw [List.length_take]; omega
       obtain ⟨g1, g2, g3⟩ := Z5K p9'
       rw [hrn] at g1 g2 g3
       by_cases hcap0 : en.cap = 0
       ·
         have hn0 : n = 0 := by omega
         subst hn0
         by_cases hm0 : m = 0
         · subst hm0
           have hx0 : xs = [] := List.length_eq_zero_iff.1 q1
           have hn0 : news = [] := by apply List.length_eq_zero_iff.1; rw [N.len]; omega
           subst hx0 hn0 e1 e2 e3
           have hrun : (Builtin.append_ #[t, u] ty #[ρ s, ρ x]).run M.P w = .ok (.slice (some ⟨en.g, o, none⟩) 0 (en.cap - 0)) w := by
             have hd1 := N.first w rfl
             rcases hu with ⟨q, hu⟩ | hu <;> simp [hsv, Builtin.append_, Ze hd, Ze hu, Zv h1, N.lenOf, hies, hd1, storeCells]
           refine ⟨_, w, η ++ [some en], fin hrun, List.prefix_append _ _, ?_, ?_, fun _ h => absurd h (by simp)⟩
           · refine (A.H.forget i).name (some en) ?_ (fun e h => by injection h with h; subst h; exact hFb _ (feet.own p1)) ?_
             · simp only [HpSat]
               right
               exact ⟨en, arr, T, fz, ZV A.H.len _, p7, fun _ => ⟨p8u, p8s, by simp, p8b⟩, fun k row hk => by simp at hk⟩
             · intro e h j g hj f
               injection h with h; subst h
               by_cases hji : j = i
               · subst hji; rw [Yx] at hj; cases hj
               · rw [Ve i O j hji] at hj
                 exact A.H.own.2 j i g _ en.g hj hh hji f (feet.own p1)
           · simp only [Den]
             right
             exact ⟨en, o, ZV A.H.len _, by simp, by simp, by simp, fun _ => p5 (.inr trivial)⟩
         · exact newarr (rs := []) (olds := []) (A.H.forget i) hsv N (by omega) q3 q4 (fun w' _ => by simp [Builtin.firstCells, loadCells, loadCellsFrom]) (by simp [DenLL]) (by simp) rfl q1 (by simpa using e1) (by simpa using e2) e3
       · have ho := p5 (.inl (by omega))
         rw [p8b] at ho
         simp only [Nat.zero_mul, Nat.add_zero] at ho
         subst ho
         by_cases hroom : n + m ≤ en.cap
         · obtain ⟨r1, r2⟩ := Z1g p8s (r := n) (by omega) (by rw [hrn]; exact Nat.le_refl _) p9' N.den N.one
           have hrun := Z5O (P := M.P) (ty := ty) (w := w) (i := ie) (cap := en.cap) hd hu h1 N.lenOf (by rw [hies]; exact N.first) p7 p8u N.one hroom (by rw [hies]; exact r1)
           rw [show Value.slice (some ⟨en.g, 0, none⟩) n en.cap = ρ s by rw [hsv]; simp] at hrun
           rw [hies] at hrun
           subst e1 e2 e3
           have hsz' : (arr.toList.take (n * M.C.T.size e) ++ news ++ arr.toList.drop (n * M.C.T.size e + news.length)).toArray.size = arr.size := by
             simp only [List.size_toArray, List.length_append, List.length_take, List.length_drop, Array.length_toList]; omega
           have hrows' : ∀ (k : Nat) (q : List SV), (rs.take n ++ xs)[k]? = some q → q.length = M.C.T.size e ∧ CellsAt η (arr.toList.take (n * M.C.T.size e) ++ news ++ arr.toList.drop (n * M.C.T.size e + news.length)).toArray (0 + k * M.C.T.size e) q := by
             intro k q hk
             refine r2 k q ?_
             rw [List.take_take, Nat.min_self]
             rw [List.getElem?_append_left (List.getElem?_eq_some_iff.1 hk).1]
             exact hk
           have hsat' : HpSat η (w.setRow en.g (arr.toList.take (n * M.C.T.size e) ++ news ++ arr.toList.drop (n * M.C.T.size e + news.length)).toArray) true (.loc i) (.rows (M.C.T.size e) (rs.take n ++ xs)) := by
             simp only [HpSat, Env.get]
             right
             exact ⟨en, _, T, fz, p1, setRow_heap w en.g arr _ T fz p7, fun _ => ⟨by rw [hsz']; exact p8u, by rw [hsz']; exact p8s, by rw [List.length_append, hrn, q1]; omega, p8b⟩, by rw [p8b]; exact hrows'⟩
           have H1 := A.H.upd hh p1 (fun k hk => setRow_other w en.g k _ hk) (setRow_size _ _ _) rfl rfl rfl hsat'
           have H2 := H1.forget i
           rw [Z4l] at H2
           refine ⟨_, _, η ++ [some en], fin hrun, List.prefix_append _ _, ?_, ?_, fun _ h => absurd h (by simp)⟩
           · refine H2.name (some en) ?_ (fun e h => by injection h with h; subst h; exact hFb _ (feet.own p1)) ?_
             · have := hsat'.mono (List.prefix_append η [some en])
               simp only [HpSat, Env.get] at this ⊢
               rw [← A.H.len] at *
               simp only [List.getElem?_append_right (Nat.le_refl _), Nat.sub_self, List.getElem?_cons_zero]
               right
               exact ⟨en, _, T, fz, rfl, setRow_heap w en.g arr _ T fz p7, fun _ => ⟨by rw [hsz']; exact p8u, by rw [hsz']; exact p8s, by rw [List.length_append, hrn, q1]; omega, p8b⟩, by rw [p8b]; exact fun k q hk => ⟨(hrows' k q hk).1, (hrows' k q hk).2.mono (List.prefix_append _ _)⟩⟩
             · intro e h j g hj f
               injection h with h; subst h
               by_cases hji : j = i
               · subst hji; rw [Yx] at hj; cases hj
               · rw [Ve i O j hji] at hj
                 have hs : (lkp i O).isSome := by rw [hh]; rfl
                 exact H1.own.2 j i g _ en.g (by rw [Y4 _ _ _ _ hs, if_neg hji]; exact hj) (by rw [Y4 _ _ _ _ hs, if_pos rfl]) hji f (feet.own p1)
           · simp only [Den]
             right
             exact ⟨en, 0, ZV A.H.len _, by simp, by simpa using hroom, by simp, fun _ => by simp [p8b]⟩
         · refine newarr (rs := rs.take n) (A.H.forget i) hsv N (by omega) q3 q4 (fun w' hw' => ?_) g1 g3 hrn q1 e1 e2 e3
           have hcell : ∀ j u, ((arr.toList.drop 0).take (n * M.C.T.size e))[j]? = some u → w'.cell? ((⟨en.g, 0, none⟩ : Addr).add j) = some u := by
             intro j u hj
             rw [List.getElem?_take] at hj
             split at hj
             · rw [List.getElem?_drop] at hj
               rw [Addr.add_lit, Z4t hw']
               simp only [World.cell?, p7]
               simpa using hj
             · cases hj
           exact run_firstCells_some (P := M.P) w' (M.C.T.size e) n ⟨en.g, 0, none⟩ n _ _ g2 hcell
   · rename_i b r es n l _
     split at hr
     case h_2 => exact hr.elim
     rename_i ys n' hrs
     obtain ⟨⟨q0, q1, q2, q3, q4, q5⟩, e1, e2, e3⟩ := hr
     have hnn : n' = n := by
       simp only [Z4f] at hrs
       repeat' split at hrs
       all_goals first | (injection hrs with hrs; injection hrs with _ hrs; exact hrs.symm) | cases hrs
     subst hnn
     obtain ⟨news, N⟩ := Ja A hxd hrows q3
     obtain ⟨olds, N2⟩ := Ja A hsd hrs q2
     obtain ⟨base, hsv⟩ : ∃ base, ρ s = .slice base n' n' := by
       simp only [Den] at hsd
       rcases hsd with ⟨_, h, h0⟩ | ⟨en, o, _, h, _⟩
       · subst h0; exact ⟨none, h⟩
       · rw [q0, Option.getD_some, Nat.add_sub_cancel_left] at h
         exact ⟨_, h⟩
     refine newarr (rs := ys) (olds := olds) A.H hsv N (by omega) q4 q5 (fun w' hw' => ?_) N2.den N2.one q2 q3 e1 e2 e3
     rw [← hsv]
     exact N2.first w' hw'
   · exact hr.elim
 split at hr
 · rename_i q hsu
   obtain ⟨d, hd, hm⟩ := A.T.und u (by rw [hsu]; simp)
   rw [hsu] at hm; simp only [ShM] at hm; subst hm
   exact main (.inl ⟨_, hd⟩) hr
 · rename_i hsu
   obtain ⟨d, hd, hm⟩ := A.T.und u (by rw [hsu]; simp)
   rw [hsu] at hm; simp only [ShM] at hm; subst hm
   exact main (.inr hd) hr
 · rename_i k hsu
   obtain ⟨d, hdu, hm⟩ := A.T.und u (by rw [hsu]; simp)
   rw [hsu] at hm; simp only [ShM] at hm; subst hm
   split at hr
   case h_2 => exact hr.elim
   have hsv : ρ s = .slice none 0 0 := And.left hsd
   unfold Z8c at hr
   split at hr
   case h_2 => exact hr.elim
   rename_i e hst
   obtain ⟨d, hd, hm⟩ := A.T.und t (by rw [hst]; simp)
   rw [hst] at hm; simp only [ShM] at hm; subst hm
   split at hr
   · exact hr.elim
   rename_i c cs hz
   have hsh : M.C.T.sh e ≠ .other := A.T.zsh e (by rw [hz]; simp)
   obtain ⟨ie, z, h1, h2, h3, h4, h5, _⟩ := A.T.zero e hsh (by rw [hz]; simp)
   rw [hz] at h3 h5
   obtain ⟨ie', hie, hies, hieb⟩ := A.T.info e hsh
   rw [h1] at hie; injection hie with hie; subst hie
   have h3 := DenL.mono (η' := η) List.nil_prefix h3
   have hzl : z.cells.size = M.C.T.size e := by have := ZN h3; rw [h5] at this; simpa using this
   split at hr
   case h_2 => exact hr.elim
   rename_i kk n
   obtain ⟨⟨q1, q2, q3⟩, e1, e2, e3⟩ := hr
   have hxv := Je hxd
   subst e1 e2 e3
   by_cases hn0 : n = 0
   · subst hn0
     have hrun := Z3p (P := M.P) (ty := ty) (w := w) (kk := kk) hd hdu h1
     rw [← hsv, ← hxv] at hrun
     refine ⟨_, w, η ++ [none], fin hrun, List.prefix_append _ _, ?_, ?_, fun _ h => absurd h (by simp)⟩
     · exact A.H.name none (Or.inl ⟨ZV A.H.len _, rfl⟩) (fun e h => by cases h) (fun e h => by cases h)
     · exact Or.inl ⟨ZV A.H.len _, hsv, rfl⟩
   · have hpos : 0 < M.C.T.size e := by rw [← h5]; simp
     have hrun := Z4u (P := M.P) (ty := ty) (w := w) (kk := kk) (n := n) hd hdu h1 h2 (by rw [hies]; exact hpos) (by omega) q2 (by rw [hieb]; exact q3)
     rw [← hsv, ← hxv] at hrun
     have hge := grownCap_ge w n.toNat 0 e
     have hzc : (Builtin.zeroCells z.cells n.toNat).toList = Xd z.cells.toList n.toNat := by
       unfold Builtin.zeroCells
       exact Vf z.cells n.toNat _ rfl
     have hLL := Z1i h3 (by simpa using hzl) n.toNat
     have hone := Z1f h4 n.toNat
     have hra := YL hLL hone
     have hlen := Jg hLL
     rw [List.length_replicate] at hlen
     refine ⟨_, _, η ++ [some ⟨w.heap.size, 0, grownCap w n.toNat 0 e⟩], fin hrun, List.prefix_append _ _, ?_, VF A.H.len hge, fun _ h => absurd h (by simp)⟩
     rw [hzc]
     refine HeapOK.alloc (w' := w.drew.alloc (.cells ⟨Xd z.cells.toList n.toNat ++ (Builtin.zeroCells z.cells (grownCap w n.toNat 0 e - n.toNat)).toList⟩ e)) A.H rfl rfl rfl rfl 0 _ ?_
     simp only [HpSat]
     right
     have hszz : (Xd z.cells.toList n.toNat ++ (Builtin.zeroCells z.cells (grownCap w n.toNat 0 e - n.toNat)).toList).length = grownCap w n.toNat 0 e * M.C.T.size e := by
       rw [List.length_append, hlen, Array.length_toList, size_zeroCells, hzl, ← Nat.add_mul]
       congr 1; omega
     refine ⟨_, _, e, (0, 0), ZV A.H.len _, Yv (w := w) (w' := w.drew.alloc _) rfl, fun _ => ⟨U3 _, hszz, ?_, rfl⟩, ?_⟩
     · rw [List.length_replicate]; exact hge
     · intro k row hk
       obtain ⟨p1, p2⟩ := hra k row hk
       refine ⟨p1, fun j sv' hj => ?_⟩
       obtain ⟨y, p3, p4, p5⟩ := p2 j sv' hj
       refine ⟨y, ?_, p4, p5.mono (List.prefix_append _ _)⟩
       have hlt := (Array.getElem?_eq_some_iff.1 p3).1
       simp only [List.getElem?_toArray]
       rw [List.getElem?_append_left (by simpa using hlt)]
       simpa using p3
 · exact hr.elim
end
end Go.Sx
