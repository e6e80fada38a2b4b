/- Walks of the comparisons: strings, numbers, terms, quads; the program's and the reference's. -/
import Derived.Test.YtpffclpheldabaaChecked
import Derived.Test.YtpffclpheldabaaMem
import Derived.Test.YtpffclpheldabaaTerm
import Derived.Deep.RegionHeld3
set_option linter.unusedVariables false
namespace Go.Proofs.Ytpffclpheldabaa
open Go.RowKit Go.Our

set_option maxRecDepth 100000 in
theorem cmpString_any (a b : ByteArray) (w : World) :
    Calls Try.prog 58 #[.string a, .string b] w fun e w' => e = .returned (.int .i64 (cmpB a b)) ∧ w = w' := by
  go_enter Try.func58, Try.ntmps58
  go_wp2
  rw [run_callFunc_extern Try.func73 (by kernel_rfl) (by kernel_rfl) (by kernel_rfl) (e := Extern.BytealgCompare.compare) (by kernel_rfl), Lib.run_compareString]
  simp only [Result.andThen]
  rw [Oper.upon_value]
  go_wp2
  go_ret
  exact ⟨rfl, rfl⟩
theorem strCmp_any (a b : ByteArray) (w : World) :
    Calls Try.prog 39 #[.string a, .string b] w fun e w' => e = .returned (.int .i64 (cmpB a b)) ∧ w = w' := by
  go_enter Try.func39, Try.ntmps39
  go_wp2_with (go_at_call 58; refine (cmpString_any _ _ _).mono ?_; rintro e w' ⟨rfl, rfl⟩)
  go_ret
  exact ⟨rfl, rfl⟩
theorem intCmp_any (x y : Int) (w : World) :
    Calls Try.prog 38 #[.int .i64 x, .int .i64 y] w fun e w' => e = .returned (.int .i64 (cmpI x y)) ∧ w = w' := by
  go_enter Try.func38, Try.ntmps38
  go_wp2
  all_goals (go_ret; refine ⟨?_, rfl⟩; unfold cmpI; (repeat' split) <;> first | rfl | (exfalso; omega))

theorem orI_take (xs : List Int) (k : Nat) (h : k < xs.length) : orI (xs.drop k) = if xs[k] ≠ 0 then xs[k] else orI (xs.drop (k + 1)) := by
  rw [List.drop_eq_getElem_cons h]; rfl
/-- cmp.Or: the first number that is not nought. -/
theorem or_any (w : World) (B : Nat) (A : Option Addr) (n c : Nat) (xs : List Int) (hl : xs.length = n) (hn : n ≤ 9223372036854775807) (h : Arr w B A (xs.map (Value.int .i64))) :
    Calls Try.prog 37 #[.slice A n c] w fun e w' => e = .returned (.int .i64 (orI xs)) ∧ w = w' := by
  subst hl
  go_enter Try.func37, Try.ntmps37
  go_wp2
  go_loop [5, 8] (fun _ i => ∃ k : Nat, k ≤ xs.length ∧ i = .int .i64 k ∧ orI xs = orI (xs.drop k)) (fun _ i => xs.length - (intOf i).toNat)
  case atStart => exact ⟨0, by omega, rfl, rfl⟩
  case round =>
    obtain ⟨k, hk, rfl, hor⟩ := hrel
    have HO := Lib.hid hor
    clear hor
    by_cases hlt : k < xs.length
    · obtain ⟨b, o, rfl, _, hc⟩ := Arr.at_ h (k := k) (by simpa using hlt)
      have hs := orI_take xs k hlt
      simp only [List.getElem_map] at hc
      obtain ⟨x, hx⟩ : ∃ x, x = xs[k] := ⟨_, rfl⟩
      rw [← hx] at hc hs
      have HS := Lib.hid hs
      clear hx h hs
      by_cases h0 : x = 0
      · subst h0
        go_wp2
        go_round
        case rel => exact ⟨k + 1, by omega, by go_num, by rw [HO.out, HS.out]; rfl⟩
        case measure => simp [intOf]; omega
      · have hb : (x != 0) = true := by simpa using h0
        have H0 := Lib.hid h0
        clear h0
        go_wp2
        go_ret
        exact ⟨by rw [HO.out, HS.out, if_pos H0.out]; rfl, rfl⟩
    · go_wp2
      go_ret
      exact ⟨by rw [HO.out, List.drop_of_length_le (by omega)]; rfl, rfl⟩

theorem or4_new (w w0 : World) (t : TypeId) (a b c d : Int) (h : w = (w0.alloc (.cells #[.int .i64 a, .int .i64 b, .int .i64 c, .int .i64 d] t)).drew) :
    Calls Try.prog 37 #[.slice (some ⟨w0.heap.size, 0, none⟩) 4 4] w fun e w' => e = .returned (.int .i64 (orI [a, b, c, d])) ∧ Below w.heap.size w w' := by
  subst h
  exact (or_any (w0.alloc (.cells #[.int .i64 a, .int .i64 b, .int .i64 c, .int .i64 d] t)).drew (w0.heap.size + 1) (some ⟨w0.heap.size, 0, none⟩) 4 4 [a, b, c, d] rfl (by omega) (Arr.new w0 #[.int .i64 a, .int .i64 b, .int .i64 c, .int .i64 d] t)).mono fun e w' ⟨he, hw⟩ => ⟨he, by rw [← hw]; exact Below.refl _ _⟩
theorem or4_alloc (w w0 : World) (t : TypeId) (a b c d : Int) (h : w = w0.alloc (.cells #[.int .i64 a, .int .i64 b, .int .i64 c, .int .i64 d] t)) :
    Calls Try.prog 37 #[.slice (some ⟨w0.heap.size, 0, none⟩) 4 4] w fun e w' => e = .returned (.int .i64 (orI [a, b, c, d])) ∧ Below w.heap.size w w' := by
  subst h
  exact (or_any (w0.alloc (.cells #[.int .i64 a, .int .i64 b, .int .i64 c, .int .i64 d] t)) (w0.heap.size + 1) (some ⟨w0.heap.size, 0, none⟩) 4 4 [a, b, c, d] rfl (by omega) (Arr.new w0 #[.int .i64 a, .int .i64 b, .int .i64 c, .int .i64 d] t)).mono fun e w' ⟨he, hw⟩ => ⟨he, by rw [← hw]; exact Below.refl _ _⟩
/-- The world behind a step of a region, still as the first one was below. -/
theorem step_on {B : Nat} {w W w' : World} (h : Below B w W) (hB : B ≤ w.heap.size) (hb : Below W.heap.size W w') : Below B w w' := h.trans (hb.mono (Nat.le_trans hB h.size))
theorem step_drew {B : Nat} {w W w' : World} (h : Below B w W) (hB : B ≤ w.heap.size) (hb : Below W.drew.heap.size W.drew w') : Below B w w' := h.drew.trans (hb.mono (Nat.le_trans hB h.size))
/-- A term's four cells. -/
abbrev termV (t : Term) : Value := .agg #[.int .i64 t.kind, .string t.text, .string t.type, .string t.lang]

set_option maxHeartbeats 3200000 in
theorem compare_any (w : World) (a b : Term) :
    Calls Try.prog 13 #[termV a, termV b] w fun e w' => e = .returned (.int .i64 (termCmp a b)) ∧ Below w.heap.size w w' := by
  go_enter Try.func13, Try.ntmps13
  go_wp2_with fail
  have hA : Blk _ w.heap.size 24 #[.int .i64 a.kind, .string a.text, .string a.type, .string a.lang] := (Blk.new w _ _).alloc (.cells #[.int .i64 b.kind, .string b.text, .string b.type, .string b.lang] 24)
  have hB : Blk ((w.alloc (.cells #[.int .i64 a.kind, .string a.text, .string a.type, .string a.lang] 24)).alloc (.cells #[.int .i64 b.kind, .string b.text, .string b.type, .string b.lang] 24)) (w.heap.size + 1) 24 #[.int .i64 b.kind, .string b.text, .string b.type, .string b.lang] := Blk.new' (by simp)
  have hW0 : Below w.heap.size w ((w.alloc (.cells #[.int .i64 a.kind, .string a.text, .string a.type, .string a.lang] 24)).alloc (.cells #[.int .i64 b.kind, .string b.text, .string b.type, .string b.lang] 24)) := ((Below.refl _ _).alloc (Nat.le_refl _) _).alloc (by simp) _
  generalize ((w.alloc (.cells #[.int .i64 a.kind, .string a.text, .string a.type, .string a.lang] 24)).alloc (.cells #[.int .i64 b.kind, .string b.text, .string b.type, .string b.lang] 24)) = W at *
  have a0 := hA.cell 0
  have a1 := hA.cell 1
  have a2 := hA.cell 2
  have a3 := hA.cell 3
  have b0 := hB.cell 0
  have b1 := hB.cell 1
  have b2 := hB.cell 2
  have b3 := hB.cell 3
  simp at a0 a1 a2 a3 b0 b1 b2 b3
  obtain ⟨ba, hba⟩ : ∃ ba, ba = w.heap.size := ⟨_, rfl⟩
  go_region_held3 (fun w' => w'.cell? ⟨w.heap.size, 0, none⟩ = some (.int .i64 a.kind) ∧ w'.cell? ⟨w.heap.size, 1, none⟩ = some (.string a.text) ∧ w'.cell? ⟨w.heap.size, 2, none⟩ = some (.string a.type) ∧ w'.cell? ⟨w.heap.size, 3, none⟩ = some (.string a.lang)
     ∧ w'.cell? ⟨w.heap.size + 1, 0, none⟩ = some (.int .i64 b.kind) ∧ w'.cell? ⟨w.heap.size + 1, 1, none⟩ = some (.string b.text) ∧ w'.cell? ⟨w.heap.size + 1, 2, none⟩ = some (.string b.type) ∧ w'.cell? ⟨w.heap.size + 1, 3, none⟩ = some (.string b.lang))
    (first | exact ⟨a0, a1, a2, a3, b0, b1, b2, b3⟩ | go_keep | ((repeat' refine And.intro ?_ ?_) <;> exact cell_on (by assumption) (by go_keep)))
    (first
      | (go_at_call 38; refine (intCmp_any _ _ _).mono ?_; rintro e w' ⟨rfl, rfl⟩)
      | (go_at_call 39; refine (strCmp_any _ _ _).mono ?_; rintro e w' ⟨rfl, rfl⟩)
      | (go_at_call 37; refine (or4_new _ W _ _ _ _ _ rfl).mono ?_; rintro e w' ⟨rfl, hbo⟩))
  go_wp2
  go_ret
  exact ⟨congrArg (fun x => Ending.returned (.int .i64 x)) (orI_term a b), hW0.trans ((((Below.refl _ _).alloc (Nat.le_refl _) _).drew.trans (hbo.mono (by simp))).mono hW0.size)⟩

/-! ### Terms and quads in memory -/
abbrev quadV (q : Quad) : Value := .agg #[.int .i64 q.s.kind, .string q.s.text, .string q.s.type, .string q.s.lang, .int .i64 q.p.kind, .string q.p.text, .string q.p.type, .string q.p.lang,
  .int .i64 q.o.kind, .string q.o.text, .string q.o.type, .string q.o.lang, .int .i64 q.g.kind, .string q.g.text, .string q.g.type, .string q.g.lang]
/-- The term whose four cells lie at a place. -/
@[irreducible] def termAt? (w : World) (b o : Nat) : Option Term :=
  match w.cell? ⟨b, o, none⟩, w.cell? ⟨b, o + 1, none⟩, w.cell? ⟨b, o + 2, none⟩, w.cell? ⟨b, o + 3, none⟩ with
  | some (.int .i64 k), some (.string x), some (.string y), some (.string z) => some ⟨k, x, y, z⟩
  | _, _, _, _ => none
theorem termAt_of {w : World} {b o : Nat} {t : Term} (h0 : w.cell? ⟨b, o, none⟩ = some (.int .i64 t.kind)) (h1 : w.cell? ⟨b, o + 1, none⟩ = some (.string t.text)) (h2 : w.cell? ⟨b, o + 2, none⟩ = some (.string t.type)) (h3 : w.cell? ⟨b, o + 3, none⟩ = some (.string t.lang)) : termAt? w b o = some t := by
  unfold termAt?; rw [h0, h1, h2, h3]
theorem termAt_cells {w : World} {b o : Nat} {t : Term} (h : termAt? w b o = some t) :
    w.cell? ⟨b, o, none⟩ = some (.int .i64 t.kind) ∧ w.cell? ⟨b, o + 1, none⟩ = some (.string t.text) ∧ w.cell? ⟨b, o + 2, none⟩ = some (.string t.type) ∧ w.cell? ⟨b, o + 3, none⟩ = some (.string t.lang) := by
  unfold termAt? at h
  split at h
  · rename_i h0 h1 h2 h3
    cases h
    exact ⟨h0, h1, h2, h3⟩
  · cases h
theorem termAt_on {w w' : World} {b o : Nat} {t : Term} (hb : Below w.heap.size w w') (h : termAt? w b o = some t) : termAt? w' b o = some t := by
  obtain ⟨h0, h1, h2, h3⟩ := termAt_cells h
  exact termAt_of (cell_on hb h0) (cell_on hb h1) (cell_on hb h2) (cell_on hb h3)
theorem cellsT : (Try.prog.info? 24).map (·.size) = some 4 := by kernel_rfl
theorem run_load_term {w : World} {b o : Nat} {t : Term} (h : termAt? w b o = some t) : (loadVar 24 ⟨b, o, none⟩).run Try.prog w = .ok (termV t) w := by
  obtain ⟨h0, h1, h2, h3⟩ := termAt_cells h
  have hl : (loadCells ⟨b, o, none⟩ 4).run Try.prog w = .ok #[.int .i64 t.kind, .string t.text, .string t.type, .string t.lang] w :=
    run_loadCells_list (P := Try.prog) w ⟨b, o, none⟩ [.int .i64 t.kind, .string t.text, .string t.type, .string t.lang] (fun j v hv => by
      rw [add_mk]
      match j, hv with
      | 0, hv => simp at hv; subst hv; exact h0
      | 1, hv => simp at hv; subst hv; exact h1
      | 2, hv => simp at hv; subst hv; exact h2
      | 3, hv => simp at hv; subst hv; exact h3)
  obtain ⟨i, hi, hs⟩ := Option.map_eq_some_iff.1 cellsT
  simp [loadVar, isAgg, run_underlying Try.underlying24, sizeOf, typeInfo, hi, hs, hl]
/-- What a load of a term gives where none is known. (Behind a name: the walk does not open it.) -/
@[irreducible] noncomputable def rawT (w : World) (b o : Nat) : Result Value := (loadVar 24 ⟨b, o, none⟩).run Try.prog w
noncomputable def ldT (w : World) (b o : Nat) : Option Term → Result Value
  | some t => .ok (termV t) w
  | none => rawT w b o
theorem run_ldT (w : World) (b o : Nat) : (loadVar 24 ⟨b, o, none⟩).run Try.prog w = ldT w b o (termAt? w b o) := by
  cases h : termAt? w b o with
  | some t => exact run_load_term h
  | none => unfold ldT rawT; rfl
/-- A load of a term, at whatever value. -/
@[irreducible] noncomputable def loadT (w : World) (v : Value) : Result Next := ((do pure (Next.value (← Instr.loadAt 24 v))) : Sem Next).run Try.prog w
@[go_sem ↓ high] theorem run_loadT (ρ : Operand → Value) (d : Option Tmp) (x : Operand) (ty : TypeId) (pos : String) (af : Array Edge) (g : Option (Nat × Bool)) (w : World) :
    (execOp ρ { dst := d, op := .load (24 : Nat) x, type := ty, pos := pos, after := af, guard := g }).run Try.prog w = loadT w (ρ x) := by unfold loadT; rfl
noncomputable def ldN (w : World) (b o : Nat) (t : Option Term) : Result Next := (ldT w b o t).andThen fun a w' => .ok (.value a) w'
@[go_sem] theorem loadT_at (w : World) (b o : Nat) : loadT w (.pointer (some ⟨b, o, none⟩)) = ldN w b o (termAt? w b o) := by
  unfold loadT ldN; rw [← run_ldT]; simp [Instr.loadAt, Instr.sureAddr]
@[go_sem] theorem ldN_some (w : World) (b o : Nat) (t : Term) : ldN w b o (some t) = .ok (.value (termV t)) w := rfl

/-- The four terms of a quad whose cells lie at one place. -/
def QuadAt (w : World) (b o : Nat) (q : Quad) : Prop := termAt? w b o = some q.s ∧ termAt? w b (o + 4) = some q.p ∧ termAt? w b (o + 8) = some q.o ∧ termAt? w b (o + 12) = some q.g
theorem QuadAt.on {w w' : World} {b o : Nat} {q : Quad} (hb : Below w.heap.size w w') (h : QuadAt w b o q) : QuadAt w' b o q := ⟨termAt_on hb h.1, termAt_on hb h.2.1, termAt_on hb h.2.2.1, termAt_on hb h.2.2.2⟩
abbrev quadA (q : Quad) : Array Value := #[.int .i64 q.s.kind, .string q.s.text, .string q.s.type, .string q.s.lang, .int .i64 q.p.kind, .string q.p.text, .string q.p.type, .string q.p.lang,
  .int .i64 q.o.kind, .string q.o.text, .string q.o.type, .string q.o.lang, .int .i64 q.g.kind, .string q.g.text, .string q.g.type, .string q.g.lang]
theorem QuadAt.of_blk {w : World} {b : Nat} {t : TypeId} {q : Quad} (h : Blk w b t (quadA q)) : QuadAt w b 0 q := by
  refine ⟨termAt_of ?_ ?_ ?_ ?_, termAt_of ?_ ?_ ?_ ?_, termAt_of ?_ ?_ ?_ ?_, termAt_of ?_ ?_ ?_ ?_⟩ <;> (rw [h.cell]; rfl)

/-- The quad whose sixteen cells lie at a place. -/
@[irreducible] def quadAt? (w : World) (b o : Nat) : Option Quad :=
  match termAt? w b o, termAt? w b (o + 4), termAt? w b (o + 8), termAt? w b (o + 12) with
  | some s, some p, some x, some g => some ⟨s, p, x, g⟩
  | _, _, _, _ => none
theorem quadAt_of {w : World} {b o : Nat} {q : Quad} (h : QuadAt w b o q) : quadAt? w b o = some q := by
  unfold quadAt?; rw [h.1, h.2.1, h.2.2.1, h.2.2.2]
theorem quadAt_parts {w : World} {b o : Nat} {q : Quad} (h : quadAt? w b o = some q) : QuadAt w b o q := by
  unfold quadAt? at h
  split at h
  · rename_i h0 h1 h2 h3
    cases h
    exact ⟨h0, h1, h2, h3⟩
  · cases h
theorem quadAt_on {w w' : World} {b o : Nat} {q : Quad} (hb : Below w.heap.size w w') (h : quadAt? w b o = some q) : quadAt? w' b o = some q := quadAt_of ((quadAt_parts h).on hb)
theorem cellsQ : (Try.prog.info? 26).map (·.size) = some 16 := by kernel_rfl
theorem quadA_at (w : World) (b o : Nat) (q : Quad) (h : QuadAt w b o q) : ∀ j v, (quadA q).toList[j]? = some v → w.cell? ((⟨b, o, none⟩ : Addr).add j) = some v := by
  obtain ⟨h0, h1, h2, h3⟩ := h
  obtain ⟨s0, s1, s2, s3⟩ := termAt_cells h0
  obtain ⟨p0, p1, p2, p3⟩ := termAt_cells h1
  obtain ⟨o0, o1, o2, o3⟩ := termAt_cells h2
  obtain ⟨g0, g1, g2, g3⟩ := termAt_cells h3
  intro j v hv
  rw [add_mk]
  match j, hv with
  | 0, hv => simp at hv; subst hv; exact s0
  | 1, hv => simp at hv; subst hv; exact s1
  | 2, hv => simp at hv; subst hv; exact s2
  | 3, hv => simp at hv; subst hv; exact s3
  | 4, hv => simp at hv; subst hv; exact p0
  | 5, hv => simp at hv; subst hv; exact p1
  | 6, hv => simp at hv; subst hv; exact p2
  | 7, hv => simp at hv; subst hv; exact p3
  | 8, hv => simp at hv; subst hv; exact o0
  | 9, hv => simp at hv; subst hv; exact o1
  | 10, hv => simp at hv; subst hv; exact o2
  | 11, hv => simp at hv; subst hv; exact o3
  | 12, hv => simp at hv; subst hv; exact g0
  | 13, hv => simp at hv; subst hv; exact g1
  | 14, hv => simp at hv; subst hv; exact g2
  | 15, hv => simp at hv; subst hv; exact g3
theorem run_load_quad {w : World} {b o : Nat} {q : Quad} (h : quadAt? w b o = some q) : (loadVar 26 ⟨b, o, none⟩).run Try.prog w = .ok (quadV q) w := by
  have hl : (loadCells ⟨b, o, none⟩ 16).run Try.prog w = .ok (quadA q) w := run_loadCells_list (P := Try.prog) w ⟨b, o, none⟩ (quadA q).toList (quadA_at w b o q (quadAt_parts h))
  obtain ⟨i, hi, hs⟩ := Option.map_eq_some_iff.1 cellsQ
  simp [loadVar, isAgg, run_underlying Try.underlying26, sizeOf, typeInfo, hi, hs, hl]
@[irreducible] noncomputable def rawQ (w : World) (b o : Nat) : Result Value := (loadVar 26 ⟨b, o, none⟩).run Try.prog w
noncomputable def ldQ (w : World) (b o : Nat) : Option Quad → Result Value
  | some q => .ok (quadV q) w
  | none => rawQ w b o
theorem run_ldQ (w : World) (b o : Nat) : (loadVar 26 ⟨b, o, none⟩).run Try.prog w = ldQ w b o (quadAt? w b o) := by
  cases h : quadAt? w b o with
  | some q => exact run_load_quad h
  | none => unfold ldQ rawQ; rfl
/-- A load of a quad, at whatever value. -/
@[irreducible] noncomputable def loadQ (w : World) (v : Value) : Result Next := ((do pure (Next.value (← Instr.loadAt 26 v))) : Sem Next).run Try.prog w
@[go_sem ↓ high] theorem run_loadQ (ρ : Operand → Value) (d : Option Tmp) (x : Operand) (ty : TypeId) (pos : String) (af : Array Edge) (g : Option (Nat × Bool)) (w : World) :
    (execOp ρ { dst := d, op := .load (26 : Nat) x, type := ty, pos := pos, after := af, guard := g }).run Try.prog w = loadQ w (ρ x) := by unfold loadQ; rfl
noncomputable def ldNQ (w : World) (b o : Nat) (q : Option Quad) : Result Next := (ldQ w b o q).andThen fun a w' => .ok (.value a) w'
@[go_sem] theorem loadQ_at (w : World) (b o : Nat) : loadQ w (.pointer (some ⟨b, o, none⟩)) = ldNQ w b o (quadAt? w b o) := by
  unfold loadQ ldNQ; rw [← run_ldQ]; simp [Instr.loadAt, Instr.sureAddr]
@[go_sem] theorem ldNQ_some (w : World) (b o : Nat) (q : Quad) : ldNQ w b o (some q) = .ok (.value (quadV q)) w := rfl

theorem keep2 {w w' : World} (hb : Below w.heap.size w w') {b0 o0 b1 o1 : Nat} {t0 t1 : Term} (h : termAt? w b0 o0 = some t0 ∧ termAt? w b1 o1 = some t1) : termAt? w' b0 o0 = some t0 ∧ termAt? w' b1 o1 = some t1 := ⟨termAt_on hb h.1, termAt_on hb h.2⟩
theorem keep4 {w w' : World} (hb : Below w.heap.size w w') {b0 o0 b1 o1 b2 o2 b3 o3 : Nat} {t0 t1 t2 t3 : Term} (h : termAt? w b0 o0 = some t0 ∧ termAt? w b1 o1 = some t1 ∧ termAt? w b2 o2 = some t2 ∧ termAt? w b3 o3 = some t3) : termAt? w' b0 o0 = some t0 ∧ termAt? w' b1 o1 = some t1 ∧ termAt? w' b2 o2 = some t2 ∧ termAt? w' b3 o3 = some t3 := ⟨termAt_on hb h.1, termAt_on hb h.2.1, termAt_on hb h.2.2.1, termAt_on hb h.2.2.2⟩
theorem keep8 {w w' : World} (hb : Below w.heap.size w w') {b0 o0 b1 o1 b2 o2 b3 o3 b4 o4 b5 o5 b6 o6 b7 o7 : Nat} {t0 t1 t2 t3 t4 t5 t6 t7 : Term} (h : termAt? w b0 o0 = some t0 ∧ termAt? w b1 o1 = some t1 ∧ termAt? w b2 o2 = some t2 ∧ termAt? w b3 o3 = some t3 ∧ termAt? w b4 o4 = some t4 ∧ termAt? w b5 o5 = some t5 ∧ termAt? w b6 o6 = some t6 ∧ termAt? w b7 o7 = some t7) : termAt? w' b0 o0 = some t0 ∧ termAt? w' b1 o1 = some t1 ∧ termAt? w' b2 o2 = some t2 ∧ termAt? w' b3 o3 = some t3 ∧ termAt? w' b4 o4 = some t4 ∧ termAt? w' b5 o5 = some t5 ∧ termAt? w' b6 o6 = some t6 ∧ termAt? w' b7 o7 = some t7 := ⟨termAt_on hb h.1, termAt_on hb h.2.1, termAt_on hb h.2.2.1, termAt_on hb h.2.2.2.1, termAt_on hb h.2.2.2.2.1, termAt_on hb h.2.2.2.2.2.1, termAt_on hb h.2.2.2.2.2.2.1, termAt_on hb h.2.2.2.2.2.2.2⟩
set_option maxHeartbeats 3200000 in
theorem compareQuads_any (w : World) (a b : Quad) :
    Calls Try.prog 15 #[quadV a, quadV b] w fun e w' => e = .returned (.int .i64 (quadCmp a b)) ∧ Below w.heap.size w w' := by
  go_enter Try.func15, Try.ntmps15
  go_wp2_with fail
  have hA : Blk _ w.heap.size 26 (quadA a) := (Blk.new w _ _).alloc (.cells (quadA b) 26)
  have hB : Blk ((w.alloc (.cells (quadA a) 26)).alloc (.cells (quadA b) 26)) (w.heap.size + 1) 26 (quadA b) := Blk.new' (by simp)
  have hW0 : Below w.heap.size w ((w.alloc (.cells (quadA a) 26)).alloc (.cells (quadA b) 26)) := ((Below.refl _ _).alloc (Nat.le_refl _) _).alloc (by simp) _
  generalize ((w.alloc (.cells (quadA a) 26)).alloc (.cells (quadA b) 26)) = W at *
  have qa := QuadAt.of_blk hA
  have qb := QuadAt.of_blk hB
  obtain ⟨a0, a1, a2, a3⟩ := qa
  obtain ⟨b0, b1, b2, b3⟩ := qb
  simp only [Nat.zero_add] at a1 a2 a3 b1 b2 b3
  clear hA hB
  go_region_held3 (fun w' => termAt? w' w.heap.size 0 = some a.s ∧ termAt? w' w.heap.size 4 = some a.p ∧ termAt? w' w.heap.size 8 = some a.o ∧ termAt? w' w.heap.size 12 = some a.g
     ∧ termAt? w' (w.heap.size + 1) 0 = some b.s ∧ termAt? w' (w.heap.size + 1) 4 = some b.p ∧ termAt? w' (w.heap.size + 1) 8 = some b.o ∧ termAt? w' (w.heap.size + 1) 12 = some b.g)
    (first | exact keep8 (Below.refl _ _).drew ⟨a0, a1, a2, a3, b0, b1, b2, b3⟩ | exact keep8 hb (by assumption) | exact keep8 ((Below.refl _ _).alloc (Nat.le_refl _) _) (by assumption))
    (first
      | (go_at_call 13; refine (compare_any _ _ _).mono ?_; rintro e w' ⟨rfl, hb⟩; replace hW0 : Below w.heap.size w w' := (by first | exact step_on hW0 (Nat.le_refl _) hb | exact step_drew hW0 (Nat.le_refl _) hb))
      | (go_at_call 37; refine (or4_alloc _ _ _ _ _ _ _ rfl).mono ?_; rintro e w' ⟨rfl, hb⟩; replace hW0 : Below w.heap.size w w' := step_on (hW0.alloc hW0.size _) (Nat.le_refl _) hb))
  all_goals
    go_wp2
    go_ret
    exact ⟨congrArg (fun x => Ending.returned (.int .i64 x)) (orI_quad a b), hW0⟩
end Go.Proofs.Ytpffclpheldabaa
