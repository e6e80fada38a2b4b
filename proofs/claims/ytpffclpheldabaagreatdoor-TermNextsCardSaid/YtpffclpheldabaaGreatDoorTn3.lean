/- Part 3 of the texts that the last one leans on: Build3, Err, Unesc1, Iri, Iri2, Names1, Part1, Split1, Tag1, Tag2. Conditions: as each part says. -/
import Derived.Lib.FrozenHead2
import Derived.Test.YtpffclpheldabaaGreatDoorTn2
/- strings.Builder: Write. Conditions: none. -/
set_option linter.unusedVariables false
set_option linter.unusedSimpArgs false
set_option maxRecDepth 100000
namespace Go.Proofs.YtpffclpheldabaaGreatDoor
open Go.Sx Go.RowKit
section
variable {P : Program}
/-- The law of an append of a slice's bytes, with the number of draws. -/
theorem append_sl (w : World) (t ty e : TypeId) (i : TypeInfo) (ht : P.underlying t = some (.slice e)) (hi : P.info? e = some i) (hz : i.zero = some (.int .u8 0)) (hsize : i.size = 1) (hby : i.bytes = 1)
    (v : Value) (n : Nat) (xs : List Value) (hown : w.ownsRowF 0 e 1 v n xs) (ad : Addr) (m c : Nat) (news : List Value) (hm0 : 0 < m) (hl : news.length = m) (hnews : ∀ j u, news[j]? = some u → w.cell? (ad.add j) = some u) (h1 : ∀ u ∈ news, u.oneCell' = true)
    (h63 : n + m ≤ 140737488355328) :
    ∃ v' w', (Builtin.append_ #[t, t] ty #[v, .slice (some ad) m c]).run P w = .ok v' w' ∧ w'.ownsRowF 0 e 1 v' (n + m) (xs ++ news) ∧ w.grownBy w' v.ownBlock ∧ w.drawn ≤ w'.drawn ∧ ∀ k, v'.ownBlock = some k → v.ownBlock = some k ∨ w.heap.size ≤ k := by
  have hm : n + m ≤ maxLen := by unfold maxLen; omega
  obtain ⟨v', w', hr, h2, h3, _⟩ := run_append_ownF (P := P) w 0 t ty e i (.int .u8 0) 1 1 ht hi hz hsize hby rfl (by omega) v n xs hown ad m c news (by omega) hnews h1 hm (by omega) (Nat.zero_le _)
  refine ⟨v', w', hr, h2, h3, ?_⟩
  rcases hown.2 with ⟨rfl, rfl⟩ | ⟨g, cap, cur, fz, rfl, hbg, hg, hfz, hnc, hcm, hcs, htake⟩
  · rw [run_append_nil (P := P) w t ty e i (.int .u8 0) ht hi hz ad m c news (by rw [hsize]; omega) hnews hm0 (by omega) (by rw [hby]; omega)] at hr
    injection hr with hv hr
    rw [← hr, ← hv]
    refine ⟨Nat.le_succ _, fun k hk => .inr ?_⟩
    simp only [Value.ownBlock, Option.some.injEq] at hk
    omega
  · by_cases hroom : n + m ≤ cap
    · rw [run_append_roomF (P := P) w t ty e i ht hi g n cap cur fz hg (by rw [hsize]; exact hfz) ad m c news (by rw [hsize]; omega) hnews h1 hroom (by rw [hsize]; omega)] at hr
      injection hr with hv hr
      rw [← hr, ← hv]; exact ⟨Nat.le_refl _, fun k hk => .inl hk⟩
    · have hxl : xs.length = n := by simpa using hown.1
      have holds : ∀ j u, xs[j]? = some u → w.cell? ((⟨g, 0, none⟩ : Addr).add j) = some u := hown.cells (g := g) rfl
      rw [run_append_grow (P := P) w t ty e i (.int .u8 0) ht hi hz ⟨g, 0, none⟩ n cap xs (by rw [hsize]; simpa using hxl) holds ad m c news (by rw [hsize]; omega) hnews (by omega) (by omega) (by rw [hby]; exact growslice_fits (by omega) (by omega))] at hr
      injection hr with hv hr
      rw [← hr, ← hv]
      refine ⟨Nat.le_succ _, fun k hk => .inr ?_⟩
      simp only [Value.ownBlock, Option.some.injEq] at hk
      omega
theorem wpList_append_sl {ops : Array Oper} {rest : List Oper} {o : Oper} {a : Act} {w : World} {Q : Exit → Act → World → Prop} (hgd : o.guard = none) (sl x : Operand) (t : TypeId)
    (ho : o.op = .call { callee := .builtin .append, args := #[sl, x], argTypes := #[t, t] })
    (e : TypeId) (i : TypeInfo) (ht : P.underlying t = some (.slice e)) (hi : P.info? e = some i) (hz : i.zero = some (.int .u8 0)) (hsize : i.size = 1) (hby : i.bytes = 1)
    (v : Value) (n : Nat) (xs : List Value) (hs : a.eval sl = v) (hown : w.ownsRowF 0 e 1 v n xs) (ad : Addr) (m c : Nat) (news : List Value) (hx : a.eval x = .slice (some ad) m c) (hm0 : 0 < m) (hl : news.length = m) (hnews : ∀ j u, news[j]? = some u → w.cell? (ad.add j) = some u) (h1 : ∀ u ∈ news, u.oneCell' = true)
    (h63 : n + m ≤ 140737488355328)
    (h : ∀ v' w', w'.ownsRowF 0 e 1 v' (n + m) (xs ++ news) → w.grownBy w' v.ownBlock → w.drawn ≤ w'.drawn → (∀ k, v'.ownBlock = some k → v.ownBlock = some k ∨ w.heap.size ≤ k) → wpList P ops Q rest (a.put o.dst v') w') : wpList P ops Q (o :: rest) a w := by
  refine wpList_plain hgd fun K hK => ?_
  obtain ⟨v', w', hr, h2, h3, h4, h5⟩ := append_sl (P := P) w t o.type e i ht hi hz hsize hby v n xs hown ad m c news hm0 hl hnews h1 h63
  unfold Oper.wp execOp
  simp only [ho, resolve, invoke, builtin, Sem.run_bind, Sem.run_pure, Result.andThen_ok, List.map_toArray, List.map_cons, List.map_nil, hs, hx, hr]
  exact hK _ _ (h v' w' h2 h3 h4 h5)
end
/-- At a place the bytes of a text are read. -/
structure ReadsB (w : World) (g o : Nat) (s : List UInt8) : Prop where
  out : ∀ j u, (Lib.byteCells s)[j]? = some u → w.cell? ((⟨g, o, none⟩ : Addr).add j) = some u
set_option maxHeartbeats 1000000 in
theorem wr_any (b g o c : Nat) (bs : List Value) (s : List UInt8) (hs0 : s ≠ []) (w : World) (h : Lib.IsBuilderF TB TU 0 b bs w) (hlen : bs.length + s.length ≤ 140737488355328) (hgb : g ≠ b)
    (hcells : ReadsB w g o s) :
    Calls Tryz.prog 110 #[.pointer (some ⟨b, 0, none⟩), .slice (some ⟨g, o, none⟩) s.length c] w fun e w' => e = .returned (.tuple #[.int .i64 s.length, .nilIface]) ∧ Lib.BuilderAtF TB TU 0 b (.pointer (some ⟨b, 0, none⟩)) (bs ++ Lib.byteCells s) w' ∧ Stays b w w' := by
  obtain ⟨i0, hi, hz0, hz1, hz2⟩ := info_parts (show (Tryz.prog.info? TU).map (fun i => (i.zero, i.size, i.bytes)) = some (some (.int .u8 0), 1, 1) by kernel_rfl)
  go_enter Tryz.func110, Tryz.ntmps110
  go_wp2_with (go_at_call 97; refine (cc_any b bs _ h).mono ?_)
  rintro e w1 ⟨rfl, h1, hw1⟩
  obtain ⟨hB, v, hbk, hown, hne⟩ := h1
  have c0 : w1.cell? ⟨b, 0, none⟩ = some (.pointer (some ⟨b, 0, none⟩)) := by rw [Lib.cell_of_heap hbk]; rfl
  have c1 : w1.cell? ⟨b, 1, none⟩ = some v := by rw [Lib.cell_of_heap hbk]; rfl
  have hcells1 : ReadsB w1 g o s := by
    refine ⟨fun j u hu => ?_⟩
    rw [← hcells.out j u hu]
    rcases hw1 with rfl | rfl
    · rfl
    · apply World.cell?_setCell_other
      intro e
      rw [Addr.add_lit] at e
      exact hgb (congrArg Addr.block e).symm
  go_wp2_with (at_builtin; refine wpList_append_sl rfl _ _ 93 rfl TU i0 Tryz.underlying93 hi hz0 hz1 hz2 _ _ _ rfl hown ⟨g, o, none⟩ s.length c (Lib.byteCells s) rfl (List.length_pos_iff.2 hs0) (Lib.byteCells_length s) hcells1.out ?c2 ?c3 ?_)
  case c2 => intro u hu; simp only [Lib.byteCells, List.mem_map] at hu; obtain ⟨x, _, rfl⟩ := hu; rfl
  case c3 => exact hlen
  intro v' w2 hown' hgrow hdr hnew
  have hlt : b < w1.heap.size := (Array.getElem?_eq_some_iff.1 hbk).1
  have hb2 : w2.heap[b]? = some (.cells #[.pointer (some ⟨b, 0, none⟩), v] TB (0, 0)) := by
    rw [hgrow.block b hlt (fun e => hne e.symm)]
    exact hbk
  have d0 : w2.cell? ⟨b, 0, none⟩ = some (.pointer (some ⟨b, 0, none⟩)) := by rw [Lib.cell_of_heap hb2]; rfl
  have d1 : w2.cell? ⟨b, 1, none⟩ = some v := by rw [Lib.cell_of_heap hb2]; rfl
  have f1 : w2.frozen? ⟨b, 1, none⟩ = false := Lib.frozen_of_heap hb2 1
  obtain ⟨ao, n', cap, rfl⟩ : ∃ ao n' cap, v' = .slice ao n' cap := by
    rcases hown'.2 with ⟨hv, _⟩ | ⟨g, cap, cur, fz, hv, _⟩
    · exact ⟨_, _, _, hv⟩
    · exact ⟨_, _, _, hv⟩
  have other : ∀ k, k ≠ b → w1.heap[k]? = w.heap[k]? := by
    intro k hk
    rcases hw1 with rfl | rfl
    · rfl
    · exact Below.heap_setCell _ _ _ _ (fun e => hk (by simp [e]))
  have hsz1 : w1.heap.size = w.heap.size := by rcases hw1 with rfl | rfl <;> simp [World.setCell]
  have hkid : ∀ k, v.ownBlock = some k → kid w b (.bld TB TU []) k := by
    intro k hk
    simp only [kid]
    rcases hw1 with rfl | rfl
    · exact ⟨_, _, _, v, hbk, rfl, hk⟩
    · simp only [World.setCell, Array.getElem?_modify, if_pos, Option.map_eq_some_iff] at hbk
      obtain ⟨o, ho, hoc⟩ := hbk
      cases o with
      | cells arr T fz =>
        simp only [Obj.cells.injEq] at hoc
        obtain ⟨h1, h2, h3⟩ := hoc
        refine ⟨arr, T, fz, v, ho, ?_, hk⟩
        have := congrArg (fun a => a[1]?) h1
        simpa using this
      | _ => cases hoc
  go_wp2
  go_ret2
  refine ⟨rfl, ?_, ?_⟩
  · exact Lib.BuilderAtF.put (T := TB) (e := TU) hB hb2 (bs' := bs ++ Lib.byteCells s) (by simpa [Lib.byteCells_length] using hown') (by decide)
  · have w1os : w1.os = w.os ∧ w1.tape = w.tape ∧ w1.output = w.output ∧ w1.drawn = w.drawn := by rcases hw1 with rfl | rfl <;> exact ⟨rfl, rfl, rfl, rfl⟩
    refine ⟨hgrow.os.trans w1os.1, hgrow.tape.trans w1os.2.1, hgrow.output.trans w1os.2.2.1, by have h1 := w1os.2.2.2; show w.drawn ≤ w2.drawn; omega, ?_, fun k hk hkb hkk => ?_, fun k hk => ?_⟩
    · have := hgrow.size
      simp only [World.setCell, Array.size_modify]
      omega
    · have e1 : (w2.setCell ⟨b, 1, none⟩ (.slice ao n' cap)).heap[k]? = w2.heap[k]? := Below.heap_setCell _ _ _ _ (fun e => hkb (by simp [e]))
      rw [e1, hgrow.block k (by omega) (fun e => hkk (hkid k e.symm)), other k hkb]
    · have e2 : (w2.setCell ⟨b, 1, none⟩ (.slice ao n' cap)).heap[b]? = some (.cells #[.pointer (some ⟨b, 0, none⟩), .slice ao n' cap] TB (0, 0)) := by
        simp [World.setCell, Array.getElem?_modify, hb2]
      simp only [kid] at hk
      obtain ⟨arr, T, fz, u, k1, k2, k3⟩ := hk
      rw [e2] at k1
      injection k1 with k1
      injection k1 with k1
      subst k1
      simp at k2
      subst k2
      rcases hnew k k3 with h1 | h1
      · exact .inl (hkid k h1)
      · exact .inr (by omega)
/-- From what a function does to a builder, beside memory that it only looks at, to the engine's contract. -/
theorem bld_doesS {f : FuncId} {rest : List SV} {l l' : List UInt8} {r : SV} {k : Nat} {S : Hps} (hcall : ∀ args w, (callFunc f args).run Tryz.prog w = .ok (.enter f args) w)
    (h : ∀ (η : Env) (b : Nat) (vs : List Value) (w : World), η.length = k → DenL η rest vs → Lib.IsBuilderF TB TU 0 b (Lib.byteCells l) w → (∀ i hp, lkpB (.loc i) (shB S) = some hp → HpSat η w false (.loc i) hp ∧ ∀ n, feet η w (.loc i) hp n → n ≠ b) →
      Calls Tryz.prog f ⟨.pointer (some ⟨b, 0, none⟩) :: vs⟩ w fun e w' => ∃ v, e = .returned v ∧ Den η r v ∧ Lib.IsBuilderF TB TU 0 b (Lib.byteCells l') w' ∧ Stays b w w') :
    Does Tryz.prog tab f k (.ptr (.loc 0) 0 0 0 :: rest) [(0, .bld TB TU l)] S fun r' O nx => r' = r ∧ O = [(0, .bld TB TU l')] ∧ nx = k := by
  refine ⟨fun M vs hP hT hF hS H hd => .inl ⟨f, by rw [hP]; exact hcall _ _, ?_⟩⟩
  obtain ⟨hsat, hfeet⟩ := H.own.1 0 _ rfl
  simp only [HpSat] at hsat
  obtain ⟨e, he, hb, hB⟩ := hsat
  simp only [DenL] at hd
  obtain ⟨u, us, rfl, hu, hus⟩ := hd
  simp only [Den] at hu
  obtain ⟨e', he', rfl⟩ := hu
  rw [he] at he'; injection he' with he'; injection he' with he'; subst he'
  rw [hP, hb]
  have hFb : M.F e.g := by rw [hF]; exact ⟨0, _, rfl, feet.own he⟩
  refine (h M.η0 e.g us M.w0 H.len hus hB fun i hp hi => ?_).mono fun en w' => ?_
  · obtain ⟨q1, q2⟩ := H.sok (.loc i) hp (by simp only [lkS, hS]; exact hi)
    exact ⟨q1, fun n hn e => (q2 n hn).2 (e ▸ hFb)⟩
  rintro ⟨v, rfl, hv, hB', hst⟩
  refine ⟨v, rfl, r, _, k, M.η0, ⟨rfl, rfl, rfl⟩, List.prefix_rfl, ⟨List.prefix_rfl, H.len, ⟨?_, ?_⟩, ⟨hst.os, hst.tape, hst.output, hst.drawn, hst.size, ?_⟩, H.sok⟩, hv⟩
  · intro i g hi
    rw [lkp_cons] at hi
    split at hi
    · rename_i ei; subst ei; injection hi with hi; subst hi
      refine ⟨⟨e, he, hb, hB'⟩, fun k f => ?_⟩
      rcases f.of he with rfl | f
      · exact hfeet _ (feet.own he)
      · rcases hst.kids k f with f | f
        · exact hfeet k ⟨e, he, .inr f⟩
        · exact .inr f
    · simp [lkp] at hi
  · intro i j g g' k hi hj hij
    rw [lkp_cons] at hi hj
    split at hi
    · split at hj
      · rename_i e1 e2; exact (hij (e1.trans e2.symm)).elim
      · simp [lkp] at hj
    · simp [lkp] at hi
  · intro k hk hFk
    refine hst.block k hk (fun hkb => hFk (hkb ▸ hFb)) fun f => hFk ?_
    rw [hF]; exact ⟨0, _, rfl, e, he, .inr f⟩
theorem write_does (l s : List UInt8) (hs0 : s ≠ []) (hlen : l.length + s.length ≤ 140737488355328) :
    Does Tryz.prog tab 110 2 [.ptr (.loc 0) 0 0 0, .sl (.loc 1) 0 1 s.length none] [(0, .bld TB TU l)] [(1, .rows 1 (s.map Sx.bytesRow))] fun r O nx => r = .tup [.int .i64 s.length, .val .nilIface] ∧ O = [(0, .bld TB TU (l ++ s))] ∧ nx = 2 := by
  refine bld_doesS Tryz.call110 fun η b vs w hk hd hB hS => ?_
  simp only [DenL] at hd
  obtain ⟨u, us, rfl, hu, rfl⟩ := hd
  obtain ⟨h1, h2⟩ := hS 1 (.rows 1 (s.map Sx.bytesRow)) rfl
  simp only [Den] at hu
  simp only [HpSat] at h1
  rcases h1 with ⟨_, h1⟩ | ⟨e, arr, T, fz, he, hh, _, hrow⟩
  · exact absurd (List.map_eq_nil_iff.1 h1) hs0
  rcases hu with ⟨hu, _⟩ | ⟨e', o, he', rfl, _, _, ho⟩
  · rw [he] at hu; cases hu
  rw [he] at he'; injection he' with he'; injection he' with he'; subst he'
  have ho := ho (by simp)
  simp only [Nat.zero_mul, Nat.add_zero] at ho
  subst ho
  have hgb : e.g ≠ b := h2 _ (feet.own he)
  refine (wr_any b e.g e.base _ (Lib.byteCells l) s hs0 w hB (by rw [Lib.byteCells_length]; exact hlen) hgb ⟨fun j u hu => ?_⟩).mono fun en w' => ?_
  · simp only [Lib.byteCells, List.getElem?_map, Option.map_eq_some_iff] at hu
    obtain ⟨x, hx, rfl⟩ := hu
    obtain ⟨_, hc⟩ := hrow j (Sx.bytesRow x) (by rw [List.getElem?_map, hx]; rfl)
    obtain ⟨v, hv, _, hd⟩ := hc 0 (.int .u8 (x.toNat : Int)) rfl
    simp only [Den] at hd
    subst hd
    simp only [Nat.mul_one, Nat.add_zero] at hv
    rw [Addr.add_lit]
    simp only [World.cell?, hh]
    simpa using hv
  · rintro ⟨rfl, h1, h2⟩
    refine ⟨_, rfl, ?_, .inr ?_, h2⟩
    · simp only [Den, DenL]
      exact ⟨_, rfl, _, _, rfl, rfl, _, _, rfl, ⟨rfl, rfl⟩, rfl⟩
    · have : Lib.byteCells (l ++ s) = Lib.byteCells l ++ Lib.byteCells s := by simp [Lib.byteCells]
      rw [this]; exact h1
end Go.Proofs.YtpffclpheldabaaGreatDoor
/- Errors with a place: names of their types, and the calls that make them. Conditions: none. -/
set_option linter.unusedVariables false
namespace Go.Proofs.YtpffclpheldabaaGreatDoor
open Go.Sx
abbrev TBE : TypeId := 78
abbrev TER : TypeId := 24
/-- An error with a place, in a box of its own. -/
def errSV (k : Nat) : SV := .ifc TBE (.ptr (.loc k) 0 0 0)
def errHp (at_ code : Int) : Hp := .box [.int .i64 at_, .ifc TER (.int .i64 code)]
def NewErr (k : Nat) (at_ code : Int) : SV → Hps → Nat → Prop := fun r O nx => r = errSV k ∧ O = [(k, errHp at_ code)] ∧ nx = k + 1
theorem CALL.err {M : Mx} {f : FuncId} {args : List SV} {O : Hps} {nx : Nat} {K : SV → Hps → Nat → Prop} {a e : Int} (sp : Does M.P M.C.T f 0 args [] [] (NewErr 0 a e)) (hp : plainL args = true) (hK : K (errSV nx) ((nx, errHp a e) :: O) (nx + 1)) : CALL M f args O nx K := by
  refine CALL.of [] sp rfl (fun i hi => by cases hi) (renL_plain _ hp).symm (plainL_below 0 hp) (fun p hp => by cases hp) (fun j hj => by cases hj) (fun p hp => by cases hp) ?_
  rintro r' O' nx' ⟨rfl, rfl, rfl⟩
  simp only [errSV, errHp, ren, renB, renO, renH, renL, cname_ge (L := []) (nx := nx) (k := 0) rfl, namesOf, List.map_nil, outside_nil, List.cons_append, List.nil_append]
  exact hK
/-- The same, where the error is a tuple's last. -/
def NewErrT (vs : List SV) (at_ code : Int) : SV → Hps → Nat → Prop := fun r O nx => r = .tup (vs ++ [errSV 0]) ∧ O = [(0, errHp at_ code)] ∧ nx = 1
theorem renL_app (σ : Nat → Nat) : ∀ a b : List SV, renL σ (a ++ b) = renL σ a ++ renL σ b
  | [], b => rfl
  | x :: a, b => by simp only [List.cons_append, renL, renL_app σ a b]
theorem CALL.errT {M : Mx} {f : FuncId} {args : List SV} {O : Hps} {nx : Nat} {K : SV → Hps → Nat → Prop} {a e : Int} (vs : List SV) (sp : Does M.P M.C.T f 0 args [] [] (NewErrT vs a e)) (hp : plainL args = true) (hv : plainL vs = true) (hK : K (.tup (vs ++ [errSV nx])) ((nx, errHp a e) :: O) (nx + 1)) : CALL M f args O nx K := by
  refine CALL.of [] sp rfl (fun i hi => by cases hi) (renL_plain _ hp).symm (plainL_below 0 hp) (fun p hp => by cases hp) (fun j hj => by cases hj) (fun p hp => by cases hp) ?_
  rintro r' O' nx' ⟨rfl, rfl, rfl⟩
  simp only [errSV, errHp, ren, renB, renO, renH, renL, renL_app, renL_plain _ hv, cname_ge (L := []) (nx := nx) (k := 0) rfl, namesOf, List.map_nil, outside_nil, List.cons_append, List.nil_append]
  exact hK
end Go.Proofs.YtpffclpheldabaaGreatDoor
/- utf.Unescape, walked. Conditions: none. -/
set_option linter.unusedVariables false
set_option linter.unusedSimpArgs false
set_option maxRecDepth 20000
namespace Go.Proofs.YtpffclpheldabaaGreatDoor
open Go.Sx Go.Our
theorem wrong_does (a e : Int) : Does Tryz.prog tab 60 0 [.int .i64 a, .int .i64 e] [] [] (NewErr 0 a e) := by
  refine Does.enter tabOK (g := 60) (fn := Tryz.f60) Tryz.call60 Tryz.func60 rfl 11 rfl rfl [.tmp 4] rfl ?_
  intro w0 F η0 h0
  conv => whnf
  repeat' ((first | with_reducible refine IF.tt ?_ | with_reducible refine IF.ff ?_ | ((with_reducible refine NEED.mk ?_ ?_); (first | with_reducible rfl | omega | (simp (disch := omega) only [lnB, wrap64, wrap32] <;> omega) | (intro h; (try simp (disch := omega) only [hsB, hsC, lnB, wrap64, wrap32, simprocAttr] at h); (first | omega | (simp (disch := omega) only [lnB, wrap64, wrap32] <;> omega))) | (exact needApp 256 rfl rfl (by simp) (by simp) (by omega)) | (simp <;> omega))) | ((with_reducible apply GET.at); rfl) | ((with_reducible apply GETG.at); rfl) | ((with_reducible refine IF.mk (fun h => ?_) (fun h => ?_)) <;> (try simp (disch := omega) only [hsB, hsC, lnB, wrap64, wrap32, simprocAttr] at h) <;> try (exfalso; omega))) <;> conv => whnf)
  refine FIN.at h0 [0] (errSV 0) [(0, errHp a e)] rfl rfl rfl (by first | rfl | (simp only [belowO, belowH, plainLL_below _ (plainStrs _), Bool.and_self, Bool.and_true] <;> rfl)) (by repeat' (first | exact trivial | exact (renH_plain _ (h := .rows _ _) (plainStrs _)).symm | (with_reducible rfl) | (exact rows_eq (plainStrs _) (by simp [strRow, ofVal, List.take_of_length_le])) | exact rfl | ((conv => whnf); refine ⟨?_, ?_⟩))) rfl ?_
  exact ⟨rfl, rfl, rfl⟩
theorem hex_does (c : Int) (hc : 0 ≤ c ∧ c < 256) : Does Tryz.prog tab 180 0 [.int .u8 c] [] [] (Val (.int .i64 (hexV c))) := by
  refine Does.enter tabOK (g := 180) (fn := Tryz.f180) Tryz.call180 Tryz.func180 rfl 35 rfl rfl [.tmp 2] rfl ?_
  intro w0 F η0 h0
  conv => whnf
  repeat' ((first | with_reducible refine IF.tt ?_ | with_reducible refine IF.ff ?_ | ((with_reducible refine NEED.mk ?_ ?_); (first | with_reducible rfl | omega | (simp (disch := omega) only [lnB, wrap64, wrap32] <;> omega) | (intro h; (try simp (disch := omega) only [hsB, hsC, lnB, wrap64, wrap32, simprocAttr] at h); (first | omega | (simp (disch := omega) only [lnB, wrap64, wrap32] <;> omega))) | (exact needApp 256 rfl rfl (by simp) (by simp) (by omega)) | (simp <;> omega))) | ((with_reducible apply GET.at); rfl) | ((with_reducible apply GETG.at); rfl) | ((with_reducible refine IF.mk (fun h => ?_) (fun h => ?_)) <;> (try simp (disch := omega) only [hsB, hsC, lnB, wrap64, wrap32, simprocAttr] at h) <;> try (exfalso; omega))) <;> conv => whnf)
  all_goals
    refine FIN.value h0 rfl (congrArg (SV.int _) ?_)
    unfold hexV
    simp (disch := omega) only [↓if_pos, ↓if_neg, wrapu8, wrap64]
def numS (s : List UInt8) (k : Nat) : SV := match numR s 0 k 0 with
  | none => .tup [.int .i32 0, .bool false]
  | some r => .tup [.int .i32 (IntKind.i32.wrap r), .bool (decide (r ≤ 1114111) && scalarM (IntKind.i32.wrap r))]
theorem number_does (s : List UInt8) (k : Nat) (hk : k = 4 ∨ k = 8) (hs : Sm s) : Does Tryz.prog tab 148 0 [.str s, .int .i64 (k : Int)] [] [] (Val (numS s k)) := by
  refine Does.enter tabOK (g := 148) (fn := Tryz.f148) Tryz.call148 Tryz.func148 rfl 37 rfl rfl [.tmp 4, .tmp 5] rfl ?_
  intro w0 F η0 h0
  conv => whnf
  repeat' ((first | with_reducible refine IF.tt ?_ | with_reducible refine IF.ff ?_ | ((with_reducible refine NEED.mk ?_ ?_); (first | with_reducible rfl | omega | (simp (disch := omega) only [lnB, wrap64, wrap32] <;> omega) | (intro h; (try simp (disch := omega) only [hsB, hsC, lnB, wrap64, wrap32, simprocAttr] at h); (first | omega | (simp (disch := omega) only [lnB, wrap64, wrap32] <;> omega))) | (exact needApp 256 rfl rfl (by simp) (by simp) (by omega)) | (simp <;> omega))) | ((with_reducible apply GET.at); rfl) | ((with_reducible apply GETG.at); rfl) | ((with_reducible refine IF.mk (fun h => ?_) (fun h => ?_)) <;> (try simp (disch := omega) only [hsB, hsC, lnB, wrap64, wrap32, simprocAttr] at h) <;> try (exfalso; omega))) <;> conv => whnf)
  · refine FIN.value h0 rfl ?_
    unfold numS; rw [numR_short (by omega) (by omega)]
  refine LOOP.go tabOK [0, 13] (X := Nat × Int) (fun x => x.1 ≤ k ∧ (0 ≤ x.2 ∧ x.2 < ((16 ^ x.1 : Nat) : Int)) ∧ numR s 0 k 0 = numR s x.1 (k - x.1) x.2) (fun x => [(14, .int .i64 (x.1 : Int)), (6, .int .i64 x.2)]) (fun _ => []) 0 (fun x => k - x.1) (0, 0) ⟨by simp, by simp, rfl⟩ ?_
  conv => whnf
  refine ⟨by (refine GOES.cutting h0 rfl rfl rfl (by first | rfl | simp [belowO, belowH, plainLL_below, plainLL_map, plainL, plain]) ?_ ?_ <;> (repeat' (first | (with_reducible rfl) | (exact congrArg (fun n => SV.sl _ _ _ n _) (by simp)) | (exact congrArg (Hp.rows _) (by simp)) | (exact congrArg (SV.int _) (by first | omega | (simp (disch := omega) only [lnB, wrap64, wrap32] <;> omega) | (simp; done) | (simp <;> omega))) | ((conv => whnf); refine ⟨?_, ?_⟩) | exact trivial | (simp; done) | rfl))), ?_⟩
  rintro ⟨i, n⟩ ⟨hi, hn, hc⟩
  dsimp only at hi hn hc ⊢
  have hp8 : (16 : Nat) ^ i ≤ 4294967296 := Nat.le_trans (pow16 (show i ≤ 8 by omega)) (by decide)
  conv => whnf
  have hb := byteAt_lt s i
  have hx := hexV_lt (byteAt s i)
  repeat' ((first | with_reducible refine IF.tt ?_ | with_reducible refine IF.ff ?_ | refine CALL.value (hex_does _ hb) rfl rfl ?_ | refine CALL.value (scalar_does _) rfl rfl ?_ | ((with_reducible refine NEED.mk ?_ ?_); (first | with_reducible rfl | omega | (simp (disch := omega) only [lnB, wrap64, wrap32] <;> omega) | (intro h; (try simp (disch := omega) only [hsB, hsC, lnB, wrap64, wrap32, simprocAttr] at h); (first | omega | (simp (disch := omega) only [lnB, wrap64, wrap32] <;> omega))) | (exact needApp 256 rfl rfl (by simp) (by simp) (by omega)) | (simp <;> omega))) | ((with_reducible apply GET.at); rfl) | ((with_reducible apply GETG.at); rfl) | ((with_reducible refine IF.mk (fun h => ?_) (fun h => ?_)) <;> (try simp (disch := omega) only [hsB, hsC, lnB, wrap64, wrap32, simprocAttr] at h) <;> try (exfalso; omega))) <;> conv => whnf)
  · refine FIN.value h0 rfl ?_
    unfold numS
    rw [hc, show k - i = (k - (i + 1)) + 1 by omega, numR_no (by omega)]
  · have hp7 : (16 : Nat) ^ i ≤ 268435456 := Nat.le_trans (pow16 (show i ≤ 7 by omega)) (by decide)
    refine ⟨(i + 1, n * 16 + hexV (byteAt s i)), ⟨by simp only; omega, ?_, ?_⟩, by simp only; omega, ?_⟩
    · simp only [Nat.pow_succ]; omega
    · simp only
      rw [hc, show k - i = (k - (i + 1)) + 1 by omega, numR_step (by omega) (by omega)]
    · dsimp only
      rw [or4 (by omega) (by omega)]
      conv => whnf
      (refine GOES.cutting h0 rfl rfl rfl (by first | rfl | simp [belowO, belowH, plainLL_below, plainLL_map, plainL, plain]) ?_ ?_ <;> (repeat' (first | (with_reducible rfl) | (exact congrArg (fun n => SV.sl _ _ _ n _) (by simp)) | (exact congrArg (Hp.rows _) (by simp)) | (exact congrArg (SV.int _) (by first | omega | (simp (disch := omega) only [lnB, wrap64, wrap32] <;> omega) | (simp; done) | (simp <;> omega))) | ((conv => whnf); refine ⟨?_, ?_⟩) | exact trivial | (simp; done) | rfl)))
  all_goals
    have hz : numR s 0 k 0 = some n := by rw [hc, show k - i = 0 by omega, numR]
    unfold numS
    rw [hz]
    refine FIN.value h0 rfl ?_
    simp (disch := omega) only [hsB, decide_eq_true, decide_eq_false, Bool.true_and, Bool.false_and]
theorem number_yes {s : List UInt8} {k : Nat} (hk : k = 4 ∨ k = 8) (hs : Sm s) (h : 0 ≤ numM s 0 k) : Does Tryz.prog tab 148 0 [.str s, .int .i64 (k : Int)] [] [] (Val (.tup [.int .i32 (numM s 0 k), .bool true])) := by
  have := number_does s k hk hs
  unfold numS at this
  have hsc := numM_scalar h
  unfold numM at *
  cases hc : numR s 0 k 0 with
  | none => rw [hc] at h; simp at h
  | some r =>
    rw [hc] at this h hsc
    simp only at this h hsc ⊢
    split at h
    · rename_i h1
      rw [if_pos h1]
      obtain ⟨h2, h3, h4⟩ := h1
      have hw : IntKind.i32.wrap r = r := wrap32 (by omega) (by omega)
      rw [hw, show scalarM r = true from scalarM_true.2 ⟨h2, h3, h4⟩, decide_eq_true h3] at this
      exact this
    · omega
theorem number_no {s : List UInt8} {k : Nat} (hk : k = 4 ∨ k = 8) (hs : Sm s) (h : numM s 0 k < 0) : ∃ x, Does Tryz.prog tab 148 0 [.str s, .int .i64 (k : Int)] [] [] (Val (.tup [.int .i32 x, .bool false])) := by
  have := number_does s k hk hs
  unfold numS at this
  unfold numM at *
  cases hc : numR s 0 k 0 with
  | none => rw [hc] at this; exact ⟨_, this⟩
  | some r =>
    have hr := numR_ge hc (by omega)
    rw [hc] at this h
    simp only at this h
    split at h
    · rename_i h1; exact absurd h1.1 (by omega)
    · rename_i h1
      refine ⟨IntKind.i32.wrap r, ?_⟩
      have hz : (decide (r ≤ 1114111) && scalarM (IntKind.i32.wrap r)) = false := by
        by_cases h2 : r ≤ 1114111
        · rw [show IntKind.i32.wrap r = r from wrap32 (by omega) (by omega), decide_eq_true h2, Bool.true_and]
          exact decide_eq_false h1
        · rw [decide_eq_false h2, Bool.false_and]
      rw [hz] at this
      exact this
theorem number_ok (s : List UInt8) (k : Nat) (hk : k = 4 ∨ k = 8) (hs : Sm s) : ∃ x b, Does Tryz.prog tab 148 0 [.str s, .int .i64 (k : Int)] [] [] (Val (.tup [.int .i32 x, .bool b])) ∧ (b = true → 0 ≤ numM s 0 k ∧ x = numM s 0 k) ∧ (b = false → numM s 0 k < 0) := by
  rcases Int.lt_or_le (numM s 0 k) 0 with h | h
  · obtain ⟨x, hx⟩ := number_no hk hs h
    exact ⟨x, false, hx, fun h => (by cases h), fun _ => h⟩
  · exact ⟨_, true, number_yes hk hs h, fun _ => ⟨h, rfl⟩, fun h => (by cases h)⟩
theorem needL {c : Int} (h : 0 ≤ Lib.indexByte [116, 98, 110, 114, 102, 34, 39, 92] c.toNat.toUInt8) (hl : 0 ≤ lIdx c → lIdx c < 8 ∧ IntKind.i32.wrap (byteAt meantB (lIdx c)) = letM c ∧ 0 ≤ letM c) :
    0 ≤ Lib.indexByte [116, 98, 110, 114, 102, 34, 39, 92] c.toNat.toUInt8 ∧ Lib.indexByte [116, 98, 110, 114, 102, 34, 39, 92] c.toNat.toUInt8 < ((meantB.length : Nat) : Int) :=
  ⟨h, (hl h).1⟩
theorem escape1_does (s : List UInt8) (way : Int) (hs : Sm s) : Does Tryz.prog tab 109 0 [.str s, .int .i64 way] [] [] (Val (.tup [.int .i32 (escapeM way s 0).1, .int .i64 (escapeM way s 0).2])) := by
  refine Does.enter tabOK (g := 109) (fn := Tryz.f109) Tryz.call109 Tryz.func109 rfl 48 rfl rfl [.tmp 4, .tmp 5] rfl ?_
  intro w0 F η0 h0
  conv => whnf
  have hb := byteAt_lt s 1
  have hl := lIdx_in hb
  have hsd : Sm (s.drop 2) := by simp; omega
  have e4 : numM (s.drop 2) 0 4 = numM s 2 4 := numM_drop s 2 0 4
  have e8 : numM (s.drop 2) 0 8 = numM s 2 8 := numM_drop s 2 0 8
  obtain ⟨x4, b4, z4, hb4, hc4⟩ := number_ok (s.drop 2) 4 (.inl rfl) hsd
  obtain ⟨x8, b8, z8, hb8, hc8⟩ := number_ok (s.drop 2) 8 (.inr rfl) hsd
  rw [e4] at hb4 hc4
  rw [e8] at hb8 hc8
  have hll : lettersB = [116, 98, 110, 114, 102, 34, 39, 92] := rfl
  have hmm : meantB = [9, 8, 10, 13, 12, 34, 39, 92] := rfl
  unfold lIdx at hl
  rw [hll, hmm] at hl
  repeat' ((first | with_reducible refine IF.tt ?_ | with_reducible refine IF.ff ?_ | refine CALL.value (z4) rfl rfl ?_ | refine CALL.value (z8) rfl rfl ?_ | refine CALL.value (indexByte_does _ _) rfl rfl ?_ | (refine NEED.mk (needL h.1 hl.1) ?_; conv => whnf) | ((with_reducible refine NEED.mk ?_ ?_); (first | with_reducible rfl | omega | (simp (disch := omega) only [lnB, wrap64, wrap32] <;> omega) | (intro h; (try simp (disch := omega) only [hsB, hsC, lnB, wrap64, wrap32, simprocAttr] at h); (first | omega | (simp (disch := omega) only [lnB, wrap64, wrap32] <;> omega))) | (exact needApp 256 rfl rfl (by simp) (by simp) (by omega)) | (simp <;> omega))) | ((with_reducible apply GET.at); rfl) | ((with_reducible apply GETG.at); rfl) | ((with_reducible refine IF.mk (fun h => ?_) (fun h => ?_)) <;> (try simp (disch := omega) only [hsB, hsC, lnB, wrap64, wrap32, simprocAttr] at h) <;> try (exfalso; omega))) <;> conv => whnf)
  all_goals
    refine FIN.value h0 rfl ?_
    unfold escapeM
    rw [show (((0 + 1 : Nat) : Nat) : Int) = 1 from rfl]
    simp only [Nat.zero_add]
    first
      | (rw [if_pos (by omega)]; done)
      | (rw [if_neg (by omega), if_pos (by assumption), if_pos (hb4 h).1, (hb4 h).2]; done)
      | (rw [if_neg (by omega), if_pos (by assumption), if_neg (by have := hc4 h; omega)]; done)
      | (rw [if_neg (by omega), if_neg (by assumption), if_pos (by assumption), if_pos (hb8 h).1, (hb8 h).2]; done)
      | (rw [if_neg (by omega), if_neg (by assumption), if_pos (by assumption), if_neg (by have := hc8 h; omega)]; done)
      | (rw [if_neg (by omega), if_neg (by assumption), if_neg (by assumption), if_pos ⟨h.2, (hl.1 h.1).2.2⟩, ← (hl.1 h.1).2.1]; done)
      | (rw [if_neg (by omega), if_neg (by assumption), if_neg (by assumption), if_neg (fun hh => h (Int.not_lt.1 fun h9 => by have := hl.2 h9; omega) hh.1)]; done)
      | trace_state
def UnescQ (u : (Nat × Int) ⊕ List UInt8) : SV → Hps → Nat → Prop := fun r O nx => match u with
  | .inl e => r = .tup [.str [], errSV 0] ∧ O = [(0, errHp e.1 e.2)] ∧ nx = 1
  | .inr l => r = .tup [.str l, .val .nilIface] ∧ O = [] ∧ nx = 0
theorem unescape_does (s : List UInt8) (way : Int) (hs : s.length ≤ 140737488351232) : Does Tryz.prog tab 71 0 [.str s, .int .i64 way] [] [] (UnescQ (unescM way s 0)) := by
  have hsm : Sm s := by omega
  refine Does.enter tabOK (g := 71) (fn := Tryz.f71) Tryz.call71 Tryz.func71 rfl 59 rfl rfl [.tmp 4, .tmp 5] rfl ?_
  intro w0 F η0 h0
  conv => whnf
  refine LOOP.go tabOK [0, 1, 6] (X := Nat × List UInt8) (fun x => x.1 ≤ s.length ∧ x.2.length ≤ x.1 ∧ unescM way s 0 = pre x.2 (unescM way s x.1)) (fun x => [(7, .int .i64 (x.1 : Int))]) (fun x => [(0, .bld TB TU x.2)]) 1 (fun x => s.length - x.1) (0, []) ⟨by simp, by simp, (pre_nil _).symm⟩ ?_
  conv => whnf
  refine ⟨by (refine GOES.cutting h0 rfl rfl rfl (by first | rfl | simp [belowO, belowH, plainLL_below, plainLL_map, plainL, plain]) ?_ ?_ <;> (repeat' (first | (with_reducible rfl) | (exact congrArg (fun n => SV.sl _ _ _ n _) (by simp)) | (exact congrArg (Hp.rows _) (by simp)) | (exact congrArg (SV.int _) (by first | omega | (simp (disch := omega) only [lnB, wrap64, wrap32] <;> omega) | (simp; done) | (simp <;> omega))) | ((conv => whnf); refine ⟨?_, ?_⟩) | exact trivial | (simp; done) | rfl))), ?_⟩
  rintro ⟨i, out⟩ ⟨hi, hol, hc⟩
  dsimp only at hi hol hc ⊢
  conv => whnf
  have hn := nextAt_n s i
  have hen := escapeM_n way s i
  have hed : Does Tryz.prog tab 109 0 [.str (s.drop ((i : Int)).toNat), .int .i64 way] [] [] (Val (.tup [.int .i32 (escapeM way s i).1, .int .i64 (escapeM way s i).2])) := by
    rw [show ((i : Int)).toNat = i by omega, ← escapeM_drop]
    exact escape1_does _ way (by simp; omega)
  repeat' ((first | with_reducible refine IF.tt ?_ | with_reducible refine IF.ff ?_ | refine CALL.value (hed) rfl rfl ?_ | refine CALL.value (next_does s _ hsm) rfl rfl ?_ | ((with_reducible refine NEED.mk ?_ ?_); (first | with_reducible rfl | omega | (simp (disch := omega) only [lnB, wrap64, wrap32] <;> omega) | (intro h; (try simp (disch := omega) only [hsB, hsC, lnB, wrap64, wrap32, simprocAttr] at h); (first | omega | (simp (disch := omega) only [lnB, wrap64, wrap32] <;> omega))) | (exact needApp 256 rfl rfl (by simp) (by simp) (by omega)) | (simp <;> omega))) | ((with_reducible apply GET.at); rfl) | ((with_reducible apply GETG.at); rfl) | ((with_reducible refine IF.mk (fun h => ?_) (fun h => ?_)) <;> (try simp (disch := omega) only [hsB, hsC, lnB, wrap64, wrap32, simprocAttr] at h) <;> try (exfalso; omega))) <;> conv => whnf)
  · rename_i h1 h2
    have hb := unesc_bad (way := way) (by omega) h2 h
    rw [hb] at hc
    refine CALL.at [] (wrong_does (i : Int) 41) rfl rfl rfl rfl (by first | rfl | (simp only [belowO, belowH, plainLL_below _ (plainStrs _), Bool.and_self, Bool.and_true] <;> rfl)) (by first | rfl | (simp only [belowO, belowH, plainLL_below _ (plainStrs _), Bool.and_self, Bool.and_true] <;> rfl)) (by repeat' (first | exact trivial | exact (renH_plain _ (h := .rows _ _) (plainStrs _)).symm | exact rfl | exact (renH_plain _ (h := .rows _ _) (plainStrs _)).trans (renH_plain _ (h := .rows _ _) (plainStrs _)).symm | ((conv => whnf); refine ⟨?_, ?_⟩))) (by repeat' (first | exact trivial | exact (renH_plain _ (h := .rows _ _) (plainStrs _)).symm | exact rfl | exact (renH_plain _ (h := .rows _ _) (plainStrs _)).trans (renH_plain _ (h := .rows _ _) (plainStrs _)).symm | ((conv => whnf); refine ⟨?_, ?_⟩))) rfl rfl ?_
    rintro r O' nx' ⟨rfl, rfl, rfl⟩
    conv => whnf
    refine FIN.at h0 [1] (.tup [.str [], errSV 0]) [(0, errHp (i : Int) 41)] rfl rfl rfl (by first | rfl | (simp only [belowO, belowH, plainLL_below _ (plainStrs _), Bool.and_self, Bool.and_true] <;> rfl)) (by repeat' (first | exact trivial | exact (renH_plain _ (h := .rows _ _) (plainStrs _)).symm | (with_reducible rfl) | (exact rows_eq (plainStrs _) (by simp [strRow, ofVal, List.take_of_length_le])) | exact rfl | ((conv => whnf); refine ⟨?_, ?_⟩))) rfl ?_
    rw [hc]
    exact ⟨rfl, rfl, rfl⟩
  · rename_i h1 h2
    have hb := unesc_esc (way := way) (by omega) h2 h
    rcases hen with hen | ⟨hen1, hen2, hsc⟩
    · exact absurd hen h
    have hel := esc_enc way s i h
    have hsc2 := hsc
    obtain ⟨hs0, hs1, _⟩ := hsc2
    have hne := enc_len hs0
    have hwr := write_does out (encM (escapeM way s i).1) (by intro hh; rw [hh] at hne; simp at hne) (by omega)
    refine CALL.bytes (bytes_does _ ⟨hs0, hs1⟩) rfl ?_
    conv => whnf
    refine CALL.at [0, 1] (hwr) rfl rfl rfl rfl (by first | rfl | (simp only [belowO, belowH, plainLL_below _ (plainBytes _), Bool.and_self, Bool.and_true] <;> rfl)) (by first | rfl | (simp only [belowO, belowH, plainLL_below _ (plainBytes _), Bool.and_self, Bool.and_true] <;> rfl)) (by repeat' (first | exact trivial | exact (renH_plain _ (h := .rows _ _) (plainBytes _)).symm | exact rfl | exact (renH_plain _ (h := .rows _ _) (plainBytes _)).trans (renH_plain _ (h := .rows _ _) (plainBytes _)).symm | ((conv => whnf); refine ⟨?_, ?_⟩))) (by repeat' (first | exact trivial | exact (renH_plain _ (h := .rows _ _) (plainBytes _)).symm | exact rfl | exact (renH_plain _ (h := .rows _ _) (plainBytes _)).trans (renH_plain _ (h := .rows _ _) (plainBytes _)).symm | ((conv => whnf); refine ⟨?_, ?_⟩))) rfl rfl ?_
    rintro r O' nx' ⟨rfl, rfl, rfl⟩
    conv => whnf
    refine ⟨(i + (escapeM way s i).2.toNat, out ++ encM (escapeM way s i).1), ⟨by simp only; omega, ?_, ?_⟩, by simp only; omega, ?_⟩
    · simp only [List.length_append]; omega
    · simp only
      rw [hc, hb, pre_pre]
    · conv => whnf
      (refine GOES.cutting h0 rfl rfl rfl (by first | rfl | simp [belowO, belowH, plainLL_below, plainLL_map, plainL, plain]) ?_ ?_ <;> (repeat' (first | (with_reducible rfl) | (exact congrArg (fun n => SV.sl _ _ _ n _) (by simp)) | (exact congrArg (Hp.rows _) (by simp)) | (exact congrArg (SV.int _) (by first | omega | (simp (disch := omega) only [lnB, wrap64, wrap32] <;> omega) | (simp; done) | (simp <;> omega))) | ((conv => whnf); refine ⟨?_, ?_⟩) | exact trivial | (simp; done) | rfl)))
  · rename_i h1 h2
    have hb := unesc_wrong (way := way) (by omega) h2 h
    rw [hb] at hc
    refine CALL.at [] (wrong_does (i : Int) 40) rfl rfl rfl rfl (by first | rfl | (simp only [belowO, belowH, plainLL_below _ (plainStrs _), Bool.and_self, Bool.and_true] <;> rfl)) (by first | rfl | (simp only [belowO, belowH, plainLL_below _ (plainStrs _), Bool.and_self, Bool.and_true] <;> rfl)) (by repeat' (first | exact trivial | exact (renH_plain _ (h := .rows _ _) (plainStrs _)).symm | exact rfl | exact (renH_plain _ (h := .rows _ _) (plainStrs _)).trans (renH_plain _ (h := .rows _ _) (plainStrs _)).symm | ((conv => whnf); refine ⟨?_, ?_⟩))) (by repeat' (first | exact trivial | exact (renH_plain _ (h := .rows _ _) (plainStrs _)).symm | exact rfl | exact (renH_plain _ (h := .rows _ _) (plainStrs _)).trans (renH_plain _ (h := .rows _ _) (plainStrs _)).symm | ((conv => whnf); refine ⟨?_, ?_⟩))) rfl rfl ?_
    rintro r O' nx' ⟨rfl, rfl, rfl⟩
    conv => whnf
    refine FIN.at h0 [1] (.tup [.str [], errSV 0]) [(0, errHp (i : Int) 40)] rfl rfl rfl (by first | rfl | (simp only [belowO, belowH, plainLL_below _ (plainStrs _), Bool.and_self, Bool.and_true] <;> rfl)) (by repeat' (first | exact trivial | exact (renH_plain _ (h := .rows _ _) (plainStrs _)).symm | (with_reducible rfl) | (exact rows_eq (plainStrs _) (by simp [strRow, ofVal, List.take_of_length_le])) | exact rfl | ((conv => whnf); refine ⟨?_, ?_⟩))) rfl ?_
    rw [hc]
    exact ⟨rfl, rfl, rfl⟩
  · rename_i h1 h2
    have hb := unesc_next (way := way) (by omega) h2 h
    have hnl := next_enc (by omega) h
    have hne := nextAt_enc (s := s) (i := i) (by omega) h
    have hw : IntKind.i64.wrap ((i : Int) + (nextAt s i).2) = (i : Int) + (nextAt s i).2 := wrap64 (by omega) (by omega)
    rw [hw, show ((i : Int)).toNat = i by omega, show ((i : Int) + (nextAt s i).2).toNat - i = (nextAt s i).2.toNat by omega, ← hne]
    have hwr := writeString_does out (encM (nextAt s i).1) (by omega)
    refine CALL.at [0] (hwr) rfl rfl rfl rfl (by first | rfl | (simp only [belowO, belowH, plainLL_below _ (plainBytes _), Bool.and_self, Bool.and_true] <;> rfl)) (by first | rfl | (simp only [belowO, belowH, plainLL_below _ (plainBytes _), Bool.and_self, Bool.and_true] <;> rfl)) (by repeat' (first | exact trivial | exact (renH_plain _ (h := .rows _ _) (plainBytes _)).symm | exact rfl | exact (renH_plain _ (h := .rows _ _) (plainBytes _)).trans (renH_plain _ (h := .rows _ _) (plainBytes _)).symm | ((conv => whnf); refine ⟨?_, ?_⟩))) (by repeat' (first | exact trivial | exact (renH_plain _ (h := .rows _ _) (plainBytes _)).symm | exact rfl | exact (renH_plain _ (h := .rows _ _) (plainBytes _)).trans (renH_plain _ (h := .rows _ _) (plainBytes _)).symm | ((conv => whnf); refine ⟨?_, ?_⟩))) rfl rfl ?_
    rintro r O' nx' ⟨rfl, rfl, rfl⟩
    conv => whnf
    refine ⟨(i + (nextAt s i).2.toNat, out ++ encM (nextAt s i).1), ⟨by simp only; omega, ?_, ?_⟩, by simp only; omega, ?_⟩
    · simp only [List.length_append]; omega
    · simp only
      rw [hc, hb, pre_pre]
    · conv => whnf
      (refine GOES.cutting h0 rfl rfl rfl (by first | rfl | simp [belowO, belowH, plainLL_below, plainLL_map, plainL, plain]) ?_ ?_ <;> (repeat' (first | (with_reducible rfl) | (exact congrArg (fun n => SV.sl _ _ _ n _) (by simp)) | (exact congrArg (Hp.rows _) (by simp)) | (exact congrArg (SV.int _) (by first | omega | (simp (disch := omega) only [lnB, wrap64, wrap32] <;> omega) | (simp; done) | (simp <;> omega))) | ((conv => whnf); refine ⟨?_, ?_⟩) | exact trivial | (simp; done) | rfl)))
  · have hb := unesc_end (way := way) (s := s) (i := i) (by omega)
    rw [hb] at hc
    refine CALL.at [0] (string_does out) rfl rfl rfl rfl (by first | rfl | (simp only [belowO, belowH, plainLL_below _ (plainStrs _), Bool.and_self, Bool.and_true] <;> rfl)) (by first | rfl | (simp only [belowO, belowH, plainLL_below _ (plainStrs _), Bool.and_self, Bool.and_true] <;> rfl)) (by repeat' (first | exact trivial | exact (renH_plain _ (h := .rows _ _) (plainStrs _)).symm | exact rfl | exact (renH_plain _ (h := .rows _ _) (plainStrs _)).trans (renH_plain _ (h := .rows _ _) (plainStrs _)).symm | ((conv => whnf); refine ⟨?_, ?_⟩))) (by repeat' (first | exact trivial | exact (renH_plain _ (h := .rows _ _) (plainStrs _)).symm | exact rfl | exact (renH_plain _ (h := .rows _ _) (plainStrs _)).trans (renH_plain _ (h := .rows _ _) (plainStrs _)).symm | ((conv => whnf); refine ⟨?_, ?_⟩))) rfl rfl ?_
    rintro r O' nx' ⟨rfl, rfl, rfl⟩
    conv => whnf
    refine FIN.val h0 rfl ?_
    rw [hc]
    simp [UnescQ, pre]
end Go.Proofs.YtpffclpheldabaaGreatDoor
/- iri and its reference: references and schemes, walked. Conditions: none. -/
set_option linter.unusedVariables false
set_option linter.unusedSimpArgs false
set_option maxRecDepth 20000
namespace Go.Proofs.YtpffclpheldabaaGreatDoor
open Go.Sx Go.Our
theorem ref05Barred_does (c : Int) : Does Tryz.prog tab 134 0 [.int .u8 c] [] [] (Val (.bool (barredM c))) := by
  refine Does.enter tabOK (g := 134) (fn := Tryz.f134) Tryz.call134 Tryz.func134 rfl 16 rfl rfl [.tmp 2] rfl ?_
  intro w0 F η0 h0
  conv => whnf
  repeat' ((first | with_reducible refine IF.tt ?_ | with_reducible refine IF.ff ?_ | ((with_reducible refine NEED.mk ?_ ?_); (first | with_reducible rfl | omega | (simp (disch := omega) only [lnB, wrap64, wrap32] <;> omega) | (intro h; (try simp (disch := omega) only [hsB, hsC, lnB, wrap64, wrap32, simprocAttr] at h); (first | omega | (simp (disch := omega) only [lnB, wrap64, wrap32] <;> omega))) | (exact needApp 256 rfl rfl (by simp) (by simp) (by omega)) | (simp <;> omega))) | ((with_reducible apply GET.at); rfl) | ((with_reducible apply GETG.at); rfl) | ((with_reducible refine IF.mk (fun h => ?_) (fun h => ?_)) <;> (try simp (disch := omega) only [hsB, hsC, lnB, wrap64, wrap32, simprocAttr] at h) <;> try (exfalso; omega))) <;> conv => whnf)
  all_goals
    refine FIN.value h0 rfl (congrArg SV.bool ?_)
    rw [Bool.eq_iff_iff, barredM_true]
    unfold Our.Barred
    simp
    try omega
theorem ref05Letter_does (c : Int) : Does Tryz.prog tab 135 0 [.int .u8 c] [] [] (Val (.bool (decide (LetterI c)))) := by
  refine Does.enter tabOK (g := 135) (fn := Tryz.f135) Tryz.call135 Tryz.func135 rfl 17 rfl rfl [.tmp 2] rfl ?_
  intro w0 F η0 h0
  conv => whnf
  repeat' ((first | with_reducible refine IF.tt ?_ | with_reducible refine IF.ff ?_ | ((with_reducible refine NEED.mk ?_ ?_); (first | with_reducible rfl | omega | (simp (disch := omega) only [lnB, wrap64, wrap32] <;> omega) | (intro h; (try simp (disch := omega) only [hsB, hsC, lnB, wrap64, wrap32, simprocAttr] at h); (first | omega | (simp (disch := omega) only [lnB, wrap64, wrap32] <;> omega))) | (exact needApp 256 rfl rfl (by simp) (by simp) (by omega)) | (simp <;> omega))) | ((with_reducible apply GET.at); rfl) | ((with_reducible apply GETG.at); rfl) | ((with_reducible refine IF.mk (fun h => ?_) (fun h => ?_)) <;> (try simp (disch := omega) only [hsB, hsC, lnB, wrap64, wrap32, simprocAttr] at h) <;> try (exfalso; omega))) <;> conv => whnf)
  refine FIN.value h0 rfl (congrArg SV.bool ?_)
  rw [Bool.eq_iff_iff]
  simp only [Bool.cond_eq_ite, decide_eq_true_eq, Bool.if_false_right, Bool.if_true_left, Bool.and_eq_true, Bool.or_eq_true]
  rfl
theorem ref05Digit_does (c : Int) : Does Tryz.prog tab 136 0 [.int .u8 c] [] [] (Val (.bool (decide (48 ≤ c ∧ c ≤ 57)))) := by
  refine Does.enter tabOK (g := 136) (fn := Tryz.f136) Tryz.call136 Tryz.func136 rfl 9 rfl rfl [.tmp 2] rfl ?_
  intro w0 F η0 h0
  conv => whnf
  repeat' ((first | with_reducible refine IF.tt ?_ | with_reducible refine IF.ff ?_ | ((with_reducible refine NEED.mk ?_ ?_); (first | with_reducible rfl | omega | (simp (disch := omega) only [lnB, wrap64, wrap32] <;> omega) | (intro h; (try simp (disch := omega) only [hsB, hsC, lnB, wrap64, wrap32, simprocAttr] at h); (first | omega | (simp (disch := omega) only [lnB, wrap64, wrap32] <;> omega))) | (exact needApp 256 rfl rfl (by simp) (by simp) (by omega)) | (simp <;> omega))) | ((with_reducible apply GET.at); rfl) | ((with_reducible apply GETG.at); rfl) | ((with_reducible refine IF.mk (fun h => ?_) (fun h => ?_)) <;> (try simp (disch := omega) only [hsB, hsC, lnB, wrap64, wrap32, simprocAttr] at h) <;> try (exfalso; omega))) <;> conv => whnf)
  refine FIN.value h0 rfl (congrArg SV.bool ?_)
  rw [Bool.eq_iff_iff]
  simp only [Bool.cond_eq_ite, decide_eq_true_eq, Bool.if_false_right, Bool.if_true_left, Bool.and_eq_true, Bool.or_eq_true]
theorem ref05Reference_does (s : List UInt8) (hs : Sm s) : Does Tryz.prog tab 100 0 [.str s] [] [] (Val (.int .i64 (refM s))) := by
  refine Does.enter tabOK (g := 100) (fn := Tryz.f100) Tryz.call100 Tryz.func100 rfl 20 rfl rfl [.tmp 2] rfl ?_
  intro w0 F η0 h0
  conv => whnf
  repeat' ((first | with_reducible refine IF.tt ?_ | with_reducible refine IF.ff ?_ | refine CALL.value (ref04Check_does s hs) rfl rfl ?_ | ((with_reducible refine NEED.mk ?_ ?_); (first | with_reducible rfl | omega | (simp (disch := omega) only [lnB, wrap64, wrap32] <;> omega) | (intro h; (try simp (disch := omega) only [hsB, hsC, lnB, wrap64, wrap32, simprocAttr] at h); (first | omega | (simp (disch := omega) only [lnB, wrap64, wrap32] <;> omega))) | (exact needApp 256 rfl rfl (by simp) (by simp) (by omega)) | (simp <;> omega))) | ((with_reducible apply GET.at); rfl) | ((with_reducible apply GETG.at); rfl) | ((with_reducible refine IF.mk (fun h => ?_) (fun h => ?_)) <;> (try simp (disch := omega) only [hsB, hsC, lnB, wrap64, wrap32, simprocAttr] at h) <;> try (exfalso; omega))) <;> conv => whnf)
  · refine FIN.value h0 rfl ?_
    unfold refM; rw [if_pos (by omega)]
  · refine FIN.value h0 rfl ?_
    unfold refM; rw [if_neg (by omega), if_pos (by omega)]
  refine LOOP.go tabOK [0] (X := Nat) (fun i => i ≤ s.length ∧ anyB barredM s i = anyB barredM s 0) (fun i => [(3, .int .i64 (i : Int))]) (fun i => []) 0 (fun i => s.length - i) 0 ⟨by omega, rfl⟩ ?_
  conv => whnf
  refine ⟨by (refine GOES.cutting h0 rfl rfl rfl (by first | rfl | simp [belowO, belowH, plainLL_below, plainLL_map, plainL, plain]) ?_ ?_ <;> (repeat' (first | (with_reducible rfl) | (exact congrArg (fun n => SV.sl _ _ _ n _) (by simp)) | (exact congrArg (Hp.rows _) (by simp)) | (exact congrArg (SV.int _) (by first | omega | (simp (disch := omega) only [lnB, wrap64, wrap32] <;> omega) | (simp; done) | (simp <;> omega))) | ((conv => whnf); refine ⟨?_, ?_⟩) | exact trivial | (simp; done) | rfl))), ?_⟩
  rintro i ⟨hi, hc⟩
  conv => whnf
  repeat' ((first | with_reducible refine IF.tt ?_ | with_reducible refine IF.ff ?_ | refine CALL.value (ref05Barred_does _) rfl rfl ?_ | ((with_reducible refine NEED.mk ?_ ?_); (first | with_reducible rfl | omega | (simp (disch := omega) only [lnB, wrap64, wrap32] <;> omega) | (intro h; (try simp (disch := omega) only [hsB, hsC, lnB, wrap64, wrap32, simprocAttr] at h); (first | omega | (simp (disch := omega) only [lnB, wrap64, wrap32] <;> omega))) | (exact needApp 256 rfl rfl (by simp) (by simp) (by omega)) | (simp <;> omega))) | ((with_reducible apply GET.at); rfl) | ((with_reducible apply GETG.at); rfl) | ((with_reducible refine IF.mk (fun h => ?_) (fun h => ?_)) <;> (try simp (disch := omega) only [hsB, hsC, lnB, wrap64, wrap32, simprocAttr] at h) <;> try (exfalso; omega))) <;> conv => whnf)
  · refine FIN.value h0 rfl ?_
    unfold refM; rw [if_neg (by omega), if_neg (by omega), ← hc, anyB_at (by omega), h]; rfl
  · refine ⟨i + 1, ⟨by omega, ?_⟩, by omega, ?_⟩
    · rw [← hc, anyB_at (i := i) (by omega), h, Bool.false_or]
    · conv => whnf
      (refine GOES.cutting h0 rfl rfl rfl (by first | rfl | simp [belowO, belowH, plainLL_below, plainLL_map, plainL, plain]) ?_ ?_ <;> (repeat' (first | (with_reducible rfl) | (exact congrArg (fun n => SV.sl _ _ _ n _) (by simp)) | (exact congrArg (Hp.rows _) (by simp)) | (exact congrArg (SV.int _) (by first | omega | (simp (disch := omega) only [lnB, wrap64, wrap32] <;> omega) | (simp; done) | (simp <;> omega))) | ((conv => whnf); refine ⟨?_, ?_⟩) | exact trivial | (simp; done) | rfl)))
  · refine FIN.value h0 rfl ?_
    unfold refM; rw [if_neg (by omega), if_neg (by omega), ← hc, anyB_end (by omega)]; rfl
theorem ref05Scheme_does (s : List UInt8) (hs : Sm s) : Does Tryz.prog tab 101 0 [.str s] [] [] (Val (.int .i64 (schM s 0))) := by
  refine Does.enter tabOK (g := 101) (fn := Tryz.f101) Tryz.call101 Tryz.func101 rfl 41 rfl rfl [.tmp 2] rfl ?_
  intro w0 F η0 h0
  conv => whnf
  refine LOOP.go tabOK [0] (X := Nat) (fun i => i ≤ s.length ∧ schM s i = schM s 0) (fun i => [(3, .int .i64 (i : Int))]) (fun i => []) 0 (fun i => s.length - i) 0 ⟨by omega, rfl⟩ ?_
  conv => whnf
  refine ⟨by (refine GOES.cutting h0 rfl rfl rfl (by first | rfl | simp [belowO, belowH, plainLL_below, plainLL_map, plainL, plain]) ?_ ?_ <;> (repeat' (first | (with_reducible rfl) | (exact congrArg (fun n => SV.sl _ _ _ n _) (by simp)) | (exact congrArg (Hp.rows _) (by simp)) | (exact congrArg (SV.int _) (by first | omega | (simp (disch := omega) only [lnB, wrap64, wrap32] <;> omega) | (simp; done) | (simp <;> omega))) | ((conv => whnf); refine ⟨?_, ?_⟩) | exact trivial | (simp; done) | rfl))), ?_⟩
  rintro i ⟨hi, hc⟩
  conv => whnf
  repeat' ((first | with_reducible refine IF.tt ?_ | with_reducible refine IF.ff ?_ | refine CALL.value (ref05Letter_does _) rfl rfl ?_ | refine CALL.value (ref05Digit_does _) rfl rfl ?_ | ((with_reducible refine NEED.mk ?_ ?_); (first | with_reducible rfl | omega | (simp (disch := omega) only [lnB, wrap64, wrap32] <;> omega) | (intro h; (try simp (disch := omega) only [hsB, hsC, lnB, wrap64, wrap32, simprocAttr] at h); (first | omega | (simp (disch := omega) only [lnB, wrap64, wrap32] <;> omega))) | (exact needApp 256 rfl rfl (by simp) (by simp) (by omega)) | (simp <;> omega))) | ((with_reducible apply GET.at); rfl) | ((with_reducible apply GETG.at); rfl) | ((with_reducible refine IF.mk (fun h => ?_) (fun h => ?_)) <;> (try simp (disch := omega) only [hsB, hsC, lnB, wrap64, wrap32, simprocAttr] at h) <;> try (exfalso; omega))) <;> conv => whnf)
  all_goals first
    | (refine FIN.value h0 rfl ?_; rw [← hc]; first | rw [schM_colon (by omega) (by assumption)] | (rw [schM_stop (by omega) (by assumption) (by unfold SchI; rintro (h | h) <;> first | contradiction | omega)]) | rw [schM_end (by omega)])
    | (refine ⟨i + 1, ⟨by omega, ?_⟩, by omega, ?_⟩
       · rw [← hc, ← schM_step (by omega) (by assumption) (by first | (left; assumption) | (right; unfold SchI; omega))]
       · conv => whnf
         (refine GOES.cutting h0 rfl rfl rfl (by first | rfl | simp [belowO, belowH, plainLL_below, plainLL_map, plainL, plain]) ?_ ?_ <;> (repeat' (first | (with_reducible rfl) | (exact congrArg (fun n => SV.sl _ _ _ n _) (by simp)) | (exact congrArg (Hp.rows _) (by simp)) | (exact congrArg (SV.int _) (by first | omega | (simp (disch := omega) only [lnB, wrap64, wrap32] <;> omega) | (simp; done) | (simp <;> omega))) | ((conv => whnf); refine ⟨?_, ?_⟩) | exact trivial | (simp; done) | rfl))))
end Go.Proofs.YtpffclpheldabaaGreatDoor
/- iri: references and schemes, walked. Conditions: none. -/
set_option linter.unusedVariables false
set_option linter.unusedSimpArgs false
set_option maxRecDepth 20000
namespace Go.Proofs.YtpffclpheldabaaGreatDoor
open Go.Sx Go.Our
def plIri20 : Plan := (planOf [(0, 1), (1, 1), (2, 1), (3, 1), (4, 1), (5, 1), (6, 1)])
def plIri21 : Plan := (planOf [(0, 1), (1, 1), (2, 1), (3, 1), (4, 1), (5, 1), (6, 1), (7, 3), (8, 1)])
def plIri22 : Plan := (planOf [(0, 1), (1, 1), (2, 1), (3, 1), (4, 1), (5, 1), (6, 1), (7, 1), (8, 1), (9, 1), (10, 1)])
theorem ref05Check_does (s : List UInt8) (hs : Sm s) : Does Tryz.prog tab 64 0 [.str s] [] [] (Val (.int .i64 (iriM s))) := by
  refine Does.enter tabOK (g := 64) (fn := Tryz.f64) Tryz.call64 Tryz.func64 rfl 14 rfl rfl [.tmp 2] rfl ?_
  intro w0 F η0 h0
  conv => whnf
  repeat' ((first | with_reducible refine IF.tt ?_ | with_reducible refine IF.ff ?_ | refine CALL.value (ref05Reference_does s hs) rfl rfl ?_ | refine CALL.value (ref05Scheme_does s hs) rfl rfl ?_ | ((with_reducible refine NEED.mk ?_ ?_); (first | with_reducible rfl | omega | (simp (disch := omega) only [lnB, wrap64, wrap32] <;> omega) | (intro h; (try simp (disch := omega) only [hsB, hsC, lnB, wrap64, wrap32, simprocAttr] at h); (first | omega | (simp (disch := omega) only [lnB, wrap64, wrap32] <;> omega))) | (exact needApp 256 rfl rfl (by simp) (by simp) (by omega)) | (simp <;> omega))) | ((with_reducible apply GET.at); rfl) | ((with_reducible apply GETG.at); rfl) | ((with_reducible refine IF.mk (fun h => ?_) (fun h => ?_)) <;> (try simp (disch := omega) only [hsB, hsC, lnB, wrap64, wrap32, simprocAttr] at h) <;> try (exfalso; omega))) <;> conv => whnf)
  all_goals
    refine FIN.value h0 rfl (congrArg (SV.int _) ?_)
    unfold iriM
    simp_all
/-- Whether a scalar is among those that are barred but for blanks. -/
def barIdx (r : Int) : Int := if 0 ≤ r ∧ r < 128 then Lib.indexByte bars (IntKind.u8.wrap r).toNat.toUInt8 else -1
theorem indexRune_does (r : Int) (hr : Scalar r) : Does Tryz.prog tab 188 0 [.str bars, .int .i32 r] [] [] (Val (.int .i64 (barIdx r))) := by
  have hlen : bars.length = 9 := rfl
  refine Does.enter tabOK (g := 188) (fn := Tryz.f188) Tryz.call188 Tryz.func188 rfl 187 rfl rfl [.tmp 4] rfl ?_
  intro w0 F η0 h0
  conv => whnf
  repeat' ((first | with_reducible refine IF.tt ?_ | with_reducible refine IF.ff ?_ | refine CALL.value (indexByte_does _ _) rfl rfl ?_ | refine CALL.value (validRune_does _) rfl rfl ?_ | ((with_reducible refine NEED.mk ?_ ?_); (first | with_reducible rfl | omega | (simp (disch := omega) only [lnB, wrap64, wrap32] <;> omega) | (intro h; (try simp (disch := omega) only [hsB, hsC, lnB, wrap64, wrap32, simprocAttr] at h); (first | omega | (simp (disch := omega) only [lnB, wrap64, wrap32] <;> omega))) | (exact needApp 256 rfl rfl (by simp) (by simp) (by omega)) | (simp <;> omega))) | ((with_reducible apply GET.at); rfl) | ((with_reducible apply GETG.at); rfl) | ((with_reducible refine IF.mk (fun h => ?_) (fun h => ?_)) <;> (try simp (disch := omega) only [hsB, hsC, lnB, wrap64, wrap32, simprocAttr] at h) <;> try (exfalso; omega))) <;> conv => whnf)
  · refine FIN.value h0 rfl ?_
    unfold barIdx; rw [if_pos h]
  · subst h
    refine LOOP.go tabOK [175] (X := Nat) (fun i => i ≤ 9) (fun i => []) (fun i => [(0, .siter bars i)]) 1 (fun i => 9 - i) 0 (by omega) ?_
    conv => whnf
    refine ⟨by (refine GOES.cutting h0 rfl rfl rfl (by first | rfl | simp [belowO, belowH, plainLL_below, plainLL_map, plainL, plain]) ?_ ?_ <;> (repeat' (first | (with_reducible rfl) | (exact congrArg (fun n => SV.sl _ _ _ n _) (by simp)) | (exact congrArg (Hp.rows _) (by simp)) | (exact congrArg (SV.int _) (by first | omega | (simp (disch := omega) only [lnB, wrap64, wrap32] <;> omega) | (simp; done) | (simp <;> omega))) | ((conv => whnf); refine ⟨?_, ?_⟩) | exact trivial | (simp; done) | rfl))), ?_⟩
    intro i hi
    conv => whnf
    refine ⟨fun h => ?_, fun h => ?_⟩
    · have h : i < bars.length := by simpa using h
      have hd := deco_ascii (bars_low i)
      have hb := byteAt_lt bars i
      conv => whnf
      refine IF.tt ?_
      conv => whnf
      refine IF.no (by rw [show Utf8.decode ⟨bars.toArray⟩ i = _ from hd]; have := bars_low i; simp; omega) ?_
      conv => whnf
      refine ⟨i + (deco bars i).2, by rw [hd]; show i + 1 ≤ 9; omega, by rw [hd]; show 9 - (i + 1) < 9 - i; omega, ?_⟩
      conv => whnf
      (refine GOES.cutting h0 rfl rfl rfl (by first | rfl | simp [belowO, belowH, plainLL_below, plainLL_map, plainL, plain]) ?_ ?_ <;> (repeat' (first | (with_reducible rfl) | (exact congrArg (fun n => SV.sl _ _ _ n _) (by simp)) | (exact congrArg (Hp.rows _) (by simp)) | (exact congrArg (SV.int _) (by first | omega | (simp (disch := omega) only [lnB, wrap64, wrap32] <;> omega) | (simp; done) | (simp <;> omega))) | ((conv => whnf); refine ⟨?_, ?_⟩) | exact trivial | (simp; done) | rfl)))
    · conv => whnf
      refine IF.ff ?_
      conv => whnf
      refine FIN.value h0 rfl ?_
      unfold barIdx; rw [if_neg (by omega)]
  · rw [scalarM_false] at h
    exact (h hr).elim
  · have hl := encM_len (r := r) (by unfold Scalar at hr; omega)
    have hh := encM_high hr (by unfold Scalar at hr; omega)
    have he := encode_eq hr
    rw [he]
    have hm := byteAt_mem (s := encM r) (i := ((encM r).length : Int) - 1) (by omega)
    have hm2 : 128 ≤ byteAt (encM r) (((encM r).length : Int) - 1) := by
      obtain ⟨c, hc, e⟩ := hm
      rw [e]; exact hh c hc
    have hm3 := byteAt_lt (encM r) (((encM r).length : Int) - 1)
    have hm4 := bars_low (((encM r).length : Int) - 1)
    refine LOOP.once tabOK ?_
    conv => whnf
    repeat' ((first | with_reducible refine IF.tt ?_ | with_reducible refine IF.ff ?_ | refine DRAWN.of (id := 6) tabOK mixed plIri20 (by kernel_rfl) ?_ | refine DRAWN.of (id := 7) tabOK mixed plIri21 (by kernel_rfl) ?_ | refine DRAWN.of (id := 14) tabOK mixed plIri22 (by kernel_rfl) ?_ | refine DRAWN.of (id := 31) tabOK mixed plIri22 (by kernel_rfl) ?_ | with_reducible refine ADD.mk (fun _ _ => ?_) | with_reducible refine NEED.mk (Det.of rfl) ?_ | with_reducible refine FORK.mk ?_ ?_ | refine CALL.value (indexByte_does _ _) rfl rfl ?_ | ((with_reducible refine NEED.mk ?_ ?_); (first | with_reducible rfl | omega | (simp (disch := omega) only [lnB, wrap64, wrap32] <;> omega) | (intro h; (try simp (disch := omega) only [hsB, hsC, lnB, wrap64, wrap32, simprocAttr] at h); (first | omega | (simp (disch := omega) only [lnB, wrap64, wrap32] <;> omega))) | (exact needApp 256 rfl rfl (by simp) (by simp) (by omega)) | (simp <;> omega))) | ((with_reducible apply GET.at); rfl) | ((with_reducible apply GETG.at); rfl) | ((with_reducible refine IF.mk (fun h => ?_) (fun h => ?_)) <;> (try simp (disch := omega) only [hsB, hsC, lnB, wrap64, wrap32, simprocAttr] at h) <;> try (exfalso; omega))) <;> conv => whnf)
    · refine FIN.value h0 rfl ?_
      unfold barIdx; rw [if_neg (by unfold Scalar at hr; omega)]
    · have := idx_high (l := List.drop (((encM r).length : Int) - 1 + 1).toNat bars) (c := byteAt (encM r) (((encM r).length : Int) - 1)) (by omega) (fun b hb => bars_mem b (List.mem_of_mem_drop hb))
      rw [this] at h
      omega
theorem containsRune_does (r : Int) (hr : Scalar r) : Does Tryz.prog tab 166 0 [.str bars, .int .i32 r] [] [] (Val (.bool (decide (0 ≤ barIdx r)))) := by
  refine Does.enter tabOK (g := 166) (fn := Tryz.f166) Tryz.call166 Tryz.func166 rfl 9 rfl rfl [.tmp 4] rfl ?_
  intro w0 F η0 h0
  conv => whnf
  repeat' ((first | with_reducible refine IF.tt ?_ | with_reducible refine IF.ff ?_ | refine CALL.value (indexRune_does r hr) rfl rfl ?_ | ((with_reducible refine NEED.mk ?_ ?_); (first | with_reducible rfl | omega | (simp (disch := omega) only [lnB, wrap64, wrap32] <;> omega) | (intro h; (try simp (disch := omega) only [hsB, hsC, lnB, wrap64, wrap32, simprocAttr] at h); (first | omega | (simp (disch := omega) only [lnB, wrap64, wrap32] <;> omega))) | (exact needApp 256 rfl rfl (by simp) (by simp) (by omega)) | (simp <;> omega))) | ((with_reducible apply GET.at); rfl) | ((with_reducible apply GETG.at); rfl) | ((with_reducible refine IF.mk (fun h => ?_) (fun h => ?_)) <;> (try simp (disch := omega) only [hsB, hsC, lnB, wrap64, wrap32, simprocAttr] at h) <;> try (exfalso; omega))) <;> conv => whnf)
  exact FIN.value h0 rfl rfl
theorem bar_iff {r : Int} (hr : Scalar r) : (r ≤ 32 ∨ 0 ≤ barIdx r) ↔ Our.Barred r := by
  unfold Scalar at hr
  unfold barIdx
  by_cases h : 0 ≤ r ∧ r < 128
  · rw [if_pos h]
    have : ∀ n : Nat, n < 128 → (((n : Int) ≤ 32 ∨ 0 ≤ Lib.indexByte bars (IntKind.u8.wrap (n : Int)).toNat.toUInt8) ↔ Our.Barred (n : Int)) := by decide +kernel
    have := this r.toNat (by omega)
    rwa [show ((r.toNat : Nat) : Int) = r by omega] at this
  · rw [if_neg h]
    unfold Our.Barred
    omega
theorem barred_does (r : Int) (hr : Scalar r) : Does Tryz.prog tab 122 0 [.int .i32 r] [] [] (Val (.bool (barredM r))) := by
  refine Does.enter tabOK (g := 122) (fn := Tryz.f122) Tryz.call122 Tryz.func122 rfl 9 rfl rfl [.tmp 2] rfl ?_
  intro w0 F η0 h0
  conv => whnf
  repeat' ((first | with_reducible refine IF.tt ?_ | with_reducible refine IF.ff ?_ | refine CALL.value (containsRune_does r hr) rfl rfl ?_ | ((with_reducible refine NEED.mk ?_ ?_); (first | with_reducible rfl | omega | (simp (disch := omega) only [lnB, wrap64, wrap32] <;> omega) | (intro h; (try simp (disch := omega) only [hsB, hsC, lnB, wrap64, wrap32, simprocAttr] at h); (first | omega | (simp (disch := omega) only [lnB, wrap64, wrap32] <;> omega))) | (exact needApp 256 rfl rfl (by simp) (by simp) (by omega)) | (simp <;> omega))) | ((with_reducible apply GET.at); rfl) | ((with_reducible apply GETG.at); rfl) | ((with_reducible refine IF.mk (fun h => ?_) (fun h => ?_)) <;> (try simp (disch := omega) only [hsB, hsC, lnB, wrap64, wrap32, simprocAttr] at h) <;> try (exfalso; omega))) <;> conv => whnf)
  all_goals
    refine FIN.value h0 rfl (congrArg SV.bool ?_)
    rw [Bool.eq_iff_iff, barredM_true, ← bar_iff hr]
    simp
    try omega
theorem reference_does (s : List UInt8) (hs : Sm s) : Does Tryz.prog tab 91 0 [.str s] [] [] (Val (.int .i64 (refM s))) := by
  have hp : ∀ c : Int, 128 ≤ c → barredM c = false := fun c hc => by rw [barredM_false]; unfold Our.Barred; omega
  refine Does.enter tabOK (g := 91) (fn := Tryz.f91) Tryz.call91 Tryz.func91 rfl 15 rfl rfl [.tmp 2] rfl ?_
  intro w0 F η0 h0
  conv => whnf
  repeat' ((first | with_reducible refine IF.tt ?_ | with_reducible refine IF.ff ?_ | refine CALL.value (check_does s hs) rfl rfl ?_ | refine CALL.value (indexFunc_does _ barredM (fun r hr => barred_does r hr) s hs) rfl rfl ?_ | ((with_reducible refine NEED.mk ?_ ?_); (first | with_reducible rfl | omega | (simp (disch := omega) only [lnB, wrap64, wrap32] <;> omega) | (intro h; (try simp (disch := omega) only [hsB, hsC, lnB, wrap64, wrap32, simprocAttr] at h); (first | omega | (simp (disch := omega) only [lnB, wrap64, wrap32] <;> omega))) | (exact needApp 256 rfl rfl (by simp) (by simp) (by omega)) | (simp <;> omega))) | ((with_reducible apply GET.at); rfl) | ((with_reducible apply GETG.at); rfl) | ((with_reducible refine IF.mk (fun h => ?_) (fun h => ?_)) <;> (try simp (disch := omega) only [hsB, hsC, lnB, wrap64, wrap32, simprocAttr] at h) <;> try (exfalso; omega))) <;> conv => whnf)
  all_goals
    refine FIN.value h0 rfl (congrArg (SV.int _) ?_)
    unfold refM
  · rw [if_pos (by omega)]
  · rw [if_neg (by omega), if_pos (by omega)]
  all_goals
    rename_i h1 h2
    have hc : chk s 0 = -1 := by
      have := chk_ge s 0
      omega
    have := barred_runes barredM hp s 0 hc
    rw [if_neg (by omega), if_neg (by omega)]
  · rw [if_pos (this.1 h)]
  · rw [if_neg (fun h' => by have := this.2 h'; omega)]
theorem scheme_does (s : List UInt8) (hs : Sm s) : Does Tryz.prog tab 92 0 [.str s] [] [] (Val (.str (s.take (schM s 0).toNat))) := by
  refine Does.enter tabOK (g := 92) (fn := Tryz.f92) Tryz.call92 Tryz.func92 rfl 61 rfl rfl [.tmp 2] rfl ?_
  intro w0 F η0 h0
  conv => whnf
  refine LOOP.go tabOK [0, 7] (X := Nat) (fun i => i ≤ s.length ∧ schM s i = schM s 0) (fun i => []) (fun i => [(0, .siter s i)]) 1 (fun i => s.length - i) 0 ⟨by omega, rfl⟩ ?_
  conv => whnf
  refine ⟨by (refine GOES.cutting h0 rfl rfl rfl (by first | rfl | simp [belowO, belowH, plainLL_below, plainLL_map, plainL, plain]) ?_ ?_ <;> (repeat' (first | (with_reducible rfl) | (exact congrArg (fun n => SV.sl _ _ _ n _) (by simp)) | (exact congrArg (Hp.rows _) (by simp)) | (exact congrArg (SV.int _) (by first | omega | (simp (disch := omega) only [lnB, wrap64, wrap32] <;> omega) | (simp; done) | (simp <;> omega))) | ((conv => whnf); refine ⟨?_, ?_⟩) | exact trivial | (simp; done) | rfl))), ?_⟩
  rintro i ⟨hi, hc⟩
  conv => whnf
  refine ⟨fun h => ?_, fun h => ?_⟩
  · have h : i < s.length := by simpa using h
    have hf := deco_fits s i h
    have hp := deco_pos s i
    have hb := byteAt_lt s i
    have hd : ((deco s i).1 : Int) = byteAt s i ∧ (deco s i).2 = 1 ∨ 128 ≤ byteAt s i ∧ 128 ≤ (deco s i).1 := by
      by_cases ha : byteAt s i < 128
      · left; rw [deco_ascii ha]; simp; omega
      · right; exact ⟨by omega, deco_high (by omega)⟩
    unfold deco at *
    generalize Utf8.decode ⟨s.toArray⟩ i = d at *
    obtain ⟨r, n⟩ := d
    simp only at hf hp hd
    conv => whnf
    repeat' ((first | with_reducible refine IF.tt ?_ | with_reducible refine IF.ff ?_ | ((with_reducible refine NEED.mk ?_ ?_); (first | with_reducible rfl | omega | (simp (disch := omega) only [lnB, wrap64, wrap32] <;> omega) | (intro h; (try simp (disch := omega) only [hsB, hsC, lnB, wrap64, wrap32, simprocAttr] at h); (first | omega | (simp (disch := omega) only [lnB, wrap64, wrap32] <;> omega))) | (exact needApp 256 rfl rfl (by simp) (by simp) (by omega)) | (simp <;> omega))) | ((with_reducible apply GET.at); rfl) | ((with_reducible apply GETG.at); rfl) | ((with_reducible refine IF.mk (fun h => ?_) (fun h => ?_)) <;> (try simp (disch := omega) only [hsB, hsC, lnB, wrap64, wrap32, simprocAttr] at h) <;> try (exfalso; omega))) <;> conv => whnf)
    all_goals first
      | (have hn : n = 1 := by omega
         subst hn
         refine ⟨i + 1, ⟨hf, ?_⟩, by omega, ?_⟩
         · rw [← hc, ← schM_step (by omega) (by omega) (by unfold LetterI SchI; omega)]
         · conv => whnf
           (refine GOES.cutting h0 rfl rfl rfl (by first | rfl | simp [belowO, belowH, plainLL_below, plainLL_map, plainL, plain]) ?_ ?_ <;> (repeat' (first | (with_reducible rfl) | (exact congrArg (fun n => SV.sl _ _ _ n _) (by simp)) | (exact congrArg (Hp.rows _) (by simp)) | (exact congrArg (SV.int _) (by first | omega | (simp (disch := omega) only [lnB, wrap64, wrap32] <;> omega) | (simp; done) | (simp <;> omega))) | ((conv => whnf); refine ⟨?_, ?_⟩) | exact trivial | (simp; done) | rfl))))
      | (refine FIN.value h0 rfl (congrArg SV.str ?_); rw [← hc, schM_colon (by omega) (by omega)])
      | (refine FIN.value h0 rfl (congrArg SV.str ?_); rw [← hc]
         by_cases h58 : byteAt s i = 58
         · rw [schM_colon (by omega) h58]; rw [show (i : Int) = 0 by omega]; rfl
         · rw [schM_stop (by omega) h58 (by unfold LetterI SchI; omega)]; rfl)
  · have h : s.length ≤ i := by simpa using h
    conv => whnf
    repeat' ((first | with_reducible refine IF.tt ?_ | with_reducible refine IF.ff ?_ | ((with_reducible refine NEED.mk ?_ ?_); (first | with_reducible rfl | omega | (simp (disch := omega) only [lnB, wrap64, wrap32] <;> omega) | (intro h; (try simp (disch := omega) only [hsB, hsC, lnB, wrap64, wrap32, simprocAttr] at h); (first | omega | (simp (disch := omega) only [lnB, wrap64, wrap32] <;> omega))) | (exact needApp 256 rfl rfl (by simp) (by simp) (by omega)) | (simp <;> omega))) | ((with_reducible apply GET.at); rfl) | ((with_reducible apply GETG.at); rfl) | ((with_reducible refine IF.mk (fun h => ?_) (fun h => ?_)) <;> (try simp (disch := omega) only [hsB, hsC, lnB, wrap64, wrap32, simprocAttr] at h) <;> try (exfalso; omega))) <;> conv => whnf)
    refine FIN.value h0 rfl ?_
    rw [← hc, schM_end h]; rfl
theorem iriCheck_does (s : List UInt8) (hs : Sm s) : Does Tryz.prog tab 56 0 [.str s] [] [] (Val (.int .i64 (iriM s))) := by
  have hr := schM_rng s 0
  refine Does.enter tabOK (g := 56) (fn := Tryz.f56) Tryz.call56 Tryz.func56 rfl 12 rfl rfl [.tmp 2] rfl ?_
  intro w0 F η0 h0
  conv => whnf
  repeat' ((first | with_reducible refine IF.tt ?_ | with_reducible refine IF.ff ?_ | refine CALL.value (reference_does s hs) rfl rfl ?_ | refine CALL.value (scheme_does s hs) rfl rfl ?_ | ((with_reducible refine NEED.mk ?_ ?_); (first | with_reducible rfl | omega | (simp (disch := omega) only [lnB, wrap64, wrap32] <;> omega) | (intro h; (try simp (disch := omega) only [hsB, hsC, lnB, wrap64, wrap32, simprocAttr] at h); (first | omega | (simp (disch := omega) only [lnB, wrap64, wrap32] <;> omega))) | (exact needApp 256 rfl rfl (by simp) (by simp) (by omega)) | (simp <;> omega))) | ((with_reducible apply GET.at); rfl) | ((with_reducible apply GETG.at); rfl) | ((with_reducible refine IF.mk (fun h => ?_) (fun h => ?_)) <;> (try simp (disch := omega) only [hsB, hsC, lnB, wrap64, wrap32, simprocAttr] at h) <;> try (exfalso; omega))) <;> conv => whnf)
  · refine FIN.value h0 rfl (congrArg (SV.int _) ?_)
    unfold iriM; rw [if_pos h]
  · rename_i h1
    refine FIN.value h0 rfl (congrArg (SV.int _) ?_)
    unfold iriM; rw [if_neg (by omega), if_pos]
    have hz : (s.take (schM s 0).toNat).length = 0 := by
      have : s.take (schM s 0).toNat = [] := h
      rw [this]; rfl
    rw [List.length_take] at hz
    by_cases hl : s.length = 0
    · rw [schM_end (by omega)]
    · omega
  · rename_i h1
    refine FIN.value h0 rfl (congrArg (SV.int _) ?_)
    unfold iriM; rw [if_neg (by omega), if_neg]
    intro h2
    apply h
    rw [h2]; rfl
end Go.Proofs.YtpffclpheldabaaGreatDoor
/- names: labels, walked. Conditions: none. -/
set_option linter.unusedVariables false
set_option linter.unusedSimpArgs false
set_option maxRecDepth 20000
namespace Go.Proofs.YtpffclpheldabaaGreatDoor
open Go.Sx Go.Our
theorem nLetter_does (r : Int) : Does Tryz.prog tab 192 0 [.int .i32 r] [] [] (Val (.bool (decide (LetterI r)))) := by
  refine Does.enter tabOK (g := 192) (fn := Tryz.f192) Tryz.call192 Tryz.func192 rfl 17 rfl rfl [.tmp 2] rfl ?_
  intro w0 F η0 h0
  conv => whnf
  repeat' ((first | with_reducible refine IF.tt ?_ | with_reducible refine IF.ff ?_ | ((with_reducible refine NEED.mk ?_ ?_); (first | with_reducible rfl | omega | (simp (disch := omega) only [lnB, wrap64, wrap32] <;> omega) | (intro h; (try simp (disch := omega) only [hsB, hsC, lnB, wrap64, wrap32, simprocAttr] at h); (first | omega | (simp (disch := omega) only [lnB, wrap64, wrap32] <;> omega))) | (exact needApp 256 rfl rfl (by simp) (by simp) (by omega)) | (simp <;> omega))) | ((with_reducible apply GET.at); rfl) | ((with_reducible apply GETG.at); rfl) | ((with_reducible refine IF.mk (fun h => ?_) (fun h => ?_)) <;> (try simp (disch := omega) only [hsB, hsC, lnB, wrap64, wrap32, simprocAttr] at h) <;> try (exfalso; omega))) <;> conv => whnf)
  refine FIN.value h0 rfl (congrArg SV.bool ?_)
  rw [Bool.eq_iff_iff]
  simp only [Bool.cond_eq_ite, decide_eq_true_eq, Bool.if_false_right, Bool.if_true_left, Bool.and_eq_true, Bool.or_eq_true]
  rfl
theorem nDigit_does (r : Int) : Does Tryz.prog tab 151 0 [.int .i32 r] [] [] (Val (.bool (decide (DigitI r)))) := by
  refine Does.enter tabOK (g := 151) (fn := Tryz.f151) Tryz.call151 Tryz.func151 rfl 9 rfl rfl [.tmp 2] rfl ?_
  intro w0 F η0 h0
  conv => whnf
  repeat' ((first | with_reducible refine IF.tt ?_ | with_reducible refine IF.ff ?_ | ((with_reducible refine NEED.mk ?_ ?_); (first | with_reducible rfl | omega | (simp (disch := omega) only [lnB, wrap64, wrap32] <;> omega) | (intro h; (try simp (disch := omega) only [hsB, hsC, lnB, wrap64, wrap32, simprocAttr] at h); (first | omega | (simp (disch := omega) only [lnB, wrap64, wrap32] <;> omega))) | (exact needApp 256 rfl rfl (by simp) (by simp) (by omega)) | (simp <;> omega))) | ((with_reducible apply GET.at); rfl) | ((with_reducible apply GETG.at); rfl) | ((with_reducible refine IF.mk (fun h => ?_) (fun h => ?_)) <;> (try simp (disch := omega) only [hsB, hsC, lnB, wrap64, wrap32, simprocAttr] at h) <;> try (exfalso; omega))) <;> conv => whnf)
  refine FIN.value h0 rfl (congrArg SV.bool ?_)
  rw [Bool.eq_iff_iff]
  simp only [Bool.cond_eq_ite, decide_eq_true_eq, Bool.if_false_right, Bool.if_true_left, Bool.and_eq_true, Bool.or_eq_true]
  rfl
theorem nBase_does (r : Int) : Does Tryz.prog tab 181 0 [.int .i32 r] [] [] (Val (.bool (decide (BaseI r)))) := by
  refine Does.enter tabOK (g := 181) (fn := Tryz.f181) Tryz.call181 Tryz.func181 rfl 25 rfl rfl [.tmp 2] rfl ?_
  intro w0 F η0 h0
  conv => whnf
  repeat' ((first | with_reducible refine IF.tt ?_ | with_reducible refine IF.ff ?_ | refine CALL.value (nLetter_does _) rfl rfl ?_ | (refine LOOP.once tabOK ?_; conv => whnf) | ((with_reducible refine NEED.mk ?_ ?_); (first | with_reducible rfl | omega | (simp (disch := omega) only [lnB, wrap64, wrap32] <;> omega) | (intro h; (try simp (disch := omega) only [hsB, hsC, lnB, wrap64, wrap32, simprocAttr] at h); (first | omega | (simp (disch := omega) only [lnB, wrap64, wrap32] <;> omega))) | (exact needApp 256 rfl rfl (by simp) (by simp) (by omega)) | (simp <;> omega))) | ((with_reducible apply GET.at); rfl) | ((with_reducible apply GETG.at); rfl) | ((with_reducible refine IF.mk (fun h => ?_) (fun h => ?_)) <;> (try simp (disch := omega) only [hsB, hsC, lnB, wrap64, wrap32, simprocAttr] at h) <;> try (exfalso; omega))) <;> conv => whnf)
  all_goals
    refine FIN.value h0 rfl (congrArg SV.bool ?_)
    first
      | exact decide_eq_decide.2 (by unfold LetterI BaseI; omega)
      | exact (decide_eq_true (by unfold BaseI; omega)).symm
      | exact (decide_eq_false (by unfold BaseI; omega)).symm
theorem nStarter_does (r : Int) : Does Tryz.prog tab 150 0 [.int .i32 r] [] [] (Val (.bool (decide (StartI r)))) := by
  refine Does.enter tabOK (g := 150) (fn := Tryz.f150) Tryz.call150 Tryz.func150 rfl 9 rfl rfl [.tmp 2] rfl ?_
  intro w0 F η0 h0
  conv => whnf
  repeat' ((first | with_reducible refine IF.tt ?_ | with_reducible refine IF.ff ?_ | refine CALL.value (nBase_does _) rfl rfl ?_ | ((with_reducible refine NEED.mk ?_ ?_); (first | with_reducible rfl | omega | (simp (disch := omega) only [lnB, wrap64, wrap32] <;> omega) | (intro h; (try simp (disch := omega) only [hsB, hsC, lnB, wrap64, wrap32, simprocAttr] at h); (first | omega | (simp (disch := omega) only [lnB, wrap64, wrap32] <;> omega))) | (exact needApp 256 rfl rfl (by simp) (by simp) (by omega)) | (simp <;> omega))) | ((with_reducible apply GET.at); rfl) | ((with_reducible apply GETG.at); rfl) | ((with_reducible refine IF.mk (fun h => ?_) (fun h => ?_)) <;> (try simp (disch := omega) only [hsB, hsC, lnB, wrap64, wrap32, simprocAttr] at h) <;> try (exfalso; omega))) <;> conv => whnf)
  all_goals
    refine FIN.value h0 rfl (congrArg SV.bool ?_)
    rw [Bool.eq_iff_iff, decide_eq_true_iff]
    unfold StartI
    simp
theorem nFollower_does (r : Int) : Does Tryz.prog tab 149 0 [.int .i32 r] [] [] (Val (.bool (decide (FollowI r)))) := by
  refine Does.enter tabOK (g := 149) (fn := Tryz.f149) Tryz.call149 Tryz.func149 rfl 33 rfl rfl [.tmp 2] rfl ?_
  intro w0 F η0 h0
  conv => whnf
  repeat' ((first | with_reducible refine IF.tt ?_ | with_reducible refine IF.ff ?_ | refine CALL.value (nStarter_does _) rfl rfl ?_ | refine CALL.value (nDigit_does _) rfl rfl ?_ | ((with_reducible refine NEED.mk ?_ ?_); (first | with_reducible rfl | omega | (simp (disch := omega) only [lnB, wrap64, wrap32] <;> omega) | (intro h; (try simp (disch := omega) only [hsB, hsC, lnB, wrap64, wrap32, simprocAttr] at h); (first | omega | (simp (disch := omega) only [lnB, wrap64, wrap32] <;> omega))) | (exact needApp 256 rfl rfl (by simp) (by simp) (by omega)) | (simp <;> omega))) | ((with_reducible apply GET.at); rfl) | ((with_reducible apply GETG.at); rfl) | ((with_reducible refine IF.mk (fun h => ?_) (fun h => ?_)) <;> (try simp (disch := omega) only [hsB, hsC, lnB, wrap64, wrap32, simprocAttr] at h) <;> try (exfalso; omega))) <;> conv => whnf)
  all_goals
    refine FIN.value h0 rfl (congrArg SV.bool ?_)
    rw [Bool.eq_iff_iff]
    unfold FollowI
    simp_all
    try omega
theorem nLabels_does (r : Int) : Does Tryz.prog tab 112 0 [.int .i32 r] [] [] (Val (.bool (decide (LabelI r)))) := by
  refine Does.enter tabOK (g := 112) (fn := Tryz.f112) Tryz.call112 Tryz.func112 rfl 9 rfl rfl [.tmp 2] rfl ?_
  intro w0 F η0 h0
  conv => whnf
  repeat' ((first | with_reducible refine IF.tt ?_ | with_reducible refine IF.ff ?_ | refine CALL.value (nStarter_does _) rfl rfl ?_ | refine CALL.value (nDigit_does _) rfl rfl ?_ | ((with_reducible refine NEED.mk ?_ ?_); (first | with_reducible rfl | omega | (simp (disch := omega) only [lnB, wrap64, wrap32] <;> omega) | (intro h; (try simp (disch := omega) only [hsB, hsC, lnB, wrap64, wrap32, simprocAttr] at h); (first | omega | (simp (disch := omega) only [lnB, wrap64, wrap32] <;> omega))) | (exact needApp 256 rfl rfl (by simp) (by simp) (by omega)) | (simp <;> omega))) | ((with_reducible apply GET.at); rfl) | ((with_reducible apply GETG.at); rfl) | ((with_reducible refine IF.mk (fun h => ?_) (fun h => ?_)) <;> (try simp (disch := omega) only [hsB, hsC, lnB, wrap64, wrap32, simprocAttr] at h) <;> try (exfalso; omega))) <;> conv => whnf)
  all_goals
    refine FIN.value h0 rfl (congrArg SV.bool ?_)
    unfold LabelI
    simp_all
theorem nRun_does (g : Nat) (p : Int → Prop) [DecidablePred p] (hp : ∀ r : Int, Does Tryz.prog tab g 0 [.int .i32 r] [] [] (Val (.bool (decide (p r))))) (s : List UInt8) (i : Int) (hs : Sm s) : Does Tryz.prog tab 111 0 [.str s, .int .i64 i, .fn (.func g) [] []] [] [] (Val (.int .i64 (runM p s i))) := by
  have hn := nextAt_n s i
  refine Does.enter tabOK (g := 111) (fn := Tryz.f111) Tryz.call111 Tryz.func111 rfl 55 rfl rfl [.tmp 6] rfl ?_
  intro w0 F η0 h0
  conv => whnf
  repeat' ((first | with_reducible refine IF.tt ?_ | with_reducible refine IF.ff ?_ | refine CALL.value (next_does s _ hs) rfl rfl ?_ | refine CALL.value (hp _) rfl rfl ?_ | ((with_reducible refine NEED.mk ?_ ?_); (first | with_reducible rfl | omega | (simp (disch := omega) only [lnB, wrap64, wrap32] <;> omega) | (intro h; (try simp (disch := omega) only [hsB, hsC, lnB, wrap64, wrap32, simprocAttr] at h); (first | omega | (simp (disch := omega) only [lnB, wrap64, wrap32] <;> omega))) | (exact needApp 256 rfl rfl (by simp) (by simp) (by omega)) | (simp <;> omega))) | ((with_reducible apply GET.at); rfl) | ((with_reducible apply GETG.at); rfl) | ((with_reducible refine IF.mk (fun h => ?_) (fun h => ?_)) <;> (try simp (disch := omega) only [hsB, hsC, lnB, wrap64, wrap32, simprocAttr] at h) <;> try (exfalso; omega))) <;> conv => whnf)
  · exact FIN.value h0 rfl (congrArg (SV.int _) (by unfold runM; rw [if_pos (.inl h)]))
  · exact FIN.value h0 rfl (congrArg (SV.int _) (by unfold runM; rw [if_pos (.inr h)]))
  rename_i h1
  have hi : 0 ≤ i ∧ i < s.length := by
    apply Classical.byContradiction; intro hh; exact h1 (by unfold nextAt; rw [if_pos (by omega)])
  refine LOOP.go tabOK [0, 1] (X := Nat × Nat) (fun x => x.1 ≤ s.length ∧ x.2 ≤ x.1 ∧ runGo s x.1 x.2 = runGo s (i.toNat + (nextAt s i).2.toNat) (i.toNat + (nextAt s i).2.toNat)) (fun x => [(10, .int .i64 (x.1 : Int)), (9, .int .i64 (x.2 : Int))]) (fun i => []) 0 (fun x => s.length - x.1) (i.toNat + (nextAt s i).2.toNat, i.toNat + (nextAt s i).2.toNat) ⟨by omega, by omega, rfl⟩ ?_
  conv => whnf
  refine ⟨by (refine GOES.cutting h0 rfl rfl rfl (by first | rfl | simp [belowO, belowH, plainLL_below, plainLL_map, plainL, plain]) ?_ ?_ <;> (repeat' (first | (with_reducible rfl) | (exact congrArg (fun n => SV.sl _ _ _ n _) (by simp)) | (exact congrArg (Hp.rows _) (by simp)) | (exact congrArg (SV.int _) (by first | omega | (simp (disch := omega) only [lnB, wrap64, wrap32] <;> omega) | (simp; done) | (simp <;> omega))) | ((conv => whnf); refine ⟨?_, ?_⟩) | exact trivial | (simp; done) | rfl))), ?_⟩
  rintro ⟨j, e⟩ ⟨hj, he, hc⟩
  simp only at hj he hc
  have hn' := nextAt_n s j
  conv => whnf
  repeat' ((first | with_reducible refine IF.tt ?_ | with_reducible refine IF.ff ?_ | refine CALL.value (next_does s _ hs) rfl rfl ?_ | refine CALL.value (nFollower_does _) rfl rfl ?_ | ((with_reducible refine NEED.mk ?_ ?_); (first | with_reducible rfl | omega | (simp (disch := omega) only [lnB, wrap64, wrap32] <;> omega) | (intro h; (try simp (disch := omega) only [hsB, hsC, lnB, wrap64, wrap32, simprocAttr] at h); (first | omega | (simp (disch := omega) only [lnB, wrap64, wrap32] <;> omega))) | (exact needApp 256 rfl rfl (by simp) (by simp) (by omega)) | (simp <;> omega))) | ((with_reducible apply GET.at); rfl) | ((with_reducible apply GETG.at); rfl) | ((with_reducible refine IF.mk (fun h => ?_) (fun h => ?_)) <;> (try simp (disch := omega) only [hsB, hsC, lnB, wrap64, wrap32, simprocAttr] at h) <;> try (exfalso; omega))) <;> conv => whnf)
  all_goals first
    | (refine FIN.value h0 rfl (congrArg (SV.int _) ?_)
       unfold runM
       rw [if_neg (by simp [*]), ← hc, runGo_stop (by simp [*])]
       simp (disch := omega) only [wrap64])
    | (refine ⟨(j + (nextAt s j).2.toNat, if (nextAt s j).1 = 46 then e else j + (nextAt s j).2.toNat), ⟨by simp only; omega, by simp only; split <;> omega, ?_⟩, by simp only; omega, ?_⟩
       · simp only
         rw [← hc, ← runGo_step (by simp [*])]
       · conv => whnf
         simp only [*, if_true, if_false]
         (refine GOES.cutting h0 rfl rfl rfl (by first | rfl | simp [belowO, belowH, plainLL_below, plainLL_map, plainL, plain]) ?_ ?_ <;> (repeat' (first | (with_reducible rfl) | (exact congrArg (fun n => SV.sl _ _ _ n _) (by simp)) | (exact congrArg (Hp.rows _) (by simp)) | (exact congrArg (SV.int _) (by first | omega | (simp (disch := omega) only [lnB, wrap64, wrap32] <;> omega) | (simp; done) | (simp <;> omega))) | ((conv => whnf); refine ⟨?_, ?_⟩) | exact trivial | (simp; done) | rfl))))
theorem nLabelAt_does (s : List UInt8) (i : Int) (hs : Sm s) : Does Tryz.prog tab 73 0 [.str s, .int .i64 i] [] [] (Val (.int .i64 (runM LabelI s i))) := by
  refine Does.enter tabOK (g := 73) (fn := Tryz.f73) Tryz.call73 Tryz.func73 rfl 8 rfl rfl [.tmp 4] rfl ?_
  intro w0 F η0 h0
  conv => whnf
  repeat' ((first | with_reducible refine IF.tt ?_ | with_reducible refine IF.ff ?_ | refine CALL.value (nRun_does _ LabelI (fun r => nLabels_does r) s i hs) rfl rfl ?_ | ((with_reducible refine NEED.mk ?_ ?_); (first | with_reducible rfl | omega | (simp (disch := omega) only [lnB, wrap64, wrap32] <;> omega) | (intro h; (try simp (disch := omega) only [hsB, hsC, lnB, wrap64, wrap32, simprocAttr] at h); (first | omega | (simp (disch := omega) only [lnB, wrap64, wrap32] <;> omega))) | (exact needApp 256 rfl rfl (by simp) (by simp) (by omega)) | (simp <;> omega))) | ((with_reducible apply GET.at); rfl) | ((with_reducible apply GETG.at); rfl) | ((with_reducible refine IF.mk (fun h => ?_) (fun h => ?_)) <;> (try simp (disch := omega) only [hsB, hsC, lnB, wrap64, wrap32, simprocAttr] at h) <;> try (exfalso; omega))) <;> conv => whnf)
  exact FIN.value h0 rfl rfl
theorem nLabel_does (s : List UInt8) (hs : Sm s) : Does Tryz.prog tab 57 0 [.str s] [] [] (Val (.int .i64 (labelM s))) := by
  refine Does.enter tabOK (g := 57) (fn := Tryz.f57) Tryz.call57 Tryz.func57 rfl 14 rfl rfl [.tmp 2] rfl ?_
  intro w0 F η0 h0
  conv => whnf
  repeat' ((first | with_reducible refine IF.tt ?_ | with_reducible refine IF.ff ?_ | refine CALL.value (nLabelAt_does s _ hs) rfl rfl ?_ | ((with_reducible refine NEED.mk ?_ ?_); (first | with_reducible rfl | omega | (simp (disch := omega) only [lnB, wrap64, wrap32] <;> omega) | (intro h; (try simp (disch := omega) only [hsB, hsC, lnB, wrap64, wrap32, simprocAttr] at h); (first | omega | (simp (disch := omega) only [lnB, wrap64, wrap32] <;> omega))) | (exact needApp 256 rfl rfl (by simp) (by simp) (by omega)) | (simp <;> omega))) | ((with_reducible apply GET.at); rfl) | ((with_reducible apply GETG.at); rfl) | ((with_reducible refine IF.mk (fun h => ?_) (fun h => ?_)) <;> (try simp (disch := omega) only [hsB, hsC, lnB, wrap64, wrap32, simprocAttr] at h) <;> try (exfalso; omega))) <;> conv => whnf)
  · exact FIN.value h0 rfl (congrArg (SV.int _) (by unfold labelM; rw [if_pos (by simpa using h)]))
  · exact FIN.value h0 rfl (congrArg (SV.int _) (by unfold labelM; rw [if_neg (by simp; exact h)]))
end Go.Proofs.YtpffclpheldabaaGreatDoor
/- names: parts of tags, walked. Conditions: none. -/
set_option linter.unusedVariables false
set_option linter.unusedSimpArgs false
set_option maxRecDepth 20000
namespace Go.Proofs.YtpffclpheldabaaGreatDoor
open Go.Sx Go.Our
theorem made_does (s : List UInt8) (least most : Int) (pure : Bool) (hs : Sm s) : Does Tryz.prog tab 169 0 [.str s, .int .i64 least, .int .i64 most, .bool pure] [] [] (Val (.bool (madeM s least most pure))) := by
  refine Does.enter tabOK (g := 169) (fn := Tryz.f169) Tryz.call169 Tryz.func169 rfl 37 rfl rfl [.tmp 8] rfl ?_
  intro w0 F η0 h0
  conv => whnf
  refine LOOP.go tabOK [0, 1, 2, 3, 12] (X := Nat) (fun i => i ≤ s.length ∧ allB (partB pure) s i = allB (partB pure) s 0) (fun i => []) (fun i => [(0, .siter s i)]) 1 (fun i => s.length - i) 0 ⟨by omega, rfl⟩ ?_
  conv => whnf
  refine ⟨by (refine GOES.cutting h0 rfl rfl rfl (by first | rfl | simp [belowO, belowH, plainLL_below, plainLL_map, plainL, plain]) ?_ ?_ <;> (repeat' (first | (with_reducible rfl) | (exact congrArg (fun n => SV.sl _ _ _ n _) (by simp)) | (exact congrArg (Hp.rows _) (by simp)) | (exact congrArg (SV.int _) (by first | omega | (simp (disch := omega) only [lnB, wrap64, wrap32] <;> omega) | (simp; done) | (simp <;> omega))) | ((conv => whnf); refine ⟨?_, ?_⟩) | exact trivial | (simp; done) | rfl))), ?_⟩
  rintro i ⟨hi, hc⟩
  conv => whnf
  refine ⟨fun h => ?_, fun h => ?_⟩
  · have h : i < s.length := by simpa using h
    have hf := deco_fits s i h
    have hp := deco_pos s i
    have hd : ((deco s i).1 : Int) = byteAt s i ∧ (deco s i).2 = 1 ∨ 128 ≤ byteAt s i ∧ 128 ≤ (deco s i).1 := by
      have hb := byteAt_lt s i
      by_cases ha : byteAt s i < 128
      · left; rw [deco_ascii ha]; simp; omega
      · right; exact ⟨by omega, deco_high (by omega)⟩
    unfold deco at *
    generalize Utf8.decode ⟨s.toArray⟩ i = d at *
    obtain ⟨r, n⟩ := d
    simp only at hf hp hd
    have key : allB (partB pure) s 0 = (partB pure r && allB (partB pure) s (i + n)) ∨ 128 ≤ r ∧ allB (partB pure) s 0 = false := by
      rcases hd with ⟨h1, rfl⟩ | ⟨h1, h2⟩
      · left; rw [← hc, allB_at h, h1]
      · right; exact ⟨h2, by rw [← hc, allB_at h, partB_high h1, Bool.false_and]⟩
    conv => whnf
    repeat' ((first | with_reducible refine IF.tt ?_ | with_reducible refine IF.ff ?_ | refine CALL.value (nLetter_does _) rfl rfl ?_ | refine CALL.value (nDigit_does _) rfl rfl ?_ | ((with_reducible refine NEED.mk ?_ ?_); (first | with_reducible rfl | omega | (simp (disch := omega) only [lnB, wrap64, wrap32] <;> omega) | (intro h; (try simp (disch := omega) only [hsB, hsC, lnB, wrap64, wrap32, simprocAttr] at h); (first | omega | (simp (disch := omega) only [lnB, wrap64, wrap32] <;> omega))) | (exact needApp 256 rfl rfl (by simp) (by simp) (by omega)) | (simp <;> omega))) | ((with_reducible apply GET.at); rfl) | ((with_reducible apply GETG.at); rfl) | ((with_reducible refine IF.mk (fun h => ?_) (fun h => ?_)) <;> (try simp (disch := omega) only [hsB, hsC, lnB, wrap64, wrap32, simprocAttr] at h) <;> try (exfalso; omega))) <;> conv => whnf)
    all_goals first
      | (refine FIN.value h0 rfl (congrArg SV.bool ?_)
         have h1 : partB pure r = false := by unfold partB letterB digitB; simp [*]
         have h2 : allB (partB pure) s 0 = false := by rcases key with h | h <;> simp [h, h1]
         unfold madeM; rw [h2]; rfl)
      | (have h1 : partB pure r = true := by unfold partB letterB digitB; simp [*]
         refine ⟨i + n, ⟨hf, ?_⟩, by omega, ?_⟩
         · rcases key with h | h
           · rw [h, h1, Bool.true_and]
           · rw [partB_high (by omega)] at h1; cases h1
         · conv => whnf
           (refine GOES.cutting h0 rfl rfl rfl (by first | rfl | simp [belowO, belowH, plainLL_below, plainLL_map, plainL, plain]) ?_ ?_ <;> (repeat' (first | (with_reducible rfl) | (exact congrArg (fun n => SV.sl _ _ _ n _) (by simp)) | (exact congrArg (Hp.rows _) (by simp)) | (exact congrArg (SV.int _) (by first | omega | (simp (disch := omega) only [lnB, wrap64, wrap32] <;> omega) | (simp; done) | (simp <;> omega))) | ((conv => whnf); refine ⟨?_, ?_⟩) | exact trivial | (simp; done) | rfl))))
  · have h : s.length ≤ i := by simpa using h
    conv => whnf
    repeat' ((first | with_reducible refine IF.tt ?_ | with_reducible refine IF.ff ?_ | ((with_reducible refine NEED.mk ?_ ?_); (first | with_reducible rfl | omega | (simp (disch := omega) only [lnB, wrap64, wrap32] <;> omega) | (intro h; (try simp (disch := omega) only [hsB, hsC, lnB, wrap64, wrap32, simprocAttr] at h); (first | omega | (simp (disch := omega) only [lnB, wrap64, wrap32] <;> omega))) | (exact needApp 256 rfl rfl (by simp) (by simp) (by omega)) | (simp <;> omega))) | ((with_reducible apply GET.at); rfl) | ((with_reducible apply GETG.at); rfl) | ((with_reducible refine IF.mk (fun h => ?_) (fun h => ?_)) <;> (try simp (disch := omega) only [hsB, hsC, lnB, wrap64, wrap32, simprocAttr] at h) <;> try (exfalso; omega))) <;> conv => whnf)
    all_goals
      refine FIN.value h0 rfl (congrArg SV.bool ?_)
      unfold madeM
      rw [← hc, allB_end h, Bool.eq_iff_iff]
      simp [Bool.cond_eq_ite]
theorem private_does (s : List UInt8) : Does Tryz.prog tab 125 0 [.str s] [] [] (Val (.bool (privateM s))) := by
  refine Does.enter tabOK (g := 125) (fn := Tryz.f125) Tryz.call125 Tryz.func125 rfl 9 rfl rfl [.tmp 2] rfl ?_
  intro w0 F η0 h0
  conv => whnf
  repeat' ((first | with_reducible refine IF.tt ?_ | with_reducible refine IF.ff ?_ | ((with_reducible refine NEED.mk ?_ ?_); (first | with_reducible rfl | omega | (simp (disch := omega) only [lnB, wrap64, wrap32] <;> omega) | (intro h; (try simp (disch := omega) only [hsB, hsC, lnB, wrap64, wrap32, simprocAttr] at h); (first | omega | (simp (disch := omega) only [lnB, wrap64, wrap32] <;> omega))) | (exact needApp 256 rfl rfl (by simp) (by simp) (by omega)) | (simp <;> omega))) | ((with_reducible apply GET.at); rfl) | ((with_reducible apply GETG.at); rfl) | ((with_reducible refine IF.mk (fun h => ?_) (fun h => ?_)) <;> (try simp (disch := omega) only [hsB, hsC, lnB, wrap64, wrap32, simprocAttr] at h) <;> try (exfalso; omega))) <;> conv => whnf)
  refine FIN.value h0 rfl (congrArg SV.bool ?_)
  unfold privateM
  rw [Bool.eq_iff_iff]
  simp [Bool.cond_eq_ite]
theorem region_does (s : List UInt8) (hs : Sm s) : Does Tryz.prog tab 172 0 [.str s] [] [] (Val (.bool (regionM s))) := by
  have b0 := byteAt_lt s 0; have b1 := byteAt_lt s 1; have b2 := byteAt_lt s 2
  refine Does.enter tabOK (g := 172) (fn := Tryz.f172) Tryz.call172 Tryz.func172 rfl 28 rfl rfl [.tmp 2] rfl ?_
  intro w0 F η0 h0
  conv => whnf
  repeat' ((first | with_reducible refine IF.tt ?_ | with_reducible refine IF.ff ?_ | refine CALL.value (made_does _ _ _ _ hs) rfl rfl ?_ | refine CALL.value (nDigit_does _) rfl rfl ?_ | ((with_reducible refine NEED.mk ?_ ?_); (first | with_reducible rfl | omega | (simp (disch := omega) only [lnB, wrap64, wrap32] <;> omega) | (intro h; (try simp (disch := omega) only [hsB, hsC, lnB, wrap64, wrap32, simprocAttr] at h); (first | omega | (simp (disch := omega) only [lnB, wrap64, wrap32] <;> omega))) | (exact needApp 256 rfl rfl (by simp) (by simp) (by omega)) | (simp <;> omega))) | ((with_reducible apply GET.at); rfl) | ((with_reducible apply GETG.at); rfl) | ((with_reducible refine IF.mk (fun h => ?_) (fun h => ?_)) <;> (try simp (disch := omega) only [hsB, hsC, lnB, wrap64, wrap32, simprocAttr] at h) <;> try (exfalso; omega))) <;> conv => whnf)
  all_goals
    refine FIN.value h0 rfl (congrArg SV.bool ?_)
    unfold regionM digitB
    try simp (disch := omega) only [wrap32] at *
    simp_all
    try omega
theorem variant_does (s : List UInt8) (hs : Sm s) : Does Tryz.prog tab 173 0 [.str s] [] [] (Val (.bool (variantM s))) := by
  have b0 := byteAt_lt s 0
  have hm : madeM s 4 4 false = true → s.length = 4 := by unfold madeM; simp; omega
  refine Does.enter tabOK (g := 173) (fn := Tryz.f173) Tryz.call173 Tryz.func173 rfl 15 rfl rfl [.tmp 2] rfl ?_
  intro w0 F η0 h0
  conv => whnf
  repeat' ((first | with_reducible refine IF.tt ?_ | with_reducible refine IF.ff ?_ | refine CALL.value (made_does _ _ _ _ hs) rfl rfl ?_ | refine CALL.value (nDigit_does _) rfl rfl ?_ | (refine NEED.mk (by have := hm (by assumption); omega) ?_; conv => whnf) | ((with_reducible refine NEED.mk ?_ ?_); (first | with_reducible rfl | omega | (simp (disch := omega) only [lnB, wrap64, wrap32] <;> omega) | (intro h; (try simp (disch := omega) only [hsB, hsC, lnB, wrap64, wrap32, simprocAttr] at h); (first | omega | (simp (disch := omega) only [lnB, wrap64, wrap32] <;> omega))) | (exact needApp 256 rfl rfl (by simp) (by simp) (by omega)) | (simp <;> omega))) | ((with_reducible apply GET.at); rfl) | ((with_reducible apply GETG.at); rfl) | ((with_reducible refine IF.mk (fun h => ?_) (fun h => ?_)) <;> (try simp (disch := omega) only [hsB, hsC, lnB, wrap64, wrap32, simprocAttr] at h) <;> try (exfalso; omega))) <;> conv => whnf)
  all_goals
    refine FIN.value h0 rfl (congrArg SV.bool ?_)
    unfold variantM digitB
    try simp (disch := omega) only [wrap32] at *
    simp_all
theorem lower_does (s : List UInt8) (hs : Sm s) : Does Tryz.prog tab 94 0 [.str s] [] [] (Val (.str (lowerM s))) := by
  refine Does.enter tabOK (g := 94) (fn := Tryz.f94) Tryz.call94 Tryz.func94 rfl 29 rfl rfl [.tmp 2] rfl ?_
  intro w0 F η0 h0
  conv => whnf
  repeat' ((first | with_reducible refine IF.tt ?_ | with_reducible refine IF.ff ?_ | ((with_reducible refine NEED.mk ?_ ?_); (first | with_reducible rfl | omega | (simp (disch := omega) only [lnB, wrap64, wrap32] <;> omega) | (intro h; (try simp (disch := omega) only [hsB, hsC, lnB, wrap64, wrap32, simprocAttr] at h); (first | omega | (simp (disch := omega) only [lnB, wrap64, wrap32] <;> omega))) | (exact needApp 256 rfl rfl (by simp) (by simp) (by omega)) | (simp <;> omega))) | ((with_reducible apply GET.at); rfl) | ((with_reducible apply GETG.at); rfl) | ((with_reducible refine IF.mk (fun h => ?_) (fun h => ?_)) <;> (try simp (disch := omega) only [hsB, hsC, lnB, wrap64, wrap32, simprocAttr] at h) <;> try (exfalso; omega))) <;> conv => whnf)
  refine LOOP.go tabOK [3, 8, 9] (X := Nat) (fun i => i ≤ s.length) (fun i => [(10, .int .i64 (i : Int))]) (fun i => [(0, .rows 1 ((curL s i).map Sx.bytesRow))]) 1 (fun i => s.length - i) 0 (by omega) ?_
  conv => whnf
  refine ⟨by (refine GOES.cutting h0 rfl rfl rfl (by first | rfl | (simp only [belowO, belowH, plainLL_below _ (plainBytes _), Bool.and_self, Bool.and_true] <;> rfl)) ?_ ?_ <;> (repeat' (first | (with_reducible rfl) | (exact congrArg (SV.int _) (by first | omega | (simp (disch := omega) only [lnB, wrap64, wrap32] <;> omega) | (simp; done) | (simp <;> omega))) | (exact congrArg (Hp.rows _) (by rw [curL_zero])) | ((conv => whnf); refine ⟨?_, ?_⟩) | exact trivial | rfl))), ?_⟩
  intro i hi
  have hlen := curL_len s i
  conv => whnf
  repeat' ((first | with_reducible refine IF.tt ?_ | with_reducible refine IF.ff ?_ | (refine GET.at (row := Sx.bytesRow (s[i]'(by omega))) (by rw [show 0 + (i : Int).toNat = i by omega]; exact rowL_get (by omega)) ?_; conv => whnf) | ((with_reducible refine NEED.mk ?_ ?_); (first | with_reducible rfl | omega | (simp (disch := omega) only [lnB, wrap64, wrap32] <;> omega) | (intro h; (try simp (disch := omega) only [hsB, hsC, lnB, wrap64, wrap32, simprocAttr] at h); (first | omega | (simp (disch := omega) only [lnB, wrap64, wrap32] <;> omega))) | (exact needApp 256 rfl rfl (by simp) (by simp) (by omega)) | (simp <;> omega))) | ((with_reducible apply GET.at); rfl) | ((with_reducible apply GETG.at); rfl) | ((with_reducible refine IF.mk (fun h => ?_) (fun h => ?_)) <;> (try simp (disch := omega) only [hsB, hsC, lnB, wrap64, wrap32, simprocAttr] at h) <;> try (exfalso; omega))) <;> conv => whnf)
  · have hl : i < s.length := by omega
    refine ⟨i + 1, by omega, by omega, ?_⟩
    conv => whnf
    (refine GOES.cutting h0 rfl rfl rfl (by first | rfl | (simp only [belowO, belowH, plainLL_below _ (plainBytes _), Bool.and_self, Bool.and_true] <;> rfl)) ?_ ?_ <;> (repeat' (first | (with_reducible rfl) | (exact congrArg (SV.int _) (by first | omega | (simp (disch := omega) only [lnB, wrap64, wrap32] <;> omega) | (simp; done) | (simp <;> omega))) | (exact congrArg (Hp.rows _) (by rw [lowB_up h, show 0 + (i : Int).toNat = i by omega, rowL_set hl])) | ((conv => whnf); refine ⟨?_, ?_⟩) | exact trivial | rfl)))
  · have hl : i < s.length := by omega
    refine ⟨i + 1, by omega, by omega, ?_⟩
    conv => whnf
    (refine GOES.cutting h0 rfl rfl rfl (by first | rfl | (simp only [belowO, belowH, plainLL_below _ (plainBytes _), Bool.and_self, Bool.and_true] <;> rfl)) ?_ ?_ <;> (repeat' (first | (with_reducible rfl) | (exact congrArg (SV.int _) (by first | omega | (simp (disch := omega) only [lnB, wrap64, wrap32] <;> omega) | (simp; done) | (simp <;> omega))) | (exact congrArg (Hp.rows _) (by rw [curL_same hl (lowB_id (by omega))])) | ((conv => whnf); refine ⟨?_, ?_⟩) | exact trivial | rfl)))
  · refine NEED.mk (needText (by omega)) ?_
    conv => whnf
    refine FIN.value h0 rfl (congrArg SV.str ?_)
    have := textAll (curL s i)
    rw [hlen] at this
    rw [this, curL_all (by omega)]
end Go.Proofs.YtpffclpheldabaaGreatDoor
/- strings.Split at a hyphen, slices.Contains at texts, cmp.Or at error numbers, walked. Conditions: none. -/
set_option linter.unusedVariables false
set_option linter.unusedSimpArgs false
set_option maxRecDepth 20000
namespace Go.Proofs.YtpffclpheldabaaGreatDoor
open Go.Sx Go.Our
theorem countString_does (s : List UInt8) (c : Int) : Does Tryz.prog tab 200 0 [.str s, .int .u8 c] [] [] (Val (.int .i64 (Lib.countByte s c.toNat.toUInt8 : Nat))) := by
  refine Does.says fun η w vs hd => ?_
  simp only [DenL, Den] at hd
  obtain ⟨u, us, rfl, rfl, u', us', rfl, rfl, rfl⟩ := hd
  refine ⟨_, ?_, rfl⟩
  rw [run_callFunc_extern Tryz.func200 (by kernel_rfl) (by kernel_rfl) (by kernel_rfl) (e := Extern.BytealgCount.count) (by kernel_rfl), Lib.run_countString]
  rfl
theorem count_does (s : List UInt8) : Does Tryz.prog tab 190 0 [.str s, .str [45]] [] [] (Val (.int .i64 (s.count 45 : Nat))) := by
  refine Does.enter tabOK (g := 190) (fn := Tryz.f190) Tryz.call190 Tryz.func190 rfl 34 rfl rfl [.tmp 4] rfl ?_
  intro w0 F η0 h0
  conv => whnf
  repeat' ((first | with_reducible refine IF.tt ?_ | with_reducible refine IF.ff ?_ | refine CALL.value (countString_does _ _) rfl rfl ?_ | ((with_reducible refine NEED.mk ?_ ?_); (first | with_reducible rfl | omega | (simp (disch := omega) only [lnB, wrap64, wrap32] <;> omega) | (intro h; (try simp (disch := omega) only [hsB, hsC, lnB, wrap64, wrap32, simprocAttr] at h); (first | omega | (simp (disch := omega) only [lnB, wrap64, wrap32] <;> omega))) | (exact needApp 256 rfl rfl (by simp) (by simp) (by omega)) | (simp <;> omega))) | ((with_reducible apply GET.at); rfl) | ((with_reducible apply GETG.at); rfl) | ((with_reducible refine IF.mk (fun h => ?_) (fun h => ?_)) <;> (try simp (disch := omega) only [hsB, hsC, lnB, wrap64, wrap32, simprocAttr] at h) <;> try (exfalso; omega))) <;> conv => whnf)
  all_goals first
    | exact FIN.value h0 rfl rfl
    | (exfalso; simp at *; done)
theorem slIndex_does (s : List UInt8) : Does Tryz.prog tab 201 0 [.str s, .str [45]] [] [] (Val (.int .i64 (Lib.indexByte s 45))) := by
  refine Does.enter tabOK (g := 201) (fn := Tryz.f201) Tryz.call201 Tryz.func201 rfl 143 rfl rfl [.tmp 4] rfl ?_
  intro w0 F η0 h0
  conv => whnf
  repeat' ((first | with_reducible refine IF.tt ?_ | with_reducible refine IF.ff ?_ | refine CALL.value (indexByteString_does _ _) rfl rfl ?_ | refine CALL.value (slIndexByte_does _ _) rfl rfl ?_ | refine CALL.value (indexByte_does _ _) rfl rfl ?_ | ((with_reducible refine NEED.mk ?_ ?_); (first | with_reducible rfl | omega | (simp (disch := omega) only [lnB, wrap64, wrap32] <;> omega) | (intro h; (try simp (disch := omega) only [hsB, hsC, lnB, wrap64, wrap32, simprocAttr] at h); (first | omega | (simp (disch := omega) only [lnB, wrap64, wrap32] <;> omega))) | (exact needApp 256 rfl rfl (by simp) (by simp) (by omega)) | (simp <;> omega))) | ((with_reducible apply GET.at); rfl) | ((with_reducible apply GETG.at); rfl) | ((with_reducible refine IF.mk (fun h => ?_) (fun h => ?_)) <;> (try simp (disch := omega) only [hsB, hsC, lnB, wrap64, wrap32, simprocAttr] at h) <;> try (exfalso; omega))) <;> conv => whnf)
  all_goals first
    | exact FIN.value h0 rfl rfl
    | (subst h; exact FIN.value h0 rfl rfl)
    | (rcases h with h | h
       · exact absurd h (by decide)
       · subst h; exact FIN.value h0 rfl rfl)
    | exact absurd (by assumption : ¬ ((0 + 1 : Nat) : Int) = 1) (by decide)
theorem index_does (s : List UInt8) : Does Tryz.prog tab 191 0 [.str s, .str [45]] [] [] (Val (.int .i64 (Lib.indexByte s 45))) := by
  refine Does.enter tabOK (g := 191) (fn := Tryz.f191) Tryz.call191 Tryz.func191 rfl 8 rfl rfl [.tmp 4] rfl ?_
  intro w0 F η0 h0
  conv => whnf
  repeat' ((first | with_reducible refine IF.tt ?_ | with_reducible refine IF.ff ?_ | refine CALL.value (slIndex_does _) rfl rfl ?_ | ((with_reducible refine NEED.mk ?_ ?_); (first | with_reducible rfl | omega | (simp (disch := omega) only [lnB, wrap64, wrap32] <;> omega) | (intro h; (try simp (disch := omega) only [hsB, hsC, lnB, wrap64, wrap32, simprocAttr] at h); (first | omega | (simp (disch := omega) only [lnB, wrap64, wrap32] <;> omega))) | (exact needApp 256 rfl rfl (by simp) (by simp) (by omega)) | (simp <;> omega))) | ((with_reducible apply GET.at); rfl) | ((with_reducible apply GETG.at); rfl) | ((with_reducible refine IF.mk (fun h => ?_) (fun h => ?_)) <;> (try simp (disch := omega) only [hsB, hsC, lnB, wrap64, wrap32, simprocAttr] at h) <;> try (exfalso; omega))) <;> conv => whnf)
  exact FIN.value h0 rfl rfl
theorem needMake {l c : Int} {b : Nat} (B : Nat) (hb : Nat.ble b B = true) (h0 : 0 ≤ l) (h1 : l ≤ c) (h2 : (B : Int) * c ≤ 281474976710656 ∧ c ≤ 9223372036854775807) : 0 ≤ l ∧ l ≤ c ∧ c ≤ 9223372036854775807 ∧ (b : Int) * c ≤ 281474976710656 :=
  ⟨h0, h1, h2.2, Int.le_trans (Int.mul_le_mul_of_nonneg_right (by have := Nat.le_of_ble_eq_true hb; omega) (by omega)) h2.1⟩
theorem genSplit_does (s : List UInt8) (hs : s.length ≤ 68719476736) : Does Tryz.prog tab 167 0 [.str s, .str [45], .int .i64 0, .int .i64 (-1)] [] [] (NewS 1 ((splitM s).map strRow)) := by
  have hcnt := split_count s
  have hlen := split_len s
  have hne := split_ne s
  refine Does.enter tabOK (g := 167) (fn := Tryz.f167) Tryz.call167 Tryz.func167 rfl 66 rfl rfl [.tmp 8] rfl ?_
  intro w0 F η0 h0
  conv => whnf
  repeat' ((first | with_reducible refine IF.tt ?_ | with_reducible refine IF.ff ?_ | refine CALL.value (count_does _) rfl rfl ?_ | ((with_reducible refine NEED.mk ?_ ?_); (first | with_reducible rfl | omega | (simp (disch := omega) only [lnB, wrap64, wrap32] <;> omega) | (intro h; (try simp (disch := omega) only [hsB, hsC, lnB, wrap64, wrap32, simprocAttr] at h); (first | omega | (simp (disch := omega) only [lnB, wrap64, wrap32] <;> omega))) | (exact needApp 256 rfl rfl (by simp) (by simp) (by omega)) | (simp <;> omega))) | ((with_reducible apply GET.at); rfl) | ((with_reducible apply GETG.at); rfl) | ((with_reducible refine IF.mk (fun h => ?_) (fun h => ?_)) <;> (try simp (disch := omega) only [hsB, hsC, lnB, wrap64, wrap32, simprocAttr] at h) <;> try (exfalso; omega))) <;> conv => whnf)
  have hn : (if IntKind.i64.wrap ((s.length : Int) + 1) < IntKind.i64.wrap (((s.count 45 : Nat) : Int) + 1) then IntKind.i64.wrap ((s.length : Int) + 1) else IntKind.i64.wrap (((s.count 45 : Nat) : Int) + 1)) = ((splitM s).length : Int) := by
    simp (disch := omega) only [wrap64]
    rw [if_neg (by omega)]; omega
  rw [hn]
  refine NEED.mk (needMake 16 rfl (by omega) (by omega) (by omega)) ?_
  conv => whnf
  rw [show List.replicate ((splitM s).length : Int).toNat [SV.str []] = fillR [] (splitM s).length by rw [Int.toNat_natCast]; rfl]
  refine LOOP.go tabOK [1, 2, 3, 9] (X := List (List UInt8) × List UInt8) (fun x => splitM s = x.1 ++ splitM x.2 ∧ x.2.length ≤ s.length) (fun x => [(10, .int .i64 (x.1.length : Int)), (0, .str x.2)]) (fun x => [(0, .rows 1 (fillR x.1 ((splitM s).length - x.1.length)))]) 1 (fun x => (splitM s).length - x.1.length) ([], s) ⟨rfl, Nat.le_refl _⟩ ?_
  conv => whnf
  refine ⟨by (refine GOES.cutting h0 rfl rfl rfl (by first | rfl | (simp only [belowO, belowH, plainLL_below _ (plainFill _ _), Bool.and_self, Bool.and_true] <;> rfl)) ?_ ?_ <;> (repeat' (first | (with_reducible rfl) | (exact congrArg (SV.int _) (by first | omega | (simp (disch := omega) only [lnB, wrap64, wrap32] <;> omega) | (simp; done) | (simp <;> omega))) | (exact congrArg (Hp.rows _) (by rfl)) | ((conv => whnf); refine ⟨?_, ?_⟩) | exact trivial | rfl))), ?_⟩
  rintro ⟨d, u⟩ ⟨he, hu⟩
  dsimp only at he hu ⊢
  have hd : d.length + (splitM u).length = (splitM s).length := by rw [he, List.length_append]
  have hun : 1 ≤ (splitM u).length := by have := split_count u; omega
  have hm : Lib.indexByte u 45 = -1 ∧ splitM u = [u] ∨ ∃ m : Nat, Lib.indexByte u 45 = m ∧ m < u.length ∧ splitM u = u.take m :: splitM (u.drop (m + 1)) := by
    have hge := Lib.indexByte_ge u 45
    by_cases h : Lib.indexByte u 45 = -1
    · exact .inl ⟨h, split_none h⟩
    · have e : Lib.indexByte u 45 = ((Lib.indexByte u 45).toNat : Int) := by omega
      have := split_some e
      exact .inr ⟨_, e, this.1, this.2⟩
  conv => whnf
  rcases hm with ⟨hm, hs1⟩ | ⟨m, hm, hml, hs1⟩
  · have h1 : (splitM u).length = 1 := by rw [hs1]; rfl
    repeat' ((first | with_reducible refine IF.tt ?_ | with_reducible refine IF.ff ?_ | refine CALL.value (index_does _) rfl rfl ?_ | (refine GET.at (row := strRow []) (fill_get (by omega) (by omega)) ?_; conv => whnf) | (refine NEED.mk (by rw [wrap64 (by omega) (by omega)]; refine ⟨by omega, ?_⟩; show _ ≤ ((max (((splitM s).length : Int).toNat) (_ - 0) : Nat) : Int); omega) ?_; conv => whnf) | ((with_reducible refine NEED.mk ?_ ?_); (first | with_reducible rfl | omega | (simp (disch := omega) only [lnB, wrap64, wrap32] <;> omega) | (intro h; (try simp (disch := omega) only [hsB, hsC, lnB, wrap64, wrap32, simprocAttr] at h); (first | omega | (simp (disch := omega) only [lnB, wrap64, wrap32] <;> omega))) | (exact needApp 256 rfl rfl (by simp) (by simp) (by omega)) | (simp <;> omega))) | ((with_reducible apply GET.at); rfl) | ((with_reducible apply GETG.at); rfl) | ((with_reducible refine IF.mk (fun h => ?_) (fun h => ?_)) <;> (try simp (disch := omega) only [hsB, hsC, lnB, wrap64, wrap32, simprocAttr] at h) <;> try (exfalso; omega))) <;> conv => whnf)
    rw [fill_set (by omega) (by omega)]
    have hw : (IntKind.i64.wrap ((d.length : Int) + 1)).toNat = ((splitM s).map strRow).length := by
      rw [wrap64 (by omega) (by omega), List.length_map]; omega
    rw [hw, show (splitM s).length - d.length - 1 = 0 by omega, show fillR (d ++ [u]) 0 = (splitM s).map strRow by rw [he, hs1]; simp [fillR]]
    exact FIN.rows h0 0 1 _ rfl rfl rfl (plainStrs _) ⟨rfl, rfl, rfl⟩
  · have h1 : 2 ≤ (splitM u).length := by rw [hs1]; have := split_count (u.drop (m + 1)); simp; omega
    repeat' ((first | with_reducible refine IF.tt ?_ | with_reducible refine IF.ff ?_ | refine CALL.value (index_does _) rfl rfl ?_ | (refine GET.at (row := strRow []) (fill_get (by omega) (by omega)) ?_; conv => whnf) | ((with_reducible refine NEED.mk ?_ ?_); (first | with_reducible rfl | omega | (simp (disch := omega) only [lnB, wrap64, wrap32] <;> omega) | (intro h; (try simp (disch := omega) only [hsB, hsC, lnB, wrap64, wrap32, simprocAttr] at h); (first | omega | (simp (disch := omega) only [lnB, wrap64, wrap32] <;> omega))) | (exact needApp 256 rfl rfl (by simp) (by simp) (by omega)) | (simp <;> omega))) | ((with_reducible apply GET.at); rfl) | ((with_reducible apply GETG.at); rfl) | ((with_reducible refine IF.mk (fun h => ?_) (fun h => ?_)) <;> (try simp (disch := omega) only [hsB, hsC, lnB, wrap64, wrap32, simprocAttr] at h) <;> try (exfalso; omega))) <;> conv => whnf)
    have hw1 : (IntKind.i64.wrap (Lib.indexByte u 45 + (([45] : List UInt8).length : Int))).toNat = m + 1 := by
      rw [hm]; simp only [List.length_cons, List.length_nil]; rw [wrap64 (by omega) (by omega)]; omega
    have hw2 : (IntKind.i64.wrap (Lib.indexByte u 45 + 0)).toNat = m := by
      rw [hm, wrap64 (by omega) (by omega)]; omega
    rw [hw1, hw2, fill_set (by omega) (by omega)]
    refine ⟨(d ++ [u.take m], u.drop (m + 1)), ⟨by rw [he, hs1]; simp, by simp; omega⟩, by simp; omega, ?_⟩
    dsimp only
    conv => whnf
    (refine GOES.cutting h0 rfl rfl rfl (by first | rfl | (simp only [belowO, belowH, plainLL_below _ (plainFill _ _), Bool.and_self, Bool.and_true] <;> rfl)) ?_ ?_ <;> (repeat' (first | (with_reducible rfl) | (exact congrArg (SV.int _) (by first | omega | (simp (disch := omega) only [lnB, wrap64, wrap32] <;> omega) | (simp; done) | (simp <;> omega))) | (exact congrArg (Hp.rows _) (by congr 1; simp; omega)) | ((conv => whnf); refine ⟨?_, ?_⟩) | exact trivial | rfl)))
theorem split_does (s : List UInt8) (hs : s.length ≤ 68719476736) : Does Tryz.prog tab 123 0 [.str s, .str [45]] [] [] (NewS 1 ((splitM s).map strRow)) := by
  refine Does.enter tabOK (g := 123) (fn := Tryz.f123) Tryz.call123 Tryz.func123 rfl 8 rfl rfl [.tmp 4] rfl ?_
  intro w0 F η0 h0
  conv => whnf
  refine CALL.newS (genSplit_does s hs) rfl (plainStrs _) ?_
  conv => whnf
  exact FIN.rows h0 0 1 _ rfl rfl rfl (plainStrs _) ⟨rfl, rfl, rfl⟩
end Go.Proofs.YtpffclpheldabaaGreatDoor
/- names: the reader of tags, walked. Conditions: none. -/
set_option linter.unusedVariables false
set_option linter.unusedSimpArgs false
set_option maxRecDepth 20000
namespace Go.Proofs.YtpffclpheldabaaGreatDoor
open Go.Sx Go.Our
theorem lang1_does (s : List UInt8) (hs : Sm s) : Does Tryz.prog tab 168 0 [.str s] [] [] (Val (.bool (madeM s 2 8 true))) := by
  refine Does.enter tabOK (g := 168) (fn := Tryz.f168) Tryz.call168 Tryz.func168 rfl 5 rfl rfl [.tmp 2] rfl ?_
  intro w0 F η0 h0
  conv => whnf
  repeat' ((first | with_reducible refine IF.tt ?_ | with_reducible refine IF.ff ?_ | refine CALL.value (made_does _ _ _ _ hs) rfl rfl ?_ | ((with_reducible refine NEED.mk ?_ ?_); (first | with_reducible rfl | omega | (simp (disch := omega) only [lnB, wrap64, wrap32] <;> omega) | (intro h; (try simp (disch := omega) only [hsB, hsC, lnB, wrap64, wrap32, simprocAttr] at h); (first | omega | (simp (disch := omega) only [lnB, wrap64, wrap32] <;> omega))) | (exact needApp 256 rfl rfl (by simp) (by simp) (by omega)) | (simp <;> omega))) | ((with_reducible apply GET.at); rfl) | ((with_reducible apply GETG.at); rfl) | ((with_reducible refine IF.mk (fun h => ?_) (fun h => ?_)) <;> (try simp (disch := omega) only [hsB, hsC, lnB, wrap64, wrap32, simprocAttr] at h) <;> try (exfalso; omega))) <;> conv => whnf)
  exact FIN.value h0 rfl rfl
theorem lang2_does (s : List UInt8) (hs : Sm s) : Does Tryz.prog tab 170 0 [.str s] [] [] (Val (.bool (madeM s 3 3 true))) := by
  refine Does.enter tabOK (g := 170) (fn := Tryz.f170) Tryz.call170 Tryz.func170 rfl 5 rfl rfl [.tmp 2] rfl ?_
  intro w0 F η0 h0
  conv => whnf
  repeat' ((first | with_reducible refine IF.tt ?_ | with_reducible refine IF.ff ?_ | refine CALL.value (made_does _ _ _ _ hs) rfl rfl ?_ | ((with_reducible refine NEED.mk ?_ ?_); (first | with_reducible rfl | omega | (simp (disch := omega) only [lnB, wrap64, wrap32] <;> omega) | (intro h; (try simp (disch := omega) only [hsB, hsC, lnB, wrap64, wrap32, simprocAttr] at h); (first | omega | (simp (disch := omega) only [lnB, wrap64, wrap32] <;> omega))) | (exact needApp 256 rfl rfl (by simp) (by simp) (by omega)) | (simp <;> omega))) | ((with_reducible apply GET.at); rfl) | ((with_reducible apply GETG.at); rfl) | ((with_reducible refine IF.mk (fun h => ?_) (fun h => ?_)) <;> (try simp (disch := omega) only [hsB, hsC, lnB, wrap64, wrap32, simprocAttr] at h) <;> try (exfalso; omega))) <;> conv => whnf)
  exact FIN.value h0 rfl rfl
theorem rest1_does (s : List UInt8) (hs : Sm s) : Does Tryz.prog tab 171 0 [.str s] [] [] (Val (.bool (madeM s 4 4 true))) := by
  refine Does.enter tabOK (g := 171) (fn := Tryz.f171) Tryz.call171 Tryz.func171 rfl 5 rfl rfl [.tmp 2] rfl ?_
  intro w0 F η0 h0
  conv => whnf
  repeat' ((first | with_reducible refine IF.tt ?_ | with_reducible refine IF.ff ?_ | refine CALL.value (made_does _ _ _ _ hs) rfl rfl ?_ | ((with_reducible refine NEED.mk ?_ ?_); (first | with_reducible rfl | omega | (simp (disch := omega) only [lnB, wrap64, wrap32] <;> omega) | (intro h; (try simp (disch := omega) only [hsB, hsC, lnB, wrap64, wrap32, simprocAttr] at h); (first | omega | (simp (disch := omega) only [lnB, wrap64, wrap32] <;> omega))) | (exact needApp 256 rfl rfl (by simp) (by simp) (by omega)) | (simp <;> omega))) | ((with_reducible apply GET.at); rfl) | ((with_reducible apply GETG.at); rfl) | ((with_reducible refine IF.mk (fun h => ?_) (fun h => ?_)) <;> (try simp (disch := omega) only [hsB, hsC, lnB, wrap64, wrap32, simprocAttr] at h) <;> try (exfalso; omega))) <;> conv => whnf)
  exact FIN.value h0 rfl rfl
theorem rest2_does (s : List UInt8) (hs : Sm s) : Does Tryz.prog tab 175 0 [.str s] [] [] (Val (.bool (singleM s))) := by
  refine Does.enter tabOK (g := 175) (fn := Tryz.f175) Tryz.call175 Tryz.func175 rfl 10 rfl rfl [.tmp 2] rfl ?_
  intro w0 F η0 h0
  conv => whnf
  repeat' ((first | with_reducible refine IF.tt ?_ | with_reducible refine IF.ff ?_ | refine CALL.value (made_does _ _ _ _ hs) rfl rfl ?_ | refine CALL.value (private_does _) rfl rfl ?_ | ((with_reducible refine NEED.mk ?_ ?_); (first | with_reducible rfl | omega | (simp (disch := omega) only [lnB, wrap64, wrap32] <;> omega) | (intro h; (try simp (disch := omega) only [hsB, hsC, lnB, wrap64, wrap32, simprocAttr] at h); (first | omega | (simp (disch := omega) only [lnB, wrap64, wrap32] <;> omega))) | (exact needApp 256 rfl rfl (by simp) (by simp) (by omega)) | (simp <;> omega))) | ((with_reducible apply GET.at); rfl) | ((with_reducible apply GETG.at); rfl) | ((with_reducible refine IF.mk (fun h => ?_) (fun h => ?_)) <;> (try simp (disch := omega) only [hsB, hsC, lnB, wrap64, wrap32, simprocAttr] at h) <;> try (exfalso; omega))) <;> conv => whnf)
  all_goals
    refine FIN.value h0 rfl (congrArg SV.bool ?_)
    unfold singleM
    simp_all
theorem tail1_does (s : List UInt8) (least : Int) (hs : Sm s) : Does Tryz.prog tab 176 1 [.str s, .ptr (.loc 0) 0 0 0] [] [(0, .box [.int .i64 least])] (ValK 1 (.bool (madeM s least 8 false))) := by
  refine Does.enter tabOK (g := 176) (fn := Tryz.f176) Tryz.call176 Tryz.func176 rfl 7 rfl rfl [.tmp 3] rfl ?_
  intro w0 F η0 h0
  conv => whnf
  repeat' ((first | with_reducible refine IF.tt ?_ | with_reducible refine IF.ff ?_ | refine CALL.value (made_does _ _ _ _ hs) rfl rfl ?_ | ((with_reducible refine NEED.mk ?_ ?_); (first | with_reducible rfl | omega | (simp (disch := omega) only [lnB, wrap64, wrap32] <;> omega) | (intro h; (try simp (disch := omega) only [hsB, hsC, lnB, wrap64, wrap32, simprocAttr] at h); (first | omega | (simp (disch := omega) only [lnB, wrap64, wrap32] <;> omega))) | (exact needApp 256 rfl rfl (by simp) (by simp) (by omega)) | (simp <;> omega))) | ((with_reducible apply GET.at); rfl) | ((with_reducible apply GETG.at); rfl) | ((with_reducible refine IF.mk (fun h => ?_) (fun h => ?_)) <;> (try simp (disch := omega) only [hsB, hsC, lnB, wrap64, wrap32, simprocAttr] at h) <;> try (exfalso; omega))) <;> conv => whnf)
  exact FIN.valueK h0 rfl rfl
/-- The reader: where it stands among the parts, and what it has of the tag. -/
def rdBox (i m : Nat) (L E S R : List UInt8) (v x : Nat) (P : List UInt8) : Hp := .box [.sl (.loc 1) i 1 m none, .str L, .str E, .str S, .str R, .sl (.loc 2) 0 1 v none, .sl (.loc 3) 0 1 x none, .str P]
/-- The same, with nothing said of the variants and extensions. -/
def rdBoxA (i m : Nat) (L E S R : List UInt8) (v x : Nat) (P : List UInt8) : Hp := .box [.sl (.loc 1) i 1 m none, .str L, .str E, .str S, .str R, .any, .any, .str P]
/-- The same, where these have other names. -/
def rdBoxC (i m : Nat) (L E S R : List UInt8) (v x : Nat) (P : List UInt8) : Hp := .box [.sl (.loc 1) i 1 m none, .str L, .str E, .str S, .str R, .sl (.loc 4) 0 1 v none, .sl (.loc 5) 0 1 x none, .str P]
/-- Does the next part say what p says? -/
def seesM (p : List UInt8 → Bool) (ps : List (List UInt8)) (i : Nat) : Bool := match ps[i]? with | some s => p s | none => false
theorem sum_le {ps : List (List UInt8)} {i : Nat} {p : List UInt8} (h : ps[i]? = some p) : ((ps.take (i + 1)).map List.length).sum = ((ps.take i).map List.length).sum + p.length := by
  obtain ⟨h1, rfl⟩ := List.getElem?_eq_some_iff.1 h
  rw [List.take_succ_eq_append_getElem h1, List.map_append, List.sum_append]; simp
/-- All the bytes of the parts. -/
abbrev bulkM (ps : List (List UInt8)) : Nat := (ps.map List.length).sum
theorem bulk_take (ps : List (List UInt8)) (i : Nat) : ((ps.take i).map List.length).sum ≤ bulkM ps := by
  conv => rhs; unfold bulkM; rw [← List.take_append_drop i ps]
  rw [List.map_append, List.sum_append]; omega
theorem sees_does (g : Nat) (p : List UInt8 → Bool) (ps : List (List UInt8)) (hp : ∀ s ∈ ps, Does Tryz.prog tab g 0 [.str s] [] [] (Val (.bool (p s)))) (i m : Nat) (him : i + m = ps.length) (L E S R : List UInt8) (v x : Nat) (P : List UInt8) :
    Does Tryz.prog tab 124 4 [.ptr (.loc 0) 0 0 0, .fn (.func g) [] []] [] [(0, rdBox i m L E S R v x P), (1, .rows 1 (ps.map strRow))] (ValK 4 (.bool (seesM p ps i))) := by
  refine Does.enter tabOK (g := 124) (fn := Tryz.f124) Tryz.call124 Tryz.func124 rfl 21 rfl rfl [.tmp 4] rfl ?_
  intro w0 F η0 h0
  conv => whnf
  repeat' ((first | with_reducible refine IF.tt ?_ | with_reducible refine IF.ff ?_ | (refine GET.at (row := strRow (ps[i]'(by omega))) (by rw [List.getElem?_map, show i + (0 : Int).toNat = i by simp, List.getElem?_eq_getElem (by omega)]; rfl) ?_; conv => whnf) | refine CALL.value (hp _ (List.getElem_mem (by omega))) rfl rfl ?_ | ((with_reducible refine NEED.mk ?_ ?_); (first | with_reducible rfl | omega | (simp (disch := omega) only [lnB, wrap64, wrap32] <;> omega) | (intro h; (try simp (disch := omega) only [hsB, hsC, lnB, wrap64, wrap32, simprocAttr] at h); (first | omega | (simp (disch := omega) only [lnB, wrap64, wrap32] <;> omega))) | (exact needApp 256 rfl rfl (by simp) (by simp) (by omega)) | (simp <;> omega))) | ((with_reducible apply GET.at); rfl) | ((with_reducible apply GETG.at); rfl) | ((with_reducible refine IF.mk (fun h => ?_) (fun h => ?_)) <;> (try simp (disch := omega) only [hsB, hsC, lnB, wrap64, wrap32, simprocAttr] at h) <;> try (exfalso; omega))) <;> conv => whnf)
  · refine FIN.valueK h0 rfl (congrArg SV.bool ?_)
    unfold seesM; rw [List.getElem?_eq_getElem (by omega)]; rfl
  · refine FIN.valueK h0 rfl (congrArg SV.bool ?_)
    unfold seesM; rw [List.getElem?_eq_none (by omega)]
/-- As sees_does, for the function that asks for so many bytes. -/
theorem seesTail_does (least : Int) (ps : List (List UInt8)) (hp : ∀ s ∈ ps, Sm s) (i m : Nat) (him : i + m = ps.length) (L E S R : List UInt8) (v x : Nat) (P : List UInt8) :
    Does Tryz.prog tab 124 5 [.ptr (.loc 0) 0 0 0, .fn (.func 176) [] [.ptr (.loc 4) 0 0 0]] [] [(0, rdBox i m L E S R v x P), (1, .rows 1 (ps.map strRow)), (4, .box [.int .i64 least])] (ValK 5 (.bool (seesM (fun s => madeM s least 8 false) ps i))) := by
  refine Does.enter tabOK (g := 124) (fn := Tryz.f124) Tryz.call124 Tryz.func124 rfl 21 rfl rfl [.tmp 4] rfl ?_
  intro w0 F η0 h0
  conv => whnf
  repeat' ((first | with_reducible refine IF.tt ?_ | with_reducible refine IF.ff ?_ | (refine GET.at (row := strRow (ps[i]'(by omega))) (by rw [List.getElem?_map, show i + (0 : Int).toNat = i by simp, List.getElem?_eq_getElem (by omega)]; rfl) ?_; conv => whnf) | (refine CALL.looks [4] (tail1_does (ps[i]'(by omega)) least (hp _ (List.getElem_mem (by omega)))) rfl rfl rfl rfl ⟨⟨rfl, rfl, rfl⟩, trivial⟩ ?_; conv => whnf) | ((with_reducible refine NEED.mk ?_ ?_); (first | with_reducible rfl | omega | (simp (disch := omega) only [lnB, wrap64, wrap32] <;> omega) | (intro h; (try simp (disch := omega) only [hsB, hsC, lnB, wrap64, wrap32, simprocAttr] at h); (first | omega | (simp (disch := omega) only [lnB, wrap64, wrap32] <;> omega))) | (exact needApp 256 rfl rfl (by simp) (by simp) (by omega)) | (simp <;> omega))) | ((with_reducible apply GET.at); rfl) | ((with_reducible apply GETG.at); rfl) | ((with_reducible refine IF.mk (fun h => ?_) (fun h => ?_)) <;> (try simp (disch := omega) only [hsB, hsC, lnB, wrap64, wrap32, simprocAttr] at h) <;> try (exfalso; omega))) <;> conv => whnf)
  · refine FIN.valueK h0 rfl (congrArg SV.bool ?_)
    unfold seesM; rw [List.getElem?_eq_getElem (by omega)]; rfl
  · refine FIN.valueK h0 rfl (congrArg SV.bool ?_)
    unfold seesM; rw [List.getElem?_eq_none (by omega)]
theorem next_tag_does (ps : List (List UInt8)) (i m : Nat) (him : i + (m + 1) = ps.length) (p : List UInt8) (hp : ps[i]? = some p) (L E S R : List UInt8) (v x : Nat) (P : List UInt8) :
    Does Tryz.prog tab 128 4 [.ptr (.loc 0) 0 0 0] [(0, rdBox i (m + 1) L E S R v x P)] [(1, .rows 1 (ps.map strRow))] (fun r O nx => r = .str p ∧ O = [(0, rdBox (i + 1) m L E S R v x P)] ∧ nx = 4) := by
  refine Does.enter tabOK (g := 128) (fn := Tryz.f128) Tryz.call128 Tryz.func128 rfl 19 rfl rfl [.tmp 2] rfl ?_
  intro w0 F η0 h0
  conv => whnf
  repeat' ((first | with_reducible refine IF.tt ?_ | with_reducible refine IF.ff ?_ | (refine GET.at (row := strRow p) (by rw [List.getElem?_map, show i + (0 : Int).toNat = i by simp, hp]; rfl) ?_; conv => whnf) | ((with_reducible refine NEED.mk ?_ ?_); (first | with_reducible rfl | omega | (simp (disch := omega) only [lnB, wrap64, wrap32] <;> omega) | (intro h; (try simp (disch := omega) only [hsB, hsC, lnB, wrap64, wrap32, simprocAttr] at h); (first | omega | (simp (disch := omega) only [lnB, wrap64, wrap32] <;> omega))) | (exact needApp 256 rfl rfl (by simp) (by simp) (by omega)) | (simp <;> omega))) | ((with_reducible apply GET.at); rfl) | ((with_reducible apply GETG.at); rfl) | ((with_reducible refine IF.mk (fun h => ?_) (fun h => ?_)) <;> (try simp (disch := omega) only [hsB, hsC, lnB, wrap64, wrap32, simprocAttr] at h) <;> try (exfalso; omega))) <;> conv => whnf)
  exact FIN.here h0 (Oc := [(0, rdBox (i + 1) m L E S R v x P)]) rfl rfl rfl ⟨rfl, trivial⟩ ⟨rfl, rfl, rfl⟩
theorem tail_does (least : Int) (ps : List (List UInt8)) (hb : bulkM ps + ps.length ≤ 1152921504606846976) (i m : Nat) (him : i + m = ps.length) (L E S R : List UInt8) (v x : Nat) (P : List UInt8) :
    Does Tryz.prog tab 129 4 [.ptr (.loc 0) 0 0 0, .int .i64 least] [(0, rdBox i m L E S R v x P)] [(1, .rows 1 (ps.map strRow))]
      (fun r O nx => ∃ (n : Nat) (s : List UInt8), n = spanM (fun s => madeM s least 8 false) (ps.drop i) ∧ s.length ≤ bulkM ps + ps.length ∧ r = .tup [.str s, .bool (decide (n ≠ 0))] ∧ O = [(0, rdBox (i + n) (m - n) L E S R v x P)] ∧ nx = 4) := by
  have hsm : ∀ s ∈ ps, Sm s := by
    intro s hs
    obtain ⟨j, hj, rfl⟩ := List.getElem_of_mem hs
    have h1 := sum_le (List.getElem?_eq_getElem hj)
    have h2 := bulk_take ps (j + 1)
    omega
  refine Does.enter tabOK (g := 129) (fn := Tryz.f129) Tryz.call129 Tryz.func129 rfl 18 rfl rfl [.tmp 4, .tmp 5] rfl ?_
  intro w0 F η0 h0
  conv => whnf
  refine LOOP.go tabOK [0, 3] (X := Nat × List UInt8) (fun y => y.1 ≤ m ∧ y.2.length ≤ ((ps.take (i + y.1)).map List.length).sum + (i + y.1) ∧ (y.1 = 0 ↔ y.2 = []) ∧ spanM (fun s => madeM s least 8 false) (ps.drop i) = y.1 + spanM (fun s => madeM s least 8 false) (ps.drop (i + y.1))) (fun y => [(6, .str y.2)]) (fun y => [(0, rdBox (i + y.1) (m - y.1) L E S R v x P), (4, .box [.int .i64 least])]) 5 (fun y => m - y.1) (0, []) ⟨by simp, by simp, by simp, by simp⟩ ?_
  conv => whnf
  refine ⟨by (refine GOES.cutting h0 rfl rfl rfl (by first | rfl | simp [belowO, belowH, plainLL_below, plainLL_map, plainL, plain]) ?_ ?_ <;> (repeat' (first | (with_reducible rfl) | (exact congrArg (fun n => SV.sl _ _ _ n _) (by simp)) | (exact congrArg (Hp.rows _) (by simp)) | (exact congrArg (SV.int _) (by first | omega | (simp (disch := omega) only [lnB, wrap64, wrap32] <;> omega) | (simp; done) | (simp <;> omega))) | ((conv => whnf); refine ⟨?_, ?_⟩) | exact trivial | (simp; done) | rfl))), ?_⟩
  rintro ⟨n, s⟩ ⟨hn, hl, h0s, hspan⟩
  dsimp only at hn hl h0s hspan ⊢
  conv => whnf
  refine CALL.here (seesTail_does least ps hsm (i + n) (m - n) (by omega) L E S R v x P) rfl rfl (by first | rfl | (simp only [belowO, belowH, plainLL_below _ (plainStrs _), Bool.and_self, Bool.and_true] <;> rfl)) (by first | rfl | (simp only [belowO, belowH, plainLL_below _ (plainStrs _), Bool.and_self, Bool.and_true] <;> rfl)) (by repeat' (first | exact trivial | exact rfl | ((conv => whnf); refine ⟨?_, ?_⟩))) (by repeat' (first | exact trivial | exact rfl | ((conv => whnf); refine ⟨?_, ?_⟩))) rfl ?_ ?_
  · rintro r O' nx' ⟨rfl, rfl, rfl⟩; exact ⟨rfl, rfl, rfl⟩
  rintro r O' ⟨rfl, rfl, _⟩
  conv => whnf
  refine ⟨fun h => ?_, fun h => ?_⟩
  · obtain ⟨p, hp, hpm⟩ : ∃ p, ps[i + n]? = some p ∧ madeM p least 8 false = true := by
      unfold seesM at h
      cases hp : ps[i + n]? with
      | none => rw [hp] at h; cases h
      | some p => rw [hp] at h; exact ⟨p, rfl, h⟩
    have hlt := (List.getElem?_eq_some_iff.1 hp).1
    have hs1 := sum_le hp
    have hs2 := bulk_take ps (i + n + 1)
    obtain ⟨k, hk⟩ : ∃ k, m - n = k + 1 := ⟨m - n - 1, by omega⟩
    rw [hk]
    conv => whnf
    refine CALL.here (next_tag_does ps (i + n) k (by omega) p hp L E S R v x P) rfl rfl (by first | rfl | (simp only [belowO, belowH, plainLL_below _ (plainStrs _), Bool.and_self, Bool.and_true] <;> rfl)) (by first | rfl | (simp only [belowO, belowH, plainLL_below _ (plainStrs _), Bool.and_self, Bool.and_true] <;> rfl)) (by repeat' (first | exact trivial | exact rfl | ((conv => whnf); refine ⟨?_, ?_⟩))) (by repeat' (first | exact trivial | exact rfl | ((conv => whnf); refine ⟨?_, ?_⟩))) rfl ?_ ?_
    · rintro r O' nx' ⟨rfl, rfl, rfl⟩; exact ⟨rfl, rfl, rfl⟩
    rintro r O' ⟨rfl, rfl, _⟩
    conv => whnf
    repeat' ((first | with_reducible refine IF.tt ?_ | with_reducible refine IF.ff ?_ | ((with_reducible refine NEED.mk ?_ ?_); (first | with_reducible rfl | omega | (simp (disch := omega) only [lnB, wrap64, wrap32] <;> omega) | (intro h; (try simp (disch := omega) only [hsB, hsC, lnB, wrap64, wrap32, simprocAttr] at h); (first | omega | (simp (disch := omega) only [lnB, wrap64, wrap32] <;> omega))) | (exact needApp 256 rfl rfl (by simp) (by simp) (by omega)) | (simp <;> omega))) | ((with_reducible apply GET.at); rfl) | ((with_reducible apply GETG.at); rfl) | ((with_reducible refine IF.mk (fun h => ?_) (fun h => ?_)) <;> (try simp (disch := omega) only [hsB, hsC, lnB, wrap64, wrap32, simprocAttr] at h) <;> try (exfalso; omega))) <;> conv => whnf)
    have hsp : spanM (fun s => madeM s least 8 false) (ps.drop (i + n)) = spanM (fun s => madeM s least 8 false) (ps.drop (i + (n + 1))) + 1 := by
      rw [List.drop_eq_getElem_cons hlt]
      have : ps[i + n] = p := by
        have := List.getElem?_eq_getElem hlt
        rw [hp] at this; injection this with this; exact this.symm
      rw [this]
      simp only [spanM, hpm, if_true]
      rfl
    refine ⟨(n + 1, s ++ ([45] ++ p)), ⟨by simp only; omega, ?_, by simp, by simp only; omega⟩, by simp only; omega, ?_⟩
    · simp only [List.length_append, List.length_cons, List.length_nil]
      rw [show i + (n + 1) = i + n + 1 by omega, hs1]; omega
    · dsimp only
      rw [show i + (n + 1) = i + n + 1 by omega, show m - (n + 1) = k by omega]
      conv => whnf
      (refine GOES.cutting h0 rfl rfl rfl (by first | rfl | simp [belowO, belowH, plainLL_below, plainLL_map, plainL, plain]) ?_ ?_ <;> (repeat' (first | (with_reducible rfl) | (exact congrArg (fun n => SV.sl _ _ _ n _) (by simp)) | (exact congrArg (Hp.rows _) (by simp)) | (exact congrArg (SV.int _) (by first | omega | (simp (disch := omega) only [lnB, wrap64, wrap32] <;> omega) | (simp; done) | (simp <;> omega))) | ((conv => whnf); refine ⟨?_, ?_⟩) | exact trivial | (simp; done) | rfl)))
  · have hsp : spanM (fun s => madeM s least 8 false) (ps.drop (i + n)) = 0 := by
      unfold seesM at h
      cases hp : ps[i + n]? with
      | none => rw [List.drop_eq_nil_of_le (by simpa using hp)]; rfl
      | some p =>
        rw [hp] at h
        have hlt := (List.getElem?_eq_some_iff.1 hp).1
        rw [List.drop_eq_getElem_cons hlt]
        have : ps[i + n] = p := by
          have := List.getElem?_eq_getElem hlt
          rw [hp] at this; injection this with this; exact this.symm
        rw [this]
        simp only [spanM]
        simp only at h
        simp [h]
    have hs2 := bulk_take ps (i + n)
    conv => whnf
    repeat' ((first | with_reducible refine IF.tt ?_ | with_reducible refine IF.ff ?_ | ((with_reducible refine NEED.mk ?_ ?_); (first | with_reducible rfl | omega | (simp (disch := omega) only [lnB, wrap64, wrap32] <;> omega) | (intro h; (try simp (disch := omega) only [hsB, hsC, lnB, wrap64, wrap32, simprocAttr] at h); (first | omega | (simp (disch := omega) only [lnB, wrap64, wrap32] <;> omega))) | (exact needApp 256 rfl rfl (by simp) (by simp) (by omega)) | (simp <;> omega))) | ((with_reducible apply GET.at); rfl) | ((with_reducible apply GETG.at); rfl) | ((with_reducible refine IF.mk (fun h => ?_) (fun h => ?_)) <;> (try simp (disch := omega) only [hsB, hsC, lnB, wrap64, wrap32, simprocAttr] at h) <;> try (exfalso; omega))) <;> conv => whnf)
    refine FIN.here h0 (rc := .tup [.str s, .bool (decide (n ≠ 0))]) (Oc := [(0, rdBox (i + n) (m - n) L E S R v x P)]) ?_ rfl rfl ⟨rfl, trivial⟩ ⟨n, s, by omega, by omega, rfl, rfl, rfl⟩
    show SV.tup [SV.str s, SV.bool (s != [])] = SV.tup [SV.str s, SV.bool (decide (n ≠ 0))]
    have : (s != []) = decide (n ≠ 0) := by rw [Bool.eq_iff_iff]; simp [h0s]
    rw [this]
theorem sees_doesA (g : Nat) (p : List UInt8 → Bool) (ps : List (List UInt8)) (hp : ∀ s ∈ ps, Does Tryz.prog tab g 0 [.str s] [] [] (Val (.bool (p s)))) (i m : Nat) (him : i + m = ps.length) (L E S R : List UInt8) (v x : Nat) (P : List UInt8) :
    Does Tryz.prog tab 124 4 [.ptr (.loc 0) 0 0 0, .fn (.func g) [] []] [] [(0, rdBoxA i m L E S R v x P), (1, .rows 1 (ps.map strRow))] (ValK 4 (.bool (seesM p ps i))) := by
  refine Does.enter tabOK (g := 124) (fn := Tryz.f124) Tryz.call124 Tryz.func124 rfl 21 rfl rfl [.tmp 4] rfl ?_
  intro w0 F η0 h0
  conv => whnf
  repeat' ((first | with_reducible refine IF.tt ?_ | with_reducible refine IF.ff ?_ | (refine GET.at (row := strRow (ps[i]'(by omega))) (by rw [List.getElem?_map, show i + (0 : Int).toNat = i by simp, List.getElem?_eq_getElem (by omega)]; rfl) ?_; conv => whnf) | refine CALL.value (hp _ (List.getElem_mem (by omega))) rfl rfl ?_ | ((with_reducible refine NEED.mk ?_ ?_); (first | with_reducible rfl | omega | (simp (disch := omega) only [lnB, wrap64, wrap32] <;> omega) | (intro h; (try simp (disch := omega) only [hsB, hsC, lnB, wrap64, wrap32, simprocAttr] at h); (first | omega | (simp (disch := omega) only [lnB, wrap64, wrap32] <;> omega))) | (exact needApp 256 rfl rfl (by simp) (by simp) (by omega)) | (simp <;> omega))) | ((with_reducible apply GET.at); rfl) | ((with_reducible apply GETG.at); rfl) | ((with_reducible refine IF.mk (fun h => ?_) (fun h => ?_)) <;> (try simp (disch := omega) only [hsB, hsC, lnB, wrap64, wrap32, simprocAttr] at h) <;> try (exfalso; omega))) <;> conv => whnf)
  · refine FIN.valueK h0 rfl (congrArg SV.bool ?_)
    unfold seesM; rw [List.getElem?_eq_getElem (by omega)]; rfl
  · refine FIN.valueK h0 rfl (congrArg SV.bool ?_)
    unfold seesM; rw [List.getElem?_eq_none (by omega)]
/-- As sees_doesA, for the function that asks for so many bytes. -/
theorem seesTail_doesA (least : Int) (ps : List (List UInt8)) (hp : ∀ s ∈ ps, Sm s) (i m : Nat) (him : i + m = ps.length) (L E S R : List UInt8) (v x : Nat) (P : List UInt8) :
    Does Tryz.prog tab 124 5 [.ptr (.loc 0) 0 0 0, .fn (.func 176) [] [.ptr (.loc 4) 0 0 0]] [] [(0, rdBoxA i m L E S R v x P), (1, .rows 1 (ps.map strRow)), (4, .box [.int .i64 least])] (ValK 5 (.bool (seesM (fun s => madeM s least 8 false) ps i))) := by
  refine Does.enter tabOK (g := 124) (fn := Tryz.f124) Tryz.call124 Tryz.func124 rfl 21 rfl rfl [.tmp 4] rfl ?_
  intro w0 F η0 h0
  conv => whnf
  repeat' ((first | with_reducible refine IF.tt ?_ | with_reducible refine IF.ff ?_ | (refine GET.at (row := strRow (ps[i]'(by omega))) (by rw [List.getElem?_map, show i + (0 : Int).toNat = i by simp, List.getElem?_eq_getElem (by omega)]; rfl) ?_; conv => whnf) | (refine CALL.looks [4] (tail1_does (ps[i]'(by omega)) least (hp _ (List.getElem_mem (by omega)))) rfl rfl rfl rfl ⟨⟨rfl, rfl, rfl⟩, trivial⟩ ?_; conv => whnf) | ((with_reducible refine NEED.mk ?_ ?_); (first | with_reducible rfl | omega | (simp (disch := omega) only [lnB, wrap64, wrap32] <;> omega) | (intro h; (try simp (disch := omega) only [hsB, hsC, lnB, wrap64, wrap32, simprocAttr] at h); (first | omega | (simp (disch := omega) only [lnB, wrap64, wrap32] <;> omega))) | (exact needApp 256 rfl rfl (by simp) (by simp) (by omega)) | (simp <;> omega))) | ((with_reducible apply GET.at); rfl) | ((with_reducible apply GETG.at); rfl) | ((with_reducible refine IF.mk (fun h => ?_) (fun h => ?_)) <;> (try simp (disch := omega) only [hsB, hsC, lnB, wrap64, wrap32, simprocAttr] at h) <;> try (exfalso; omega))) <;> conv => whnf)
  · refine FIN.valueK h0 rfl (congrArg SV.bool ?_)
    unfold seesM; rw [List.getElem?_eq_getElem (by omega)]; rfl
  · refine FIN.valueK h0 rfl (congrArg SV.bool ?_)
    unfold seesM; rw [List.getElem?_eq_none (by omega)]
theorem next_tag_doesA (ps : List (List UInt8)) (i m : Nat) (him : i + (m + 1) = ps.length) (p : List UInt8) (hp : ps[i]? = some p) (L E S R : List UInt8) (v x : Nat) (P : List UInt8) :
    Does Tryz.prog tab 128 4 [.ptr (.loc 0) 0 0 0] [(0, rdBoxA i (m + 1) L E S R v x P)] [(1, .rows 1 (ps.map strRow))] (fun r O nx => r = .str p ∧ O = [(0, rdBoxA (i + 1) m L E S R v x P)] ∧ nx = 4) := by
  refine Does.enter tabOK (g := 128) (fn := Tryz.f128) Tryz.call128 Tryz.func128 rfl 19 rfl rfl [.tmp 2] rfl ?_
  intro w0 F η0 h0
  conv => whnf
  repeat' ((first | with_reducible refine IF.tt ?_ | with_reducible refine IF.ff ?_ | (refine GET.at (row := strRow p) (by rw [List.getElem?_map, show i + (0 : Int).toNat = i by simp, hp]; rfl) ?_; conv => whnf) | ((with_reducible refine NEED.mk ?_ ?_); (first | with_reducible rfl | omega | (simp (disch := omega) only [lnB, wrap64, wrap32] <;> omega) | (intro h; (try simp (disch := omega) only [hsB, hsC, lnB, wrap64, wrap32, simprocAttr] at h); (first | omega | (simp (disch := omega) only [lnB, wrap64, wrap32] <;> omega))) | (exact needApp 256 rfl rfl (by simp) (by simp) (by omega)) | (simp <;> omega))) | ((with_reducible apply GET.at); rfl) | ((with_reducible apply GETG.at); rfl) | ((with_reducible refine IF.mk (fun h => ?_) (fun h => ?_)) <;> (try simp (disch := omega) only [hsB, hsC, lnB, wrap64, wrap32, simprocAttr] at h) <;> try (exfalso; omega))) <;> conv => whnf)
  exact FIN.here h0 (Oc := [(0, rdBoxA (i + 1) m L E S R v x P)]) rfl rfl rfl ⟨rfl, trivial⟩ ⟨rfl, rfl, rfl⟩
theorem tail_doesA (least : Int) (ps : List (List UInt8)) (hb : bulkM ps + ps.length ≤ 1152921504606846976) (i m : Nat) (him : i + m = ps.length) (L E S R : List UInt8) (v x : Nat) (P : List UInt8) :
    Does Tryz.prog tab 129 4 [.ptr (.loc 0) 0 0 0, .int .i64 least] [(0, rdBoxA i m L E S R v x P)] [(1, .rows 1 (ps.map strRow))]
      (fun r O nx => ∃ (n : Nat) (s : List UInt8), n = spanM (fun s => madeM s least 8 false) (ps.drop i) ∧ s.length ≤ bulkM ps + ps.length ∧ r = .tup [.str s, .bool (decide (n ≠ 0))] ∧ O = [(0, rdBoxA (i + n) (m - n) L E S R v x P)] ∧ nx = 4) := by
  have hsm : ∀ s ∈ ps, Sm s := by
    intro s hs
    obtain ⟨j, hj, rfl⟩ := List.getElem_of_mem hs
    have h1 := sum_le (List.getElem?_eq_getElem hj)
    have h2 := bulk_take ps (j + 1)
    omega
  refine Does.enter tabOK (g := 129) (fn := Tryz.f129) Tryz.call129 Tryz.func129 rfl 18 rfl rfl [.tmp 4, .tmp 5] rfl ?_
  intro w0 F η0 h0
  conv => whnf
  refine LOOP.go tabOK [0, 3] (X := Nat × List UInt8) (fun y => y.1 ≤ m ∧ y.2.length ≤ ((ps.take (i + y.1)).map List.length).sum + (i + y.1) ∧ (y.1 = 0 ↔ y.2 = []) ∧ spanM (fun s => madeM s least 8 false) (ps.drop i) = y.1 + spanM (fun s => madeM s least 8 false) (ps.drop (i + y.1))) (fun y => [(6, .str y.2)]) (fun y => [(0, rdBoxA (i + y.1) (m - y.1) L E S R v x P), (4, .box [.int .i64 least])]) 5 (fun y => m - y.1) (0, []) ⟨by simp, by simp, by simp, by simp⟩ ?_
  conv => whnf
  refine ⟨by (refine GOES.cutting h0 rfl rfl rfl (by first | rfl | simp [belowO, belowH, plainLL_below, plainLL_map, plainL, plain]) ?_ ?_ <;> (repeat' (first | (with_reducible rfl) | (exact congrArg (fun n => SV.sl _ _ _ n _) (by simp)) | (exact congrArg (Hp.rows _) (by simp)) | (exact congrArg (SV.int _) (by first | omega | (simp (disch := omega) only [lnB, wrap64, wrap32] <;> omega) | (simp; done) | (simp <;> omega))) | ((conv => whnf); refine ⟨?_, ?_⟩) | exact trivial | (simp; done) | rfl))), ?_⟩
  rintro ⟨n, s⟩ ⟨hn, hl, h0s, hspan⟩
  dsimp only at hn hl h0s hspan ⊢
  conv => whnf
  refine CALL.here (seesTail_doesA least ps hsm (i + n) (m - n) (by omega) L E S R v x P) rfl rfl (by first | rfl | (simp only [belowO, belowH, plainLL_below _ (plainStrs _), Bool.and_self, Bool.and_true] <;> rfl)) (by first | rfl | (simp only [belowO, belowH, plainLL_below _ (plainStrs _), Bool.and_self, Bool.and_true] <;> rfl)) (by repeat' (first | exact trivial | exact rfl | ((conv => whnf); refine ⟨?_, ?_⟩))) (by repeat' (first | exact trivial | exact rfl | ((conv => whnf); refine ⟨?_, ?_⟩))) rfl ?_ ?_
  · rintro r O' nx' ⟨rfl, rfl, rfl⟩; exact ⟨rfl, rfl, rfl⟩
  rintro r O' ⟨rfl, rfl, _⟩
  conv => whnf
  refine ⟨fun h => ?_, fun h => ?_⟩
  · obtain ⟨p, hp, hpm⟩ : ∃ p, ps[i + n]? = some p ∧ madeM p least 8 false = true := by
      unfold seesM at h
      cases hp : ps[i + n]? with
      | none => rw [hp] at h; cases h
      | some p => rw [hp] at h; exact ⟨p, rfl, h⟩
    have hlt := (List.getElem?_eq_some_iff.1 hp).1
    have hs1 := sum_le hp
    have hs2 := bulk_take ps (i + n + 1)
    obtain ⟨k, hk⟩ : ∃ k, m - n = k + 1 := ⟨m - n - 1, by omega⟩
    rw [hk]
    conv => whnf
    refine CALL.here (next_tag_doesA ps (i + n) k (by omega) p hp L E S R v x P) rfl rfl (by first | rfl | (simp only [belowO, belowH, plainLL_below _ (plainStrs _), Bool.and_self, Bool.and_true] <;> rfl)) (by first | rfl | (simp only [belowO, belowH, plainLL_below _ (plainStrs _), Bool.and_self, Bool.and_true] <;> rfl)) (by repeat' (first | exact trivial | exact rfl | ((conv => whnf); refine ⟨?_, ?_⟩))) (by repeat' (first | exact trivial | exact rfl | ((conv => whnf); refine ⟨?_, ?_⟩))) rfl ?_ ?_
    · rintro r O' nx' ⟨rfl, rfl, rfl⟩; exact ⟨rfl, rfl, rfl⟩
    rintro r O' ⟨rfl, rfl, _⟩
    conv => whnf
    repeat' ((first | with_reducible refine IF.tt ?_ | with_reducible refine IF.ff ?_ | ((with_reducible refine NEED.mk ?_ ?_); (first | with_reducible rfl | omega | (simp (disch := omega) only [lnB, wrap64, wrap32] <;> omega) | (intro h; (try simp (disch := omega) only [hsB, hsC, lnB, wrap64, wrap32, simprocAttr] at h); (first | omega | (simp (disch := omega) only [lnB, wrap64, wrap32] <;> omega))) | (exact needApp 256 rfl rfl (by simp) (by simp) (by omega)) | (simp <;> omega))) | ((with_reducible apply GET.at); rfl) | ((with_reducible apply GETG.at); rfl) | ((with_reducible refine IF.mk (fun h => ?_) (fun h => ?_)) <;> (try simp (disch := omega) only [hsB, hsC, lnB, wrap64, wrap32, simprocAttr] at h) <;> try (exfalso; omega))) <;> conv => whnf)
    have hsp : spanM (fun s => madeM s least 8 false) (ps.drop (i + n)) = spanM (fun s => madeM s least 8 false) (ps.drop (i + (n + 1))) + 1 := by
      rw [List.drop_eq_getElem_cons hlt]
      have : ps[i + n] = p := by
        have := List.getElem?_eq_getElem hlt
        rw [hp] at this; injection this with this; exact this.symm
      rw [this]
      simp only [spanM, hpm, if_true]
      rfl
    refine ⟨(n + 1, s ++ ([45] ++ p)), ⟨by simp only; omega, ?_, by simp, by simp only; omega⟩, by simp only; omega, ?_⟩
    · simp only [List.length_append, List.length_cons, List.length_nil]
      rw [show i + (n + 1) = i + n + 1 by omega, hs1]; omega
    · dsimp only
      rw [show i + (n + 1) = i + n + 1 by omega, show m - (n + 1) = k by omega]
      conv => whnf
      (refine GOES.cutting h0 rfl rfl rfl (by first | rfl | simp [belowO, belowH, plainLL_below, plainLL_map, plainL, plain]) ?_ ?_ <;> (repeat' (first | (with_reducible rfl) | (exact congrArg (fun n => SV.sl _ _ _ n _) (by simp)) | (exact congrArg (Hp.rows _) (by simp)) | (exact congrArg (SV.int _) (by first | omega | (simp (disch := omega) only [lnB, wrap64, wrap32] <;> omega) | (simp; done) | (simp <;> omega))) | ((conv => whnf); refine ⟨?_, ?_⟩) | exact trivial | (simp; done) | rfl)))
  · have hsp : spanM (fun s => madeM s least 8 false) (ps.drop (i + n)) = 0 := by
      unfold seesM at h
      cases hp : ps[i + n]? with
      | none => rw [List.drop_eq_nil_of_le (by simpa using hp)]; rfl
      | some p =>
        rw [hp] at h
        have hlt := (List.getElem?_eq_some_iff.1 hp).1
        rw [List.drop_eq_getElem_cons hlt]
        have : ps[i + n] = p := by
          have := List.getElem?_eq_getElem hlt
          rw [hp] at this; injection this with this; exact this.symm
        rw [this]
        simp only [spanM]
        simp only at h
        simp [h]
    have hs2 := bulk_take ps (i + n)
    conv => whnf
    repeat' ((first | with_reducible refine IF.tt ?_ | with_reducible refine IF.ff ?_ | ((with_reducible refine NEED.mk ?_ ?_); (first | with_reducible rfl | omega | (simp (disch := omega) only [lnB, wrap64, wrap32] <;> omega) | (intro h; (try simp (disch := omega) only [hsB, hsC, lnB, wrap64, wrap32, simprocAttr] at h); (first | omega | (simp (disch := omega) only [lnB, wrap64, wrap32] <;> omega))) | (exact needApp 256 rfl rfl (by simp) (by simp) (by omega)) | (simp <;> omega))) | ((with_reducible apply GET.at); rfl) | ((with_reducible apply GETG.at); rfl) | ((with_reducible refine IF.mk (fun h => ?_) (fun h => ?_)) <;> (try simp (disch := omega) only [hsB, hsC, lnB, wrap64, wrap32, simprocAttr] at h) <;> try (exfalso; omega))) <;> conv => whnf)
    refine FIN.here h0 (rc := .tup [.str s, .bool (decide (n ≠ 0))]) (Oc := [(0, rdBoxA (i + n) (m - n) L E S R v x P)]) ?_ rfl rfl ⟨rfl, trivial⟩ ⟨n, s, by omega, by omega, rfl, rfl, rfl⟩
    show SV.tup [SV.str s, SV.bool (s != [])] = SV.tup [SV.str s, SV.bool (decide (n ≠ 0))]
    have : (s != []) = decide (n ≠ 0) := by rw [Bool.eq_iff_iff]; simp [h0s]
    rw [this]
theorem sees_doesC (g : Nat) (p : List UInt8 → Bool) (ps : List (List UInt8)) (hp : ∀ s ∈ ps, Does Tryz.prog tab g 0 [.str s] [] [] (Val (.bool (p s)))) (i m : Nat) (him : i + m = ps.length) (L E S R : List UInt8) (v x : Nat) (P : List UInt8) :
    Does Tryz.prog tab 124 7 [.ptr (.loc 0) 0 0 0, .fn (.func g) [] []] [] [(0, rdBoxC i m L E S R v x P), (1, .rows 1 (ps.map strRow))] (ValK 7 (.bool (seesM p ps i))) := by
  refine Does.enter tabOK (g := 124) (fn := Tryz.f124) Tryz.call124 Tryz.func124 rfl 21 rfl rfl [.tmp 4] rfl ?_
  intro w0 F η0 h0
  conv => whnf
  repeat' ((first | with_reducible refine IF.tt ?_ | with_reducible refine IF.ff ?_ | (refine GET.at (row := strRow (ps[i]'(by omega))) (by rw [List.getElem?_map, show i + (0 : Int).toNat = i by simp, List.getElem?_eq_getElem (by omega)]; rfl) ?_; conv => whnf) | refine CALL.value (hp _ (List.getElem_mem (by omega))) rfl rfl ?_ | ((with_reducible refine NEED.mk ?_ ?_); (first | with_reducible rfl | omega | (simp (disch := omega) only [lnB, wrap64, wrap32] <;> omega) | (intro h; (try simp (disch := omega) only [hsB, hsC, lnB, wrap64, wrap32, simprocAttr] at h); (first | omega | (simp (disch := omega) only [lnB, wrap64, wrap32] <;> omega))) | (exact needApp 256 rfl rfl (by simp) (by simp) (by omega)) | (simp <;> omega))) | ((with_reducible apply GET.at); rfl) | ((with_reducible apply GETG.at); rfl) | ((with_reducible refine IF.mk (fun h => ?_) (fun h => ?_)) <;> (try simp (disch := omega) only [hsB, hsC, lnB, wrap64, wrap32, simprocAttr] at h) <;> try (exfalso; omega))) <;> conv => whnf)
  · refine FIN.valueK h0 rfl (congrArg SV.bool ?_)
    unfold seesM; rw [List.getElem?_eq_getElem (by omega)]; rfl
  · refine FIN.valueK h0 rfl (congrArg SV.bool ?_)
    unfold seesM; rw [List.getElem?_eq_none (by omega)]
/-- As sees_doesC, for the function that asks for so many bytes. -/
theorem seesTail_doesC (least : Int) (ps : List (List UInt8)) (hp : ∀ s ∈ ps, Sm s) (i m : Nat) (him : i + m = ps.length) (L E S R : List UInt8) (v x : Nat) (P : List UInt8) :
    Does Tryz.prog tab 124 8 [.ptr (.loc 0) 0 0 0, .fn (.func 176) [] [.ptr (.loc 7) 0 0 0]] [] [(0, rdBoxC i m L E S R v x P), (1, .rows 1 (ps.map strRow)), (7, .box [.int .i64 least])] (ValK 8 (.bool (seesM (fun s => madeM s least 8 false) ps i))) := by
  refine Does.enter tabOK (g := 124) (fn := Tryz.f124) Tryz.call124 Tryz.func124 rfl 21 rfl rfl [.tmp 4] rfl ?_
  intro w0 F η0 h0
  conv => whnf
  repeat' ((first | with_reducible refine IF.tt ?_ | with_reducible refine IF.ff ?_ | (refine GET.at (row := strRow (ps[i]'(by omega))) (by rw [List.getElem?_map, show i + (0 : Int).toNat = i by simp, List.getElem?_eq_getElem (by omega)]; rfl) ?_; conv => whnf) | (refine CALL.looks [7] (tail1_does (ps[i]'(by omega)) least (hp _ (List.getElem_mem (by omega)))) rfl rfl rfl rfl ⟨⟨rfl, rfl, rfl⟩, trivial⟩ ?_; conv => whnf) | ((with_reducible refine NEED.mk ?_ ?_); (first | with_reducible rfl | omega | (simp (disch := omega) only [lnB, wrap64, wrap32] <;> omega) | (intro h; (try simp (disch := omega) only [hsB, hsC, lnB, wrap64, wrap32, simprocAttr] at h); (first | omega | (simp (disch := omega) only [lnB, wrap64, wrap32] <;> omega))) | (exact needApp 256 rfl rfl (by simp) (by simp) (by omega)) | (simp <;> omega))) | ((with_reducible apply GET.at); rfl) | ((with_reducible apply GETG.at); rfl) | ((with_reducible refine IF.mk (fun h => ?_) (fun h => ?_)) <;> (try simp (disch := omega) only [hsB, hsC, lnB, wrap64, wrap32, simprocAttr] at h) <;> try (exfalso; omega))) <;> conv => whnf)
  · refine FIN.valueK h0 rfl (congrArg SV.bool ?_)
    unfold seesM; rw [List.getElem?_eq_getElem (by omega)]; rfl
  · refine FIN.valueK h0 rfl (congrArg SV.bool ?_)
    unfold seesM; rw [List.getElem?_eq_none (by omega)]
theorem next_tag_doesC (ps : List (List UInt8)) (i m : Nat) (him : i + (m + 1) = ps.length) (p : List UInt8) (hp : ps[i]? = some p) (L E S R : List UInt8) (v x : Nat) (P : List UInt8) :
    Does Tryz.prog tab 128 7 [.ptr (.loc 0) 0 0 0] [(0, rdBoxC i (m + 1) L E S R v x P)] [(1, .rows 1 (ps.map strRow))] (fun r O nx => r = .str p ∧ O = [(0, rdBoxC (i + 1) m L E S R v x P)] ∧ nx = 7) := by
  refine Does.enter tabOK (g := 128) (fn := Tryz.f128) Tryz.call128 Tryz.func128 rfl 19 rfl rfl [.tmp 2] rfl ?_
  intro w0 F η0 h0
  conv => whnf
  repeat' ((first | with_reducible refine IF.tt ?_ | with_reducible refine IF.ff ?_ | (refine GET.at (row := strRow p) (by rw [List.getElem?_map, show i + (0 : Int).toNat = i by simp, hp]; rfl) ?_; conv => whnf) | ((with_reducible refine NEED.mk ?_ ?_); (first | with_reducible rfl | omega | (simp (disch := omega) only [lnB, wrap64, wrap32] <;> omega) | (intro h; (try simp (disch := omega) only [hsB, hsC, lnB, wrap64, wrap32, simprocAttr] at h); (first | omega | (simp (disch := omega) only [lnB, wrap64, wrap32] <;> omega))) | (exact needApp 256 rfl rfl (by simp) (by simp) (by omega)) | (simp <;> omega))) | ((with_reducible apply GET.at); rfl) | ((with_reducible apply GETG.at); rfl) | ((with_reducible refine IF.mk (fun h => ?_) (fun h => ?_)) <;> (try simp (disch := omega) only [hsB, hsC, lnB, wrap64, wrap32, simprocAttr] at h) <;> try (exfalso; omega))) <;> conv => whnf)
  exact FIN.here h0 (Oc := [(0, rdBoxC (i + 1) m L E S R v x P)]) rfl rfl rfl ⟨rfl, trivial⟩ ⟨rfl, rfl, rfl⟩
theorem tail_doesC (least : Int) (ps : List (List UInt8)) (hb : bulkM ps + ps.length ≤ 1152921504606846976) (i m : Nat) (him : i + m = ps.length) (L E S R : List UInt8) (v x : Nat) (P : List UInt8) :
    Does Tryz.prog tab 129 7 [.ptr (.loc 0) 0 0 0, .int .i64 least] [(0, rdBoxC i m L E S R v x P)] [(1, .rows 1 (ps.map strRow))]
      (fun r O nx => ∃ (n : Nat) (s : List UInt8), n = spanM (fun s => madeM s least 8 false) (ps.drop i) ∧ s.length ≤ bulkM ps + ps.length ∧ r = .tup [.str s, .bool (decide (n ≠ 0))] ∧ O = [(0, rdBoxC (i + n) (m - n) L E S R v x P)] ∧ nx = 7) := by
  have hsm : ∀ s ∈ ps, Sm s := by
    intro s hs
    obtain ⟨j, hj, rfl⟩ := List.getElem_of_mem hs
    have h1 := sum_le (List.getElem?_eq_getElem hj)
    have h2 := bulk_take ps (j + 1)
    omega
  refine Does.enter tabOK (g := 129) (fn := Tryz.f129) Tryz.call129 Tryz.func129 rfl 18 rfl rfl [.tmp 4, .tmp 5] rfl ?_
  intro w0 F η0 h0
  conv => whnf
  refine LOOP.go tabOK [0, 3] (X := Nat × List UInt8) (fun y => y.1 ≤ m ∧ y.2.length ≤ ((ps.take (i + y.1)).map List.length).sum + (i + y.1) ∧ (y.1 = 0 ↔ y.2 = []) ∧ spanM (fun s => madeM s least 8 false) (ps.drop i) = y.1 + spanM (fun s => madeM s least 8 false) (ps.drop (i + y.1))) (fun y => [(6, .str y.2)]) (fun y => [(0, rdBoxC (i + y.1) (m - y.1) L E S R v x P), (7, .box [.int .i64 least])]) 8 (fun y => m - y.1) (0, []) ⟨by simp, by simp, by simp, by simp⟩ ?_
  conv => whnf
  refine ⟨by (refine GOES.cutting h0 rfl rfl rfl (by first | rfl | simp [belowO, belowH, plainLL_below, plainLL_map, plainL, plain]) ?_ ?_ <;> (repeat' (first | (with_reducible rfl) | (exact congrArg (fun n => SV.sl _ _ _ n _) (by simp)) | (exact congrArg (Hp.rows _) (by simp)) | (exact congrArg (SV.int _) (by first | omega | (simp (disch := omega) only [lnB, wrap64, wrap32] <;> omega) | (simp; done) | (simp <;> omega))) | ((conv => whnf); refine ⟨?_, ?_⟩) | exact trivial | (simp; done) | rfl))), ?_⟩
  rintro ⟨n, s⟩ ⟨hn, hl, h0s, hspan⟩
  dsimp only at hn hl h0s hspan ⊢
  conv => whnf
  refine CALL.here (seesTail_doesC least ps hsm (i + n) (m - n) (by omega) L E S R v x P) rfl rfl (by first | rfl | (simp only [belowO, belowH, plainLL_below _ (plainStrs _), Bool.and_self, Bool.and_true] <;> rfl)) (by first | rfl | (simp only [belowO, belowH, plainLL_below _ (plainStrs _), Bool.and_self, Bool.and_true] <;> rfl)) (by repeat' (first | exact trivial | exact rfl | ((conv => whnf); refine ⟨?_, ?_⟩))) (by repeat' (first | exact trivial | exact rfl | ((conv => whnf); refine ⟨?_, ?_⟩))) rfl ?_ ?_
  · rintro r O' nx' ⟨rfl, rfl, rfl⟩; exact ⟨rfl, rfl, rfl⟩
  rintro r O' ⟨rfl, rfl, _⟩
  conv => whnf
  refine ⟨fun h => ?_, fun h => ?_⟩
  · obtain ⟨p, hp, hpm⟩ : ∃ p, ps[i + n]? = some p ∧ madeM p least 8 false = true := by
      unfold seesM at h
      cases hp : ps[i + n]? with
      | none => rw [hp] at h; cases h
      | some p => rw [hp] at h; exact ⟨p, rfl, h⟩
    have hlt := (List.getElem?_eq_some_iff.1 hp).1
    have hs1 := sum_le hp
    have hs2 := bulk_take ps (i + n + 1)
    obtain ⟨k, hk⟩ : ∃ k, m - n = k + 1 := ⟨m - n - 1, by omega⟩
    rw [hk]
    conv => whnf
    refine CALL.here (next_tag_doesC ps (i + n) k (by omega) p hp L E S R v x P) rfl rfl (by first | rfl | (simp only [belowO, belowH, plainLL_below _ (plainStrs _), Bool.and_self, Bool.and_true] <;> rfl)) (by first | rfl | (simp only [belowO, belowH, plainLL_below _ (plainStrs _), Bool.and_self, Bool.and_true] <;> rfl)) (by repeat' (first | exact trivial | exact rfl | ((conv => whnf); refine ⟨?_, ?_⟩))) (by repeat' (first | exact trivial | exact rfl | ((conv => whnf); refine ⟨?_, ?_⟩))) rfl ?_ ?_
    · rintro r O' nx' ⟨rfl, rfl, rfl⟩; exact ⟨rfl, rfl, rfl⟩
    rintro r O' ⟨rfl, rfl, _⟩
    conv => whnf
    repeat' ((first | with_reducible refine IF.tt ?_ | with_reducible refine IF.ff ?_ | ((with_reducible refine NEED.mk ?_ ?_); (first | with_reducible rfl | omega | (simp (disch := omega) only [lnB, wrap64, wrap32] <;> omega) | (intro h; (try simp (disch := omega) only [hsB, hsC, lnB, wrap64, wrap32, simprocAttr] at h); (first | omega | (simp (disch := omega) only [lnB, wrap64, wrap32] <;> omega))) | (exact needApp 256 rfl rfl (by simp) (by simp) (by omega)) | (simp <;> omega))) | ((with_reducible apply GET.at); rfl) | ((with_reducible apply GETG.at); rfl) | ((with_reducible refine IF.mk (fun h => ?_) (fun h => ?_)) <;> (try simp (disch := omega) only [hsB, hsC, lnB, wrap64, wrap32, simprocAttr] at h) <;> try (exfalso; omega))) <;> conv => whnf)
    have hsp : spanM (fun s => madeM s least 8 false) (ps.drop (i + n)) = spanM (fun s => madeM s least 8 false) (ps.drop (i + (n + 1))) + 1 := by
      rw [List.drop_eq_getElem_cons hlt]
      have : ps[i + n] = p := by
        have := List.getElem?_eq_getElem hlt
        rw [hp] at this; injection this with this; exact this.symm
      rw [this]
      simp only [spanM, hpm, if_true]
      rfl
    refine ⟨(n + 1, s ++ ([45] ++ p)), ⟨by simp only; omega, ?_, by simp, by simp only; omega⟩, by simp only; omega, ?_⟩
    · simp only [List.length_append, List.length_cons, List.length_nil]
      rw [show i + (n + 1) = i + n + 1 by omega, hs1]; omega
    · dsimp only
      rw [show i + (n + 1) = i + n + 1 by omega, show m - (n + 1) = k by omega]
      conv => whnf
      (refine GOES.cutting h0 rfl rfl rfl (by first | rfl | simp [belowO, belowH, plainLL_below, plainLL_map, plainL, plain]) ?_ ?_ <;> (repeat' (first | (with_reducible rfl) | (exact congrArg (fun n => SV.sl _ _ _ n _) (by simp)) | (exact congrArg (Hp.rows _) (by simp)) | (exact congrArg (SV.int _) (by first | omega | (simp (disch := omega) only [lnB, wrap64, wrap32] <;> omega) | (simp; done) | (simp <;> omega))) | ((conv => whnf); refine ⟨?_, ?_⟩) | exact trivial | (simp; done) | rfl)))
  · have hsp : spanM (fun s => madeM s least 8 false) (ps.drop (i + n)) = 0 := by
      unfold seesM at h
      cases hp : ps[i + n]? with
      | none => rw [List.drop_eq_nil_of_le (by simpa using hp)]; rfl
      | some p =>
        rw [hp] at h
        have hlt := (List.getElem?_eq_some_iff.1 hp).1
        rw [List.drop_eq_getElem_cons hlt]
        have : ps[i + n] = p := by
          have := List.getElem?_eq_getElem hlt
          rw [hp] at this; injection this with this; exact this.symm
        rw [this]
        simp only [spanM]
        simp only at h
        simp [h]
    have hs2 := bulk_take ps (i + n)
    conv => whnf
    repeat' ((first | with_reducible refine IF.tt ?_ | with_reducible refine IF.ff ?_ | ((with_reducible refine NEED.mk ?_ ?_); (first | with_reducible rfl | omega | (simp (disch := omega) only [lnB, wrap64, wrap32] <;> omega) | (intro h; (try simp (disch := omega) only [hsB, hsC, lnB, wrap64, wrap32, simprocAttr] at h); (first | omega | (simp (disch := omega) only [lnB, wrap64, wrap32] <;> omega))) | (exact needApp 256 rfl rfl (by simp) (by simp) (by omega)) | (simp <;> omega))) | ((with_reducible apply GET.at); rfl) | ((with_reducible apply GETG.at); rfl) | ((with_reducible refine IF.mk (fun h => ?_) (fun h => ?_)) <;> (try simp (disch := omega) only [hsB, hsC, lnB, wrap64, wrap32, simprocAttr] at h) <;> try (exfalso; omega))) <;> conv => whnf)
    refine FIN.here h0 (rc := .tup [.str s, .bool (decide (n ≠ 0))]) (Oc := [(0, rdBoxC (i + n) (m - n) L E S R v x P)]) ?_ rfl rfl ⟨rfl, trivial⟩ ⟨n, s, by omega, by omega, rfl, rfl, rfl⟩
    show SV.tup [SV.str s, SV.bool (s != [])] = SV.tup [SV.str s, SV.bool (decide (n ≠ 0))]
    have : (s != []) = decide (n ≠ 0) := by rw [Bool.eq_iff_iff]; simp [h0s]
    rw [this]
end Go.Proofs.YtpffclpheldabaaGreatDoor
/- names: the reader of tags: language and rest, walked. Conditions: none. -/
set_option linter.unusedVariables false
set_option linter.unusedSimpArgs false
set_option maxRecDepth 20000
namespace Go.Proofs.YtpffclpheldabaaGreatDoor
open Go.Sx Go.Our
def plTag20 : Plan := (.take 0 1 (.take 1 1 (.take 2 1 (.take 3 1 (.take 5 1 (.fork 4 3 6 0 (planOf [(6, 0), (7, 1), (8, 1), (9, 1), (10, 1), (11, 0)]) (planOf [(4, 2), (7, 1), (8, 1), (9, 1), (10, 1), (11, 0)])))))))
theorem bulk_sm {ps : List (List UInt8)} (hb : bulkM ps + ps.length ≤ 1152921504606846976) : ∀ s ∈ ps, Sm s := by
  intro s hs
  obtain ⟨j, hj, rfl⟩ := List.getElem_of_mem hs
  have h1 := sum_le (List.getElem?_eq_getElem hj)
  have h2 := bulk_take ps (j + 1)
  omega
theorem sees_yes {p : List UInt8 → Bool} {ps : List (List UInt8)} {i : Nat} (h : seesM p ps i = true) : ∃ s, ps[i]? = some s ∧ p s = true := by
  unfold seesM at h
  cases hp : ps[i]? with
  | none => rw [hp] at h; cases h
  | some s => rw [hp] at h; exact ⟨s, rfl, h⟩
theorem drop_at {ps : List (List UInt8)} {i : Nat} {s : List UInt8} (h : ps[i]? = some s) : ps.drop i = s :: ps.drop (i + 1) := by
  obtain ⟨h1, rfl⟩ := List.getElem?_eq_some_iff.1 h
  exact List.drop_eq_getElem_cons h1
theorem sees_no {p : List UInt8 → Bool} {ps : List (List UInt8)} {i : Nat} (h : seesM p ps i = false) : ps.drop i = [] ∨ ∃ s, ps[i]? = some s ∧ ps.drop i = s :: ps.drop (i + 1) ∧ p s = false := by
  unfold seesM at h
  cases hp : ps[i]? with
  | none => exact .inl (List.drop_eq_nil_of_le (by simpa using hp))
  | some s => rw [hp] at h; exact .inr ⟨s, rfl, drop_at hp, h⟩
theorem ext_no {n : Nat} {ps : List (List UInt8)} {i : Nat} (h : seesM (fun s => madeM s 3 3 true) ps i = false) : extP n (ps.drop i) = ps.drop i := by
  rcases sees_no h with h | ⟨s, _, h1, h2⟩
  · rw [h]; cases n <;> rfl
  · rw [h1]; cases n with
    | zero => rfl
    | succ n => simp only [extP]; simp [h2]
theorem made_len {s : List UInt8} {a b : Int} {pure : Bool} (h : madeM s a b pure = true) : a ≤ s.length ∧ (s.length : Int) ≤ b := by
  unfold madeM at h; simp at h; omega
theorem language_does (ps : List (List UInt8)) (hb : bulkM ps + ps.length ≤ 1152921504606846976) (i m : Nat) (him : i + m = ps.length) (S R : List UInt8) (v x : Nat) (P : List UInt8) :
    Does Tryz.prog tab 126 4 [.ptr (.loc 0) 0 0 0] [(0, rdBox i m [] [] S R v x P)] [(1, .rows 1 (ps.map strRow))]
      (fun r O nx => ∃ (i' m' : Nat) (L E : List UInt8), i' + m' = ps.length ∧ r = .bool (langP (ps.drop i)).isSome ∧ (∀ l, langP (ps.drop i) = some l → l = ps.drop i') ∧ O = [(0, rdBox i' m' L E S R v x P)] ∧ nx = 4) := by
  have hsm := bulk_sm hb
  refine Does.enter tabOK (g := 126) (fn := Tryz.f126) Tryz.call126 Tryz.func126 rfl 50 rfl rfl [.tmp 2] rfl ?_
  intro w0 F η0 h0
  conv => whnf
  refine CALL.here (sees_does 168 _ ps (fun s hs => lang1_does s (hsm s hs)) i m him [] [] S R v x P) rfl rfl (by first | rfl | (simp only [belowO, belowH, plainLL_below _ (plainStrs _), Bool.and_self, Bool.and_true] <;> rfl)) (by first | rfl | (simp only [belowO, belowH, plainLL_below _ (plainStrs _), Bool.and_self, Bool.and_true] <;> rfl)) (by repeat' (first | exact trivial | exact rfl | ((conv => whnf); refine ⟨?_, ?_⟩))) (by repeat' (first | exact trivial | exact rfl | ((conv => whnf); refine ⟨?_, ?_⟩))) rfl ?_ ?_
  · rintro r O' nx' ⟨rfl, rfl, rfl⟩; exact ⟨rfl, rfl, rfl⟩
  rintro r O' ⟨rfl, rfl, _⟩
  conv => whnf
  refine IF.mk (fun h => ?_) (fun h => ?_)
  · conv => whnf
    have h : seesM (fun s => madeM s 2 8 true) ps i = false := by simpa using h
    have hn : langP (ps.drop i) = none := by
      rcases sees_no h with h | ⟨s, _, h1, h2⟩
      · rw [h]; rfl
      · rw [h1]; simp only [langP]; simp [h2]
    exact FIN.here h0 (Oc := [(0, rdBox i m [] [] S R v x P)]) rfl rfl rfl ⟨rfl, trivial⟩ ⟨i, m, [], [], him, by rw [hn]; rfl, by simp [hn], rfl, rfl⟩
  have h : seesM (fun s => madeM s 2 8 true) ps i = true := by simpa using h
  obtain ⟨p, hp, hpm⟩ := sees_yes h
  have hlt := (List.getElem?_eq_some_iff.1 hp).1
  have hd := drop_at hp
  obtain ⟨k, rfl⟩ : ∃ k, m = k + 1 := ⟨m - 1, by omega⟩
  have hlen := made_len hpm
  conv => whnf
  refine CALL.here (next_tag_does ps i k him p hp [] [] S R v x P) rfl rfl (by first | rfl | (simp only [belowO, belowH, plainLL_below _ (plainStrs _), Bool.and_self, Bool.and_true] <;> rfl)) (by first | rfl | (simp only [belowO, belowH, plainLL_below _ (plainStrs _), Bool.and_self, Bool.and_true] <;> rfl)) (by repeat' (first | exact trivial | exact rfl | ((conv => whnf); refine ⟨?_, ?_⟩))) (by repeat' (first | exact trivial | exact rfl | ((conv => whnf); refine ⟨?_, ?_⟩))) rfl ?_ ?_
  · rintro r O' nx' ⟨rfl, rfl, rfl⟩; exact ⟨rfl, rfl, rfl⟩
  rintro r O' ⟨rfl, rfl, _⟩
  conv => whnf
  refine IF.mk (fun h => ?_) (fun h => ?_)
  · conv => whnf
    have h : 3 < p.length := by simp at h; omega
    exact FIN.here h0 (Oc := [(0, rdBox (i + 1) k p [] S R v x P)]) rfl rfl rfl ⟨rfl, trivial⟩ ⟨i + 1, k, p, [], by omega, by rw [hd]; simp only [langP]; simp [hpm, h], by rw [hd]; simp only [langP]; simp [hpm, h], rfl, rfl⟩
  have h : ¬ 3 < p.length := by simp at h; omega
  have hL : langP (ps.drop i) = some (extP 3 (ps.drop (i + 1))) := by rw [hd]; simp only [langP]; rw [if_pos hpm, if_neg h]
  conv => whnf
  refine LOOP.go tabOK [0] (X := Nat × List UInt8 × Nat) (fun y => y.1 ≤ 3 ∧ y.2.1.length ≤ 4 * y.1 ∧ y.2.2 + (ps.length - y.2.2) = ps.length ∧ extP 3 (ps.drop (i + 1)) = extP (3 - y.1) (ps.drop y.2.2)) (fun y => [(3, .int .i64 (y.1 : Int))]) (fun y => [(0, rdBox y.2.2 (ps.length - y.2.2) p y.2.1 S R v x P)]) 4 (fun y => 3 - y.1) (0, [], i + 1) ⟨by simp, by simp, by simp only; omega, rfl⟩ ?_
  conv => whnf
  rw [show ps.length - (i + 1) = k by omega]
  refine ⟨by (refine GOES.cutting h0 rfl rfl rfl (by first | rfl | simp [belowO, belowH, plainLL_below, plainLL_map, plainL, plain]) ?_ ?_ <;> (repeat' (first | (with_reducible rfl) | (exact congrArg (fun n => SV.sl _ _ _ n _) (by simp)) | (exact congrArg (Hp.rows _) (by simp)) | (exact congrArg (SV.int _) (by first | omega | (simp (disch := omega) only [lnB, wrap64, wrap32] <;> omega) | (simp; done) | (simp <;> omega))) | ((conv => whnf); refine ⟨?_, ?_⟩) | exact trivial | (simp; done) | rfl))), ?_⟩
  rintro ⟨c, E, a⟩ ⟨hc, hE, ha, hx⟩
  dsimp only at hc hE ha hx ⊢
  conv => whnf
  have fin : seesM (fun s => madeM s 3 3 true) ps a = false ∨ c = 3 → extP 3 (ps.drop (i + 1)) = ps.drop a := by
    rintro (h | h)
    · rw [hx, ext_no h]
    · subst h; rw [hx]; rfl
  refine IF.mk (fun h => ?_) (fun h => ?_)
  · have h : c < 3 := by simp at h; omega
    conv => whnf
    repeat' ((first | with_reducible refine IF.tt ?_ | with_reducible refine IF.ff ?_ | ((with_reducible refine NEED.mk ?_ ?_); (first | with_reducible rfl | omega | (simp (disch := omega) only [lnB, wrap64, wrap32] <;> omega) | (intro h; (try simp (disch := omega) only [hsB, hsC, lnB, wrap64, wrap32, simprocAttr] at h); (first | omega | (simp (disch := omega) only [lnB, wrap64, wrap32] <;> omega))) | (exact needApp 256 rfl rfl (by simp) (by simp) (by omega)) | (simp <;> omega))) | ((with_reducible apply GET.at); rfl) | ((with_reducible apply GETG.at); rfl) | ((with_reducible refine IF.mk (fun h => ?_) (fun h => ?_)) <;> (try simp (disch := omega) only [hsB, hsC, lnB, wrap64, wrap32, simprocAttr] at h) <;> try (exfalso; omega))) <;> conv => whnf)
    refine CALL.here (sees_does 170 _ ps (fun s hs => lang2_does s (hsm s hs)) a (ps.length - a) ha p E S R v x P) rfl rfl (by first | rfl | (simp only [belowO, belowH, plainLL_below _ (plainStrs _), Bool.and_self, Bool.and_true] <;> rfl)) (by first | rfl | (simp only [belowO, belowH, plainLL_below _ (plainStrs _), Bool.and_self, Bool.and_true] <;> rfl)) (by repeat' (first | exact trivial | exact rfl | ((conv => whnf); refine ⟨?_, ?_⟩))) (by repeat' (first | exact trivial | exact rfl | ((conv => whnf); refine ⟨?_, ?_⟩))) rfl ?_ ?_
    · rintro r O' nx' ⟨rfl, rfl, rfl⟩; exact ⟨rfl, rfl, rfl⟩
    rintro r O' ⟨rfl, rfl, _⟩
    conv => whnf
    repeat' ((first | with_reducible refine IF.tt ?_ | with_reducible refine IF.ff ?_ | ((with_reducible refine NEED.mk ?_ ?_); (first | with_reducible rfl | omega | (simp (disch := omega) only [lnB, wrap64, wrap32] <;> omega) | (intro h; (try simp (disch := omega) only [hsB, hsC, lnB, wrap64, wrap32, simprocAttr] at h); (first | omega | (simp (disch := omega) only [lnB, wrap64, wrap32] <;> omega))) | (exact needApp 256 rfl rfl (by simp) (by simp) (by omega)) | (simp <;> omega))) | ((with_reducible apply GET.at); rfl) | ((with_reducible apply GETG.at); rfl) | ((with_reducible refine IF.mk (fun h => ?_) (fun h => ?_)) <;> (try simp (disch := omega) only [hsB, hsC, lnB, wrap64, wrap32, simprocAttr] at h) <;> try (exfalso; omega))) <;> conv => whnf)
    · obtain ⟨q, hq, hqm⟩ := sees_yes (by assumption)
      have hql := made_len hqm
      obtain ⟨k', hk'⟩ : ∃ k', ps.length - a = k' + 1 := ⟨ps.length - a - 1, by have := (List.getElem?_eq_some_iff.1 hq).1; omega⟩
      rw [hk']
      repeat' ((first | with_reducible refine IF.tt ?_ | with_reducible refine IF.ff ?_ | refine DRAWN.of (id := 11) tabOK mixed plTag20 (by kernel_rfl) ?_ | with_reducible refine ADD.mk (fun _ _ => ?_) | with_reducible refine NEED.mk (Det.of rfl) ?_ | with_reducible refine FORK.mk ?_ ?_ | ((with_reducible refine NEED.mk ?_ ?_); (first | with_reducible rfl | omega | (simp (disch := omega) only [lnB, wrap64, wrap32] <;> omega) | (intro h; (try simp (disch := omega) only [hsB, hsC, lnB, wrap64, wrap32, simprocAttr] at h); (first | omega | (simp (disch := omega) only [lnB, wrap64, wrap32] <;> omega))) | (exact needApp 256 rfl rfl (by simp) (by simp) (by omega)) | (simp <;> omega))) | ((with_reducible apply GET.at); rfl) | ((with_reducible apply GETG.at); rfl) | ((with_reducible refine IF.mk (fun h => ?_) (fun h => ?_)) <;> (try simp (disch := omega) only [hsB, hsC, lnB, wrap64, wrap32, simprocAttr] at h) <;> try (exfalso; omega))) <;> conv => whnf)
      all_goals
        refine CALL.here (next_tag_does ps a k' (by omega) q hq p (E ++ [45]) S R v x P) rfl rfl (by first | rfl | (simp only [belowO, belowH, plainLL_below _ (plainStrs _), Bool.and_self, Bool.and_true] <;> rfl)) (by first | rfl | (simp only [belowO, belowH, plainLL_below _ (plainStrs _), Bool.and_self, Bool.and_true] <;> rfl)) (by repeat' (first | exact trivial | exact rfl | ((conv => whnf); refine ⟨?_, ?_⟩))) (by repeat' (first | exact trivial | exact rfl | ((conv => whnf); refine ⟨?_, ?_⟩))) rfl ?_ ?_
        · rintro r O' nx' ⟨rfl, rfl, rfl⟩; exact ⟨rfl, rfl, rfl⟩
        rintro r O' ⟨rfl, rfl, _⟩
        conv => whnf
        repeat' ((first | with_reducible refine IF.tt ?_ | with_reducible refine IF.ff ?_ | refine DRAWN.of (id := 11) tabOK mixed plTag20 (by kernel_rfl) ?_ | with_reducible refine ADD.mk (fun _ _ => ?_) | with_reducible refine NEED.mk (Det.of rfl) ?_ | with_reducible refine FORK.mk ?_ ?_ | ((with_reducible refine NEED.mk ?_ ?_); (first | with_reducible rfl | omega | (simp (disch := omega) only [lnB, wrap64, wrap32] <;> omega) | (intro h; (try simp (disch := omega) only [hsB, hsC, lnB, wrap64, wrap32, simprocAttr] at h); (first | omega | (simp (disch := omega) only [lnB, wrap64, wrap32] <;> omega))) | (exact needApp 256 rfl rfl (by simp) (by simp) (by omega)) | (simp <;> omega))) | ((with_reducible apply GET.at); rfl) | ((with_reducible apply GETG.at); rfl) | ((with_reducible refine IF.mk (fun h => ?_) (fun h => ?_)) <;> (try simp (disch := omega) only [hsB, hsC, lnB, wrap64, wrap32, simprocAttr] at h) <;> try (exfalso; omega))) <;> conv => whnf)
        refine ⟨(c + 1, (E ++ [45]) ++ q, a + 1), ⟨by simp only; omega, by simp only [List.length_append, List.length_cons, List.length_nil]; omega, by simp only; omega, ?_⟩, by simp only; omega, ?_⟩
        · rw [hx, drop_at hq, show 3 - c = (3 - (c + 1)) + 1 by omega]; simp only [extP]; rw [if_pos hqm]
        · dsimp only
          rw [show ps.length - (a + 1) = k' by omega]
          conv => whnf
          (refine GOES.cutting h0 rfl rfl rfl (by first | rfl | simp [belowO, belowH, plainLL_below, plainLL_map, plainL, plain]) ?_ ?_ <;> (repeat' (first | (with_reducible rfl) | (exact congrArg (fun n => SV.sl _ _ _ n _) (by simp)) | (exact congrArg (Hp.rows _) (by simp)) | (exact congrArg (SV.int _) (by first | omega | (simp (disch := omega) only [lnB, wrap64, wrap32] <;> omega) | (simp; done) | (simp <;> omega))) | ((conv => whnf); refine ⟨?_, ?_⟩) | exact trivial | (simp; done) | rfl)))
    · obtain ⟨q, hq, hqm⟩ := sees_yes (by assumption)
      have hql := made_len hqm
      obtain ⟨k', hk'⟩ : ∃ k', ps.length - a = k' + 1 := ⟨ps.length - a - 1, by have := (List.getElem?_eq_some_iff.1 hq).1; omega⟩
      rw [hk']
      have hc0 : c = 0 := by omega
      repeat' ((first | with_reducible refine IF.tt ?_ | with_reducible refine IF.ff ?_ | refine DRAWN.of (id := 11) tabOK mixed plTag20 (by kernel_rfl) ?_ | with_reducible refine ADD.mk (fun _ _ => ?_) | with_reducible refine NEED.mk (Det.of rfl) ?_ | with_reducible refine FORK.mk ?_ ?_ | ((with_reducible refine NEED.mk ?_ ?_); (first | with_reducible rfl | omega | (simp (disch := omega) only [lnB, wrap64, wrap32] <;> omega) | (intro h; (try simp (disch := omega) only [hsB, hsC, lnB, wrap64, wrap32, simprocAttr] at h); (first | omega | (simp (disch := omega) only [lnB, wrap64, wrap32] <;> omega))) | (exact needApp 256 rfl rfl (by simp) (by simp) (by omega)) | (simp <;> omega))) | ((with_reducible apply GET.at); rfl) | ((with_reducible apply GETG.at); rfl) | ((with_reducible refine IF.mk (fun h => ?_) (fun h => ?_)) <;> (try simp (disch := omega) only [hsB, hsC, lnB, wrap64, wrap32, simprocAttr] at h) <;> try (exfalso; omega))) <;> conv => whnf)
      all_goals
        refine CALL.here (next_tag_does ps a k' (by omega) q hq p (E) S R v x P) rfl rfl (by first | rfl | (simp only [belowO, belowH, plainLL_below _ (plainStrs _), Bool.and_self, Bool.and_true] <;> rfl)) (by first | rfl | (simp only [belowO, belowH, plainLL_below _ (plainStrs _), Bool.and_self, Bool.and_true] <;> rfl)) (by repeat' (first | exact trivial | exact rfl | ((conv => whnf); refine ⟨?_, ?_⟩))) (by repeat' (first | exact trivial | exact rfl | ((conv => whnf); refine ⟨?_, ?_⟩))) rfl ?_ ?_
        · rintro r O' nx' ⟨rfl, rfl, rfl⟩; exact ⟨rfl, rfl, rfl⟩
        rintro r O' ⟨rfl, rfl, _⟩
        conv => whnf
        repeat' ((first | with_reducible refine IF.tt ?_ | with_reducible refine IF.ff ?_ | refine DRAWN.of (id := 11) tabOK mixed plTag20 (by kernel_rfl) ?_ | with_reducible refine ADD.mk (fun _ _ => ?_) | with_reducible refine NEED.mk (Det.of rfl) ?_ | with_reducible refine FORK.mk ?_ ?_ | ((with_reducible refine NEED.mk ?_ ?_); (first | with_reducible rfl | omega | (simp (disch := omega) only [lnB, wrap64, wrap32] <;> omega) | (intro h; (try simp (disch := omega) only [hsB, hsC, lnB, wrap64, wrap32, simprocAttr] at h); (first | omega | (simp (disch := omega) only [lnB, wrap64, wrap32] <;> omega))) | (exact needApp 256 rfl rfl (by simp) (by simp) (by omega)) | (simp <;> omega))) | ((with_reducible apply GET.at); rfl) | ((with_reducible apply GETG.at); rfl) | ((with_reducible refine IF.mk (fun h => ?_) (fun h => ?_)) <;> (try simp (disch := omega) only [hsB, hsC, lnB, wrap64, wrap32, simprocAttr] at h) <;> try (exfalso; omega))) <;> conv => whnf)
        refine ⟨(c + 1, (E) ++ q, a + 1), ⟨by simp only; omega, by simp only [List.length_append, List.length_cons, List.length_nil]; omega, by simp only; omega, ?_⟩, by simp only; omega, ?_⟩
        · rw [hx, drop_at hq, show 3 - c = (3 - (c + 1)) + 1 by omega]; simp only [extP]; rw [if_pos hqm]
        · dsimp only
          rw [show ps.length - (a + 1) = k' by omega]
          conv => whnf
          (refine GOES.cutting h0 rfl rfl rfl (by first | rfl | simp [belowO, belowH, plainLL_below, plainLL_map, plainL, plain]) ?_ ?_ <;> (repeat' (first | (with_reducible rfl) | (exact congrArg (fun n => SV.sl _ _ _ n _) (by simp)) | (exact congrArg (Hp.rows _) (by simp)) | (exact congrArg (SV.int _) (by first | omega | (simp (disch := omega) only [lnB, wrap64, wrap32] <;> omega) | (simp; done) | (simp <;> omega))) | ((conv => whnf); refine ⟨?_, ?_⟩) | exact trivial | (simp; done) | rfl)))
    · exact FIN.here h0 (Oc := [(0, rdBox a (ps.length - a) p E S R v x P)]) rfl rfl rfl ⟨rfl, trivial⟩ ⟨a, ps.length - a, p, E, ha, by rw [hL]; rfl, by rw [hL]; rintro l ⟨⟩; exact fin (.inl (by assumption)), rfl, rfl⟩
  · have h : c = 3 := by simp at h; omega
    conv => whnf
    repeat' ((first | with_reducible refine IF.tt ?_ | with_reducible refine IF.ff ?_ | ((with_reducible refine NEED.mk ?_ ?_); (first | with_reducible rfl | omega | (simp (disch := omega) only [lnB, wrap64, wrap32] <;> omega) | (intro h; (try simp (disch := omega) only [hsB, hsC, lnB, wrap64, wrap32, simprocAttr] at h); (first | omega | (simp (disch := omega) only [lnB, wrap64, wrap32] <;> omega))) | (exact needApp 256 rfl rfl (by simp) (by simp) (by omega)) | (simp <;> omega))) | ((with_reducible apply GET.at); rfl) | ((with_reducible apply GETG.at); rfl) | ((with_reducible refine IF.mk (fun h => ?_) (fun h => ?_)) <;> (try simp (disch := omega) only [hsB, hsC, lnB, wrap64, wrap32, simprocAttr] at h) <;> try (exfalso; omega))) <;> conv => whnf)
    exact FIN.here h0 (Oc := [(0, rdBox a (ps.length - a) p E S R v x P)]) rfl rfl rfl ⟨rfl, trivial⟩ ⟨a, ps.length - a, p, E, ha, by rw [hL]; rfl, by rw [hL]; rintro l ⟨⟩; exact fin (.inr h), rfl, rfl⟩
theorem skip_no {p : List UInt8 → Bool} {ps : List (List UInt8)} {i : Nat} (h : seesM p ps i = false) : skipIf p (ps.drop i) = ps.drop i := by
  rcases sees_no h with h | ⟨s, _, h1, h2⟩
  · rw [h]; rfl
  · rw [h1]; simp only [skipIf]; rw [if_neg (by simp [h2])]
theorem skip_yes {p : List UInt8 → Bool} {ps : List (List UInt8)} {i : Nat} {s : List UInt8} (h : ps[i]? = some s) (hp : p s = true) : skipIf p (ps.drop i) = ps.drop (i + 1) := by
  rw [drop_at h]; simp only [skipIf]; rw [if_pos hp]
theorem index_st_does (l : List (List UInt8)) (s : List UInt8) (hl : l.length ≤ 1152921504606846976) : Does Tryz.prog tab 193 1 [.sl (.loc 0) 0 1 l.length none, .str s] [] [(0, .rows 1 (l.map strRow))]
    (fun r O nx => ∃ n : Int, (0 ≤ n ↔ s ∈ l) ∧ r = .int .i64 n ∧ O = [] ∧ nx = 1) := by
  refine Does.enter tabOK (g := 193) (fn := Tryz.f193) Tryz.call193 Tryz.func193 rfl 19 rfl rfl [.tmp 4] rfl ?_
  intro w0 F η0 h0
  conv => whnf
  refine LOOP.go tabOK [0, 1, 7] (X := Nat) (fun i => i ≤ l.length ∧ s ∉ l.take i) (fun i => [(8, .int .i64 (i : Int))]) (fun i => []) 1 (fun i => l.length - i) 0 ⟨by omega, by simp⟩ ?_
  conv => whnf
  refine ⟨by (refine GOES.cutting h0 rfl rfl rfl (by first | rfl | simp [belowO, belowH, plainLL_below, plainLL_map, plainL, plain]) ?_ ?_ <;> (repeat' (first | (with_reducible rfl) | (exact congrArg (fun n => SV.sl _ _ _ n _) (by simp)) | (exact congrArg (Hp.rows _) (by simp)) | (exact congrArg (SV.int _) (by first | omega | (simp (disch := omega) only [lnB, wrap64, wrap32] <;> omega) | (simp; done) | (simp <;> omega))) | ((conv => whnf); refine ⟨?_, ?_⟩) | exact trivial | (simp; done) | rfl))), ?_⟩
  rintro i ⟨hi, hc⟩
  conv => whnf
  repeat' ((first | with_reducible refine IF.tt ?_ | with_reducible refine IF.ff ?_ | (refine GET.at (row := strRow (l[i]'(by omega))) (by rw [List.getElem?_map, show 0 + (i : Int).toNat = i by omega, List.getElem?_eq_getElem (by omega)]; rfl) ?_; conv => whnf) | ((with_reducible refine NEED.mk ?_ ?_); (first | with_reducible rfl | omega | (simp (disch := omega) only [lnB, wrap64, wrap32] <;> omega) | (intro h; (try simp (disch := omega) only [hsB, hsC, lnB, wrap64, wrap32, simprocAttr] at h); (first | omega | (simp (disch := omega) only [lnB, wrap64, wrap32] <;> omega))) | (exact needApp 256 rfl rfl (by simp) (by simp) (by omega)) | (simp <;> omega))) | ((with_reducible apply GET.at); rfl) | ((with_reducible apply GETG.at); rfl) | ((with_reducible refine IF.mk (fun h => ?_) (fun h => ?_)) <;> (try simp (disch := omega) only [hsB, hsC, lnB, wrap64, wrap32, simprocAttr] at h) <;> try (exfalso; omega))) <;> conv => whnf)
  · have hl : i < l.length := by omega
    exact FIN.val h0 rfl ⟨i, ⟨fun _ => by subst h; exact List.getElem_mem hl, fun _ => by omega⟩, rfl, rfl, rfl⟩
  · have hl : i < l.length := by omega
    refine ⟨i + 1, ⟨by omega, ?_⟩, by omega, ?_⟩
    · rw [List.take_succ_eq_append_getElem hl]
      simp only [List.mem_append, List.mem_singleton]
      rintro (h1 | h1)
      · exact hc h1
      · exact h h1
    · conv => whnf
      (refine GOES.cutting h0 rfl rfl rfl (by first | rfl | simp [belowO, belowH, plainLL_below, plainLL_map, plainL, plain]) ?_ ?_ <;> (repeat' (first | (with_reducible rfl) | (exact congrArg (fun n => SV.sl _ _ _ n _) (by simp)) | (exact congrArg (Hp.rows _) (by simp)) | (exact congrArg (SV.int _) (by first | omega | (simp (disch := omega) only [lnB, wrap64, wrap32] <;> omega) | (simp; done) | (simp <;> omega))) | ((conv => whnf); refine ⟨?_, ?_⟩) | exact trivial | (simp; done) | rfl)))
  · refine FIN.val h0 rfl ⟨-1, ⟨fun h => by omega, fun h1 => ?_⟩, rfl, rfl, rfl⟩
    rw [List.take_of_length_le (by omega)] at hc
    exact (hc h1).elim
theorem contains_does (l : List (List UInt8)) (s : List UInt8) (hl : l.length ≤ 1152921504606846976) : Does Tryz.prog tab 174 1 [.sl (.loc 0) 0 1 l.length none, .str s] [] [(0, .rows 1 (l.map strRow))] (ValK 1 (.bool (decide (s ∈ l)))) := by
  refine Does.enter tabOK (g := 174) (fn := Tryz.f174) Tryz.call174 Tryz.func174 rfl 9 rfl rfl [.tmp 4] rfl ?_
  intro w0 F η0 h0
  conv => whnf
  refine CALL.here (index_st_does l s hl) rfl rfl (by first | rfl | (simp only [belowO, belowH, plainLL_below _ (plainStrs _), Bool.and_self, Bool.and_true] <;> rfl)) (by first | rfl | (simp only [belowO, belowH, plainLL_below _ (plainStrs _), Bool.and_self, Bool.and_true] <;> rfl)) (by repeat' (first | exact trivial | exact rfl | ((conv => whnf); refine ⟨?_, ?_⟩))) (by repeat' (first | exact trivial | exact rfl | ((conv => whnf); refine ⟨?_, ?_⟩))) rfl ?_ ?_
  · rintro r O' nx' ⟨n, _, rfl, rfl, rfl⟩; exact ⟨rfl, rfl, rfl⟩
  rintro r O' ⟨n, hn, rfl, rfl, _⟩
  conv => whnf
  exact FIN.valueK h0 rfl (congrArg SV.bool (decide_eq_decide.2 hn))
def orE : List Int → Int
  | [] => 0
  | a :: l => if a ≠ 0 then a else orE l
def intRowE (a : Int) : List SV := [.int .i64 a]
theorem cmpOrErr_does (xs : List Int) (hn : xs.length ≤ 1152921504606846976) : Does Tryz.prog tab 95 1 [.sl (.loc 0) 0 1 xs.length none] [] [(0, .rows 1 (xs.map intRowE))] (ValK 1 (.int .i64 (orE xs))) := by
  refine Does.enter tabOK (g := 95) (fn := Tryz.f95) Tryz.call95 Tryz.func95 rfl 18 rfl rfl [.tmp 2] rfl ?_
  intro w0 F η0 h0
  conv => whnf
  refine LOOP.go tabOK [3, 6, 7] (X := Nat) (fun i => i ≤ xs.length ∧ orE xs = orE (xs.drop i)) (fun i => [(8, .int .i64 (i : Int))]) (fun i => []) 1 (fun i => xs.length - i) 0 ⟨by omega, rfl⟩ ?_
  conv => whnf
  refine ⟨by (refine GOES.cutting h0 rfl rfl rfl (by first | rfl | simp [belowO, belowH, plainLL_below, plainLL_map, plainL, plain]) ?_ ?_ <;> (repeat' (first | (with_reducible rfl) | (exact congrArg (fun n => SV.sl _ _ _ n _) (by simp)) | (exact congrArg (Hp.rows _) (by simp)) | (exact congrArg (SV.int _) (by first | omega | (simp (disch := omega) only [lnB, wrap64, wrap32] <;> omega) | (simp; done) | (simp <;> omega))) | ((conv => whnf); refine ⟨?_, ?_⟩) | exact trivial | (simp; done) | rfl))), ?_⟩
  rintro i ⟨hi, ho⟩
  conv => whnf
  repeat' ((first | with_reducible refine IF.tt ?_ | with_reducible refine IF.ff ?_ | (refine GET.at (row := intRowE (xs[i]'(by omega))) (by rw [List.getElem?_map, show 0 + (i : Int).toNat = i by omega, List.getElem?_eq_getElem (by omega)]; rfl) ?_; conv => whnf) | ((with_reducible refine NEED.mk ?_ ?_); (first | with_reducible rfl | omega | (simp (disch := omega) only [lnB, wrap64, wrap32] <;> omega) | (intro h; (try simp (disch := omega) only [hsB, hsC, lnB, wrap64, wrap32, simprocAttr] at h); (first | omega | (simp (disch := omega) only [lnB, wrap64, wrap32] <;> omega))) | (exact needApp 256 rfl rfl (by simp) (by simp) (by omega)) | (simp <;> omega))) | ((with_reducible apply GET.at); rfl) | ((with_reducible apply GETG.at); rfl) | ((with_reducible refine IF.mk (fun h => ?_) (fun h => ?_)) <;> (try simp (disch := omega) only [hsB, hsC, lnB, wrap64, wrap32, simprocAttr] at h) <;> try (exfalso; omega))) <;> conv => whnf)
  · have hl : i < xs.length := by omega
    refine FIN.valueK h0 rfl (congrArg (SV.int _) ?_)
    rw [ho, List.drop_eq_getElem_cons hl]; simp only [orE]; rw [if_pos h]
  · have hl : i < xs.length := by omega
    refine ⟨i + 1, ⟨by omega, ?_⟩, by omega, ?_⟩
    · rw [ho, List.drop_eq_getElem_cons hl]; simp only [orE]; rw [if_neg (by simpa using h)]
    · conv => whnf
      (refine GOES.cutting h0 rfl rfl rfl (by first | rfl | simp [belowO, belowH, plainLL_below, plainLL_map, plainL, plain]) ?_ ?_ <;> (repeat' (first | (with_reducible rfl) | (exact congrArg (fun n => SV.sl _ _ _ n _) (by simp)) | (exact congrArg (Hp.rows _) (by simp)) | (exact congrArg (SV.int _) (by first | omega | (simp (disch := omega) only [lnB, wrap64, wrap32] <;> omega) | (simp; done) | (simp <;> omega))) | ((conv => whnf); refine ⟨?_, ?_⟩) | exact trivial | (simp; done) | rfl)))
  · refine FIN.valueK h0 rfl (congrArg (SV.int _) ?_)
    rw [ho, List.drop_eq_nil_of_le (by omega)]; rfl
end Go.Proofs.YtpffclpheldabaaGreatDoor
