/- Part 2: SxOpsM, SxDeep, SxOpsI, SxOpsN, SxOpsP, SxOpsQ, SxOpsJ, SxSound, SxSoundG. Conditions: as each part says. -/
import Derived.Laws.IdiomStrings
import Derived.Tactics
import Derived.Test.YtbfbokdccdagkaaGreatDoorCls1
set_option linter.unusedVariables false
namespace Go.Sx
open Go
def Wg : CK → SV → SV → Option Bool
 | .int k, .int k1 a, .int k2 b => match Xj k k1 && Xj k k2 with | true => some (a == b) | false => none
 | .str, .str a, .str b => some (a == b)
 | .bool, .bool a, .bool b => some (a == b)
 | _, _, _ => none
def both : Option Bool → Option Bool → Option Bool
 | some a, some b => some (a && b)
 | _, _ => none
theorem Z6Q {a b : Option Bool} : (both a b).isSome = true ↔ a.isSome = true ∧ b.isSome = true := by cases a <;> cases b <;> simp [both]
theorem Z6R {a b : Option Bool} : both a b = some true ↔ a = some true ∧ b = some true := by cases a <;> cases b <;> simp [both]
theorem UU {k : CK} {ks : List CK} {x y : SV} {xs ys : List SV} : Zb (k :: ks) (x :: xs) (y :: ys) = both (Wg k x y) (Zb ks xs ys) := by
 cases k with
 | int k =>
   cases x with
   | int k1 a =>
     cases y with
     | int k2 b =>
       simp only [Zb, Wg]
       cases Xj k k1 && Xj k k2 <;> cases Zb ks xs ys <;> rfl
     | _ => rfl
   | _ => rfl
 | str =>
   cases x with
   | str a =>
     cases y with
     | str b => simp only [Zb, Wg]; cases Zb ks xs ys <;> rfl
     | _ => rfl
   | _ => rfl
 | bool =>
   cases x with
   | bool a =>
     cases y with
     | bool b => simp only [Zb, Wg]; cases Zb ks xs ys <;> rfl
     | _ => rfl
   | _ => rfl
theorem Z8M {k : CK} {x y : SV} (h1 : (Wg k x x).isSome = true) (h2 : (Wg k y y).isSome = true) : (Wg k x y).isSome = true := by
 cases k with
 | int k =>
   cases x with
   | int k1 a =>
     cases y with
     | int k2 b =>
       simp only [Wg] at h1 h2 ⊢
       cases e1 : Xj k k1 <;> cases e2 : Xj k k2 <;> simp_all
     | _ => cases h2
   | _ => cases h1
 | str =>
   cases x with
   | str a => cases y with
     | str b => rfl
     | _ => cases h2
   | _ => cases h1
 | bool =>
   cases x with
   | bool a => cases y with
     | bool b => rfl
     | _ => cases h2
   | _ => cases h1
theorem Z5J {η : Env} {k : CK} {x y : SV} {u v : Value} (h : Wg k x y = some true) (h1 : Den η x u) (h2 : Den η y v) : u = v ∧ ∀ n, Instr.sameBits n u u = true := by
 cases k with
 | int k =>
   cases x with
   | int k1 a =>
     cases y with
     | int k2 b =>
       simp only [Wg] at h
       split at h
       · rename_i hk
         simp only [Bool.and_eq_true, kindEq_iff] at hk
         simp only [Option.some.injEq, beq_iff_eq] at h
         simp only [Den] at h1 h2
         obtain ⟨e1, e2⟩ := hk
         subst h1; subst h2; subst h; subst e1; subst e2
         exact ⟨rfl, fun n => by cases n <;> simp [Instr.sameBits]⟩
       · cases h
     | _ => cases h
   | _ => cases h
 | str =>
   cases x with
   | str a => cases y with
     | str b =>
       simp only [Wg, Option.some.injEq, beq_iff_eq] at h
       simp only [Den] at h1 h2
       subst h1; subst h2; subst h
       exact ⟨rfl, fun n => by cases n <;> (show (a.toArray == a.toArray) = true; simp)⟩
     | _ => cases h
   | _ => cases h
 | bool =>
   cases x with
   | bool a => cases y with
     | bool b =>
       simp only [Wg, Option.some.injEq, beq_iff_eq] at h
       simp only [Den] at h1 h2
       subst h1; subst h2; subst h
       exact ⟨rfl, fun n => by cases n <;> simp [Instr.sameBits]⟩
     | _ => cases h
   | _ => cases h
theorem Z1s : ∀ {ks : List CK} {xs ys : List SV}, (Zb ks xs xs).isSome = true → (Zb ks ys ys).isSome = true → (Zb ks xs ys).isSome = true
 | [], xs, ys, h1, h2 => by cases xs <;> cases ys <;> simp_all [Zb]
 | k :: ks, [], ys, h1, h2 => by cases k <;> simp [Zb] at h1
 | k :: ks, x :: xs, [], h1, h2 => by cases k <;> simp [Zb] at h2
 | k :: ks, x :: xs, y :: ys, h1, h2 => by
   rw [UU, Z6Q] at h1 h2 ⊢
   exact ⟨Z8M h1.1 h2.1, Z1s h1.2 h2.2⟩
theorem V1 {η : Env} : ∀ {ks : List CK} {xs ys : List SV} {us vs : List Value}, Zb ks xs ys = some true → DenL η xs us → DenL η ys vs → us = vs ∧ ∀ u ∈ us, ∀ n, Instr.sameBits n u u = true
 | [], [], [], us, vs, h, h1, h2 => by
   simp only [DenL] at h1 h2
   subst h1; subst h2; simp
 | [], _ :: _, _, us, vs, h, h1, h2 => by simp [Zb] at h
 | [], [], _ :: _, us, vs, h, h1, h2 => by simp [Zb] at h
 | k :: ks, [], ys, us, vs, h, h1, h2 => by cases k <;> simp [Zb] at h
 | k :: ks, x :: xs, [], us, vs, h, h1, h2 => by cases k <;> simp [Zb] at h
 | k :: ks, x :: xs, y :: ys, us, vs, h, h1, h2 => by
   rw [UU, Z6R] at h
   simp only [DenL] at h1 h2
   obtain ⟨u, us, rfl, a1, a2⟩ := h1
   obtain ⟨v, vs, rfl, b1, b2⟩ := h2
   obtain ⟨e1, s1⟩ := Z5J h.1 a1 b1
   obtain ⟨e2, s2⟩ := V1 h.2 a2 b2
   subst e1; subst e2
   exact ⟨rfl, fun w hw => by rcases List.mem_cons.1 hw with rfl | hw; exact s1; exact s2 w hw⟩
theorem UV {p : Nat → Value → Value → Bool} {n : Nat} : ∀ {l : List Value}, (∀ u ∈ l, p n u u = true) → ((l.zip l).all fun (x, y) => p n x y) = true
 | [], _ => rfl
 | u :: us, h => by simp only [List.zip_cons_cons, List.all_cons, Bool.and_eq_true]; exact ⟨h u (by simp), UV fun w hw => h w (by simp [hw])⟩
theorem Ws {η : Env} {ks : Bool × List CK} {a b : SV} {u v : Value} (h : U1 ks a b = true) (h1 : Den η a u) (h2 : Den η b v) : u = v ∧ Instr.sameBits 10000 u u = true := by
 obtain ⟨f, ks⟩ := ks
 have hq : J6 (f, ks) a b = some true := by
   unfold U1 at h
   cases hq : J6 (f, ks) a b with
   | none => rw [hq] at h; cases h
   | some r => rw [hq] at h; exact congrArg some h
 cases f with
 | false =>
   simp only [J6, ZH] at hq
   obtain ⟨e, s⟩ := V1 hq (show DenL η [a] [u] from by simp only [DenL]; exact ⟨u, [], rfl, h1, rfl⟩) (show DenL η [b] [v] from by simp only [DenL]; exact ⟨v, [], rfl, h2, rfl⟩)
   exact ⟨by simpa using e, s u (by simp) _⟩
 | true =>
   cases a with
   | agg xs =>
     cases b with
     | agg ys =>
       simp only [J6, ZH] at hq
       simp only [Den] at h1 h2
       obtain ⟨us, rfl, h1, _⟩ := h1
       obtain ⟨vs, rfl, h2, _⟩ := h2
       obtain ⟨e, s⟩ := V1 hq h1 h2
       subst e
       refine ⟨rfl, ?_⟩
       show (us.toArray.size == us.toArray.size && (us.toArray.toList.zip us.toArray.toList).all fun (x, y) => Instr.sameBits 9999 x y) = true
       simp only [beq_self_eq_true, Bool.true_and]
       exact UV fun w hw => s w (by simpa using hw) _
     | _ => simp [J6, ZH] at hq
   | _ => simp [J6, ZH] at hq
theorem Z5K {ks : Bool × List CK} {a b : SV} (h1 : Xx ks a = true) (h2 : Xx ks b = true) : ∃ r, J6 ks a b = some r := by
 obtain ⟨f, ks⟩ := ks
 simp only [Xx, J6] at h1 h2 ⊢
 cases ha : ZH f a with
 | none => rw [ha] at h1; cases h1
 | some xs =>
   cases hb : ZH f b with
   | none => rw [hb] at h2; cases h2
   | some ys =>
     rw [ha] at h1; rw [hb] at h2
     exact Option.isSome_iff_exists.1 (Z1s h1 h2)
def MapL (η : Env) : List (List SV) → List MapEntry → Prop
 | [], [] => True
 | r :: rs, e :: es => DenL η r [e.key, e.val] ∧ MapL η rs es
 | _, _ => False
theorem VN {η : Env} : ∀ {rs : List (List SV)} {es : List MapEntry} {i : Nat}, es.length = rs.length → (∀ j row, rs[j]? = some row → ∃ en : MapEntry, es[j]? = some en ∧ en.born = i + j ∧ DenL η row [en.key, en.val]) → MapL η rs es
 | [], [], _, _, _ => trivial
 | [], _ :: _, _, h, _ => by simp at h
 | _ :: _, [], _, h, _ => by simp at h
 | r :: rs, e :: es, i, hl, h => by
   obtain ⟨en, h1, _, h3⟩ := h 0 r rfl
   simp at h1; subst h1
   exact ⟨h3, VN (i := i + 1) (by simpa using hl) fun j row hr => by
     obtain ⟨en, g1, g2, g3⟩ := h (j + 1) row (by simpa using hr)
     exact ⟨en, by simpa using g1, by omega, g3⟩⟩
def Hit (η : Env) : Option (Nat × SV) → Option (Nat × Value) → Prop
 | none, f => f = none
 | some (j, v), f => ∃ x, f = some (j, x) ∧ Den η v x
theorem Z4X {P : Program} {T : Tab} (hT : TabOK P T) {t : TypeId} {ks : Bool × List CK} (ht : T.key t = some ks) {η : Env} {w : World} {key : SV} {u : Value} (hk : Xx ks key = true) (hu : Den η key u) :
   ∀ {rs : List (List SV)} {es : List MapEntry} {i : Nat}, Jf ks rs → MapL η rs es → ∃ f, (Instr.findAsking t u es i).run P w = .ok f w ∧ (∀ d, P.underlying t = some d → Instr.findNow d u es i = none ∨ Instr.findNow d u es i = some f) ∧ Hit η (YH ks key i rs) f ∧ ∀ j x, f = some (j, x) → i ≤ j ∧ ∃ e, es[j - i]? = some e ∧ e.val = x
 | [], [], i, _, _ => ⟨none, by simp [Instr.findAsking], fun d _ => .inr rfl, rfl, fun _ _ h => by cases h⟩
 | [], _ :: _, _, _, h => h.elim
 | _ :: _, [], _, _, h => h.elim
 | r :: rs, e :: es, i, ho, h => by
   obtain ⟨k, v, rfl, hko⟩ := ho r (by simp)
   obtain ⟨hd, hr⟩ := h
   simp only [DenL] at hd
   obtain ⟨_, _, e1, hdk, _, _, e2, hdv, e3⟩ := hd
   cases e1; cases e2
   obtain ⟨b, hb⟩ := Z5K hk hko
   obtain ⟨g1, g2⟩ := (hT.key t ks ht).2.1 w η key k u e.key b hb hu hdk
   have his : U1 ks key k = b := by simp only [U1, hb]
   cases b with
   | true =>
     refine ⟨some (i, e.val), by simp [Instr.findAsking, g1], fun d hd => ?_, ?_, fun j x h => ?_⟩
     · rcases g2 d hd with h | h <;> simp [Instr.findNow, h]
     · simp only [YH, his]; exact ⟨_, rfl, hdv⟩
     · simp only [Option.some.injEq, Prod.mk.injEq] at h
       obtain ⟨rfl, rfl⟩ := h
       exact ⟨Nat.le_refl _, e, by simp, rfl⟩
   | false =>
     obtain ⟨f, f1, f2, f3, f4⟩ := Z4X hT ht hk hu (i := i + 1) (rs := rs) (es := es) (fun r hr => ho r (by simp [hr])) hr
     refine ⟨f, by simp [Instr.findAsking, g1]; exact f1, fun d hd => ?_, ?_, fun j x h => ?_⟩
     · rcases g2 d hd with h | h
       · simp [Instr.findNow, h]
       · simp only [Instr.findNow, h]; exact f2 d hd
     · simp only [YH, his]; exact f3
     · obtain ⟨h1, e', h2, h3⟩ := f4 j x h
       refine ⟨by omega, e', ?_, h3⟩
       rw [show j - i = (j - (i + 1)) + 1 by omega]
       simpa using h2
theorem XX {P : Program} {T : Tab} (hT : TabOK P T) {t : TypeId} {ks : Bool × List CK} (ht : T.key t = some ks) {η : Env} {w : World} {key : SV} {u : Value} (hk : Xx ks key = true) (hu : Den η key u)
   {rs : List (List SV)} {es : List MapEntry} (ho : Jf ks rs) (hm : MapL η rs es) : ∃ f, (Instr.findKey t u es).run P w = .ok f w ∧ Hit η (YH ks key 0 rs) f ∧ ∀ j x, f = some (j, x) → ∃ e, es[j]? = some e ∧ e.val = x := by
 obtain ⟨f, f1, f2, f3, f4⟩ := Z4X hT ht hk hu (i := 0) (w := w) ho hm
 obtain ⟨d, hd⟩ := (hT.key t ks ht).2.2
 refine ⟨f, ?_, f3, fun j x h => by simpa using (f4 j x h).2⟩
 rcases f2 d hd with h | h
 · simp [Instr.findKey, Z4 hd, h, f1]
 · simp [Instr.findKey, Z4 hd, h]
theorem Jy {P : Program} {T : Tab} (hT : TabOK P T) {t : TypeId} {ks : Bool × List CK} (ht : T.key t = some ks) {η : Env} {w : World} {key : SV} {u : Value} (hk : Xx ks key = true) (hu : Den η key u)
   {rs : List (List SV)} {es : List MapEntry} (ho : Jf ks rs) (hm : MapL η rs es) : ∃ f, (Instr.findKey t u es).run P w = .ok f w ∧ Hit η (YH ks key 0 rs) f :=
 let ⟨f, h1, h2, _⟩ := XX hT ht hk hu ho hm; ⟨f, h1, h2⟩
theorem Vl {ks : Bool × List CK} {key : SV} : ∀ {rs : List (List DC)} {i : Nat}, YH ks key i (Zo rs) = (findD ks key i rs).map fun p => (p.1, ZY p.2)
 | [], _ => rfl
 | r :: rs, i => by
   have ih := Vl (ks := ks) (key := key) (rs := rs) (i := i + 1)
   unfold Zo at ih ⊢
   match r with
   | [] => rfl
   | [a] => rfl
   | a :: b :: c :: l => rfl
   | [k, v] =>
     simp only [List.map_cons, List.map_nil, YH, findD]
     cases U1 ks key (ZY k)
     · exact ih
     · rfl
theorem Wt {ks : Bool × List CK} {key : SV} : ∀ {rs : List (List DC)} {i j : Nat} {v : DC}, findD ks key i rs = some (j, v) → ∃ k, i ≤ j ∧ rs[j - i]? = some [k, v] ∧ U1 ks key (ZY k) = true
 | [], i, j, v, h => by simp [findD] at h
 | r :: rs, i, j, v, h => by
   unfold findD at h
   split at h
   · rename_i k u
     split at h
     · rename_i hk
       simp only [Option.some.injEq, Prod.mk.injEq] at h
       obtain ⟨rfl, rfl⟩ := h
       exact ⟨k, Nat.le_refl _, by simp, hk⟩
     · obtain ⟨k', h1, h2, h3⟩ := Wt h
       refine ⟨k', by omega, ?_, h3⟩
       have : j - i = (j - (i + 1)) + 1 := by omega
       rw [this]; simpa using h2
   · cases h
end Go.Sx
set_option linter.unusedSimpArgs false
namespace Go.Sx
open Go
def setC (rs : List (List DC)) (r c : Nat) (d : DC) : List (List DC) := rs.modify r fun row => row.set c d
theorem Zt {rs : List (List DC)} {r c : Nat} {d : DC} (i : Nat) : (setC rs r c d)[i]? = if i = r then (rs[i]?).map (fun row => row.set c d) else rs[i]? := by
 unfold setC
 rw [List.getElem?_modify]
 by_cases h : r = i
 · subst h; simp
 · rw [if_neg (fun e => h e.symm)]; simp [h]
theorem kidAt_some {rs : List (List DC)} {i j es : Nat} {rows : List (List SV)} : Yk rs i j = some (es, rows) ↔ ∃ row, rs[i]? = some row ∧ row[j]? = some (.kid es rows) := by
 unfold Yk
 constructor
 · intro h
   split at h
   · rename_i row hr
     split at h
     · rename_i es' rows' hc
       simp only [Option.some.injEq, Prod.mk.injEq] at h
       obtain ⟨rfl, rfl⟩ := h
       exact ⟨row, hr, hc⟩
     · cases h
   · cases h
 · rintro ⟨row, hr, hc⟩
   rw [hr]; simp only [hc]
theorem YO {rs : List (List DC)} {r c : Nat} {d : DC} {i j : Nat} {x : Nat × List (List SV)} (h : Yk (setC rs r c d) i j = some x) : Yk rs i j = some x ∨ (i = r ∧ j = c ∧ d = .kid x.1 x.2) := by
 obtain ⟨es, rows⟩ := x
 obtain ⟨row, hr, hc⟩ := kidAt_some.1 h
 rw [Zt] at hr
 by_cases hi : i = r
 · subst hi
   rw [if_pos rfl] at hr
   obtain ⟨row0, h0, rfl⟩ := Option.map_eq_some_iff.1 hr
   rw [List.getElem?_set] at hc
   by_cases hj : c = j
   · subst hj
     rw [if_pos rfl] at hc
     split at hc
     · injection hc with hc
       exact .inr ⟨rfl, rfl, hc⟩
     · cases hc
   · rw [if_neg hj] at hc
     exact .inl (kidAt_some.2 ⟨row0, h0, hc⟩)
 · rw [if_neg hi] at hr
   exact .inl (kidAt_some.2 ⟨row, hr, hc⟩)
theorem XB {rs : List (List DC)} {r c : Nat} {sv : SV} {i j : Nat} {x : Nat × List (List SV)} (h : Yk (setC rs r c (.v sv)) i j = some x) : Yk rs i j = some x ∧ ¬ (i = r ∧ j = c) := by
 refine ⟨(YO h).elim id (fun h => by cases h.2.2), ?_⟩
 rintro ⟨rfl, rfl⟩
 obtain ⟨es, rows⟩ := x
 obtain ⟨row, hr, hc⟩ := kidAt_some.1 h
 rw [Zt, if_pos rfl] at hr
 obtain ⟨row0, h0, rfl⟩ := Option.map_eq_some_iff.1 hr
 rw [List.getElem?_set, if_pos rfl] at hc
 split at hc
 · cases hc
 · cases hc
theorem Y5 {rs : List (List DC)} {i : Nat} : (Zo rs)[i]? = (rs[i]?).map fun r => r.map ZY := by unfold Zo; rw [List.getElem?_map]
theorem ZS {rs : List (List DC)} : (Zo rs).length = rs.length := by unfold Zo; rw [List.length_map]
theorem Vm {rs : List (List DC)} {r c : Nat} {d : DC} (i : Nat) : (Zo (setC rs r c d))[i]? = if i = r then ((Zo rs)[i]?).map (fun row => row.set c (ZY d)) else (Zo rs)[i]? := by
 rw [Y5, Zt, Y5]
 split
 · cases rs[i]? <;> simp [List.map_set]
 · rfl
theorem Z21 {rs : List (List DC)} {r c : Nat} {d : DC} : (setC rs r c d).length = rs.length := by unfold setC; rw [List.length_modify]
section
variable {M : Mx} {η : Env} {w w' : World} {O : Hps} {nx : Nat}
def Z6S (η : Env) (w : World) (own : Bool) (b : Blk) (mp : Bool) (es : Nat) (fs : List (List SV)) : Prop := match mp with | true => MpSat η w b fs | false => RowsSat η w own b es fs
theorem V2 {own : Bool} {b : Blk} {mp : Bool} {es : Nat} {rs : List (List DC)} (d : HpSat η w own b (.deep mp es rs)) {r c : Nat} {row : List DC} {dc : DC} (hr : rs[r]? = some row) (hc : row[c]? = some dc) :
   ∃ e o v, η.get b = some (some e) ∧ w.heap[e.g]? = some o ∧ ZF o es r c = some v ∧ Den η (ZY dc) v ∧ KidsOK η w e.g o es rs := by
 have hfr : (Zo rs)[r]? = some (row.map ZY) := by rw [Y5, hr]; rfl
 have hfc : (row.map ZY)[c]? = some (ZY dc) := by rw [List.getElem?_map, hc]; rfl
 cases mp
 · simp only [HpSat] at d
   obtain ⟨d1, d2⟩ := d
   rcases d1 with ⟨_, h2⟩ | ⟨e, arr, T, fz, h1, h2, h3, h4⟩
   · rw [h2] at hfr; cases hfr
   obtain ⟨h5, h6⟩ := d2 e h1
   obtain ⟨v, h7, _, h8⟩ := (h4 r _ hfr).2 c _ hfc
   rw [h5, Nat.zero_add] at h7
   exact ⟨e, _, v, h1, h2, h7, h8, h6 _ h2⟩
 · simp only [HpSat] at d
   obtain ⟨⟨d1, d0⟩, d2⟩ := d
   obtain ⟨e, ens, h1, h2, h3, h4, h5⟩ := d1
   obtain ⟨_, h6⟩ := d2 e h1
   obtain ⟨en, g1, _, g3⟩ := h5 r _ hfr
   obtain ⟨v, hv, hd⟩ := YL g3 hfc
   refine ⟨e, _, v, h1, h3, ?_, hd, h6 _ h3⟩
   simp only [ZF, g1, Option.map_some]
   match c, hv with
   | 0, hv => simpa using hv
   | 1, hv => simpa using hv
   | c + 2, hv => simp at hv
theorem UC {own : Bool} {b : Blk} {mp : Bool} {es : Nat} {rs : List (List DC)} (d : HpSat η w own b (.deep mp es rs)) {η' : Env} (hp : η <+: η') {r c : Nat} {dc : DC}
   (hv : ∀ e o v, η.get b = some (some e) → w.heap[e.g]? = some o → ZF o es r c = some v → Den η' (ZY dc) v) :
   Z6S η' w own b mp es (Zo (setC rs r c dc)) := by
 cases mp
 · simp only [HpSat] at d
   obtain ⟨d1, d2⟩ := d
   rcases d1 with ⟨h1, h2⟩ | ⟨e, arr, T, fz, h1, h2, h3, h4⟩
   · refine .inl ⟨Env.get_mono hp h1, ?_⟩
     apply List.length_eq_zero_iff.1
     rw [ZS, Z21, ← ZS, h2]; rfl
   · refine .inr ⟨e, arr, T, fz, Env.get_mono hp h1, h2, by rw [ZS, Z21, ← ZS]; exact h3, fun i row hr => ?_⟩
     rw [Vm] at hr
     obtain ⟨h5, _⟩ := d2 e h1
     split at hr
     · rename_i hi; subst hi
       obtain ⟨row0, h0, rfl⟩ := Option.map_eq_some_iff.1 hr
       obtain ⟨g1, g2⟩ := h4 i row0 h0
       refine ⟨by rw [List.length_set]; exact g1, fun j sv hj => ?_⟩
       rw [List.getElem?_set] at hj
       split at hj
       · rename_i hcj; subst hcj
         split at hj
         · rename_i hlt
           injection hj with hj; subst hj
           obtain ⟨v, k1, k2, _⟩ := g2 c _ (List.getElem?_eq_getElem hlt)
           refine ⟨v, k1, k2, hv e _ v h1 h2 ?_⟩
           rw [h5, Nat.zero_add] at k1
           exact k1
         · cases hj
       · obtain ⟨v, k1, k2, k3⟩ := g2 j sv hj
         exact ⟨v, k1, k2, k3.mono hp⟩
     · exact ⟨(h4 i row hr).1, (h4 i row hr).2.mono hp⟩
 · simp only [HpSat] at d
   obtain ⟨⟨d1, d0⟩, d2⟩ := d
   obtain ⟨e, ens, h1, h2, h3, h4, h5⟩ := d1
   refine ⟨e, ens, Env.get_mono hp h1, h2, h3, by rw [ZS, Z21, ← ZS]; exact h4, fun i row hr => ?_⟩
   rw [Vm] at hr
   split at hr
   · rename_i hi; subst hi
     obtain ⟨row0, h0, rfl⟩ := Option.map_eq_some_iff.1 hr
     obtain ⟨en, g1, g2, g3⟩ := h5 i row0 h0
     refine ⟨en, g1, g2, ?_⟩
     have hvc := fun v (hc : ZF (.map ens ens.size) es i c = some v) => hv e _ v h1 h3 hc
     simp only [ZF, g1, Option.map_some, Option.some.injEq] at hvc
     have g3 := g3.mono hp
     match row0, c, hvc, g3 with
     | [], c, _, g3 => simpa using g3
     | [a], 0, hvc, g3 => simp [DenL] at g3
     | a :: b :: l, 0, hvc, g3 =>
       simp only [List.set_cons_zero, DenL] at g3 ⊢
       obtain ⟨u, us, q1, q2, q3⟩ := g3
       injection q1 with q1 q1'; subst q1 q1'
       exact ⟨_, _, rfl, hvc _ rfl, q3⟩
     | [a], c + 1, hvc, g3 => simp [DenL] at g3
     | a :: b :: l, 1, hvc, g3 =>
       simp only [List.set_cons_succ, List.set_cons_zero, DenL] at g3 ⊢
       obtain ⟨u, us, q1, q2, u', us', q3, q4, q5⟩ := g3
       injection q1 with q1 q1'; subst q1 q1'
       injection q3 with q3 q3'; subst q3 q3'
       exact ⟨_, _, rfl, q2, _, _, rfl, hvc _ rfl, q5⟩
     | a :: b :: l, c + 2, hvc, g3 =>
       have : (a :: b :: l).set (c + 2) (ZY dc) = a :: b :: l := by
         simp only [DenL] at g3
         obtain ⟨u, us, q1, q2, u', us', q3, q4, q5⟩ := g3
         injection q1 with q1 q1'; subst q1 q1'
         injection q3 with q3 q3'; subst q3 q3'
         cases l with
         | nil => rfl
         | cons x l => simp [DenL] at q5
       rw [this]; exact g3
   · obtain ⟨en, g1, g2, g3⟩ := h5 i row hr
     exact ⟨en, g1, g2, g3.mono hp⟩
theorem HpSat.deep_ent {own : Bool} {b : Blk} {mp : Bool} {es : Nat} {rs : List (List DC)} (d : HpSat η w own b (.deep mp es rs)) : (∃ x, η.get b = some x) ∧ DeepSat η w b es rs ∧ (mp = true → es = 2) := by
 cases mp
 · simp only [HpSat] at d
   exact ⟨let ⟨x, h, _⟩ := d.1.ent; ⟨x, h⟩, d.2, fun h => by cases h⟩
 · simp only [HpSat] at d
   exact ⟨let ⟨x, h, _⟩ := d.1.1.ent; ⟨x, h⟩, d.2, fun _ => d.1.2⟩
theorem HpSat.deep_of {own : Bool} {b : Blk} {mp : Bool} {es : Nat} {rs : List (List DC)} (h : Z6S η w own b mp es (Zo rs)) (h0 : mp = true → es = 2) (h2 : DeepSat η w b es rs) : HpSat η w own b (.deep mp es rs) := by
 cases mp
 · simp only [HpSat]; exact ⟨h, h2⟩
 · simp only [HpSat]; exact ⟨⟨h, h0 rfl⟩, h2⟩
theorem HeapOK.take (H : HeapOK M η w O nx) {i : Nat} {mp : Bool} {es : Nat} {rs : List (List DC)} (hi : lkp i O = some (.deep mp es rs)) {r c es' : Nat} {row : List DC} {rows : List (List SV)} (hr : rs[r]? = some row) (hc : row[c]? = some (.kid es' rows)) :
   ∃ x, HeapOK M (η ++ [x]) w ((nx, .rows es' rows) :: setK i (.deep mp es (setC rs r c (.v (.sl (.loc nx) 0 es' rows.length none)))) O) (nx + 1) := by
 obtain ⟨hsat, hF⟩ := H.own.1 i _ hi
 obtain ⟨e, o, v, he, ho, hv, _, hK⟩ := V2 hsat hr hc
 have hkid : Yk rs r c = some (es', rows) := kidAt_some.2 ⟨row, hr, hc⟩
 obtain ⟨v', hv', hks, hvg⟩ := hK.sat r c es' rows hkid
 rw [hv] at hv'; injection hv' with hv'; subst hv'
 have fkid : ∀ k, v.ownBlock = some k → feet η w (.loc i) (.deep mp es rs) k := fun k hk => ⟨e, he, .inr (by simp only [kid]; exact ⟨o, r, c, _, v, ho, hkid, hv, hk⟩)⟩
 obtain ⟨_, hD, h0⟩ := hsat.deep_ent
 have hsome : (lkp i O).isSome := by rw [hi]; rfl
 obtain ⟨x, hx, hxe, hnew, hden⟩ : ∃ x : Option Ent, (∀ e', x = some e' → v.ownBlock = some e'.g) ∧ (∀ e', x = some e' → e'.g < w.heap.size) ∧ HpSat (η ++ [x]) w true (.loc nx) (.rows es' rows) ∧ Den (η ++ [x]) (.sl (.loc nx) 0 es' rows.length none) v := by
   rcases hks with ⟨rfl, rfl⟩ | ⟨g, cap, arr, T, fz, rfl, k2, k3, k4, k5, k6⟩
   · refine ⟨none, (fun e' h => by cases h), (fun e' h => by cases h), ?_, ?_⟩
     · simp only [HpSat]; exact .inl ⟨Zz H.len _, trivial⟩
     · simp only [Den]; exact .inl ⟨Zz H.len _, trivial, rfl⟩
   · refine ⟨some ⟨g, 0, cap⟩, fun e' h => by injection h with h; subst h; rfl, fun e' h => by injection h with h; subst h; exact (Array.getElem?_eq_some_iff.1 k2).1, ?_, ?_⟩
     · simp only [HpSat]
       exact .inr ⟨_, arr, T, fz, Zz H.len _, k2, fun _ => ⟨k3, k4, k5, rfl⟩, fun j row hj => ⟨(k6 j row hj).1, (k6 j row hj).2.mono (List.prefix_append _ _)⟩⟩
     · simp only [Den]
       exact .inr ⟨_, 0, Zz H.len _, by simp, by simpa using k5, by simp, fun _ => by simp⟩
 have hp : η <+: η ++ [x] := List.prefix_append _ _
 have hgi : (η ++ [x]).get (.loc i) = some (some e) := Env.get_mono hp he
 have hsi : HpSat (η ++ [x]) w true (.loc i) (.deep mp es (setC rs r c (.v (.sl (.loc nx) 0 es' rows.length none)))) := by
   refine HpSat.deep_of (UC hsat hp fun e' o' v' h1 h2 h3 => ?_) h0 fun e' h1 => ?_
   · rw [he] at h1; injection h1 with h1; injection h1 with h1; subst h1
     rw [ho] at h2; injection h2 with h2; subst h2
     rw [hv] at h3; injection h3 with h3; subst h3
     exact hden
   · rw [hgi] at h1; injection h1 with h1; injection h1 with h1; subst h1
     refine ⟨(hD e he).1, fun o' h2 => ?_⟩
     rw [ho] at h2; injection h2 with h2; subst h2
     have hK := hK.mono hp
     exact ⟨fun a b es'' rows'' hk => hK.sat a b es'' rows'' (XB hk).1, fun a b a' b' y y' u u' k h1 h2 => hK.ne a b a' b' y y' u u' k (XB h1).1 (XB h2).1⟩
 have back : ∀ j g, lkp j O = some g → ∀ k, feet (η ++ [x]) w (.loc j) g k → feet η w (.loc j) g k := fun j g hj k f => H.stands hp hj (fun _ _ => rfl) f
 have backi : ∀ k, feet (η ++ [x]) w (.loc i) (.deep mp es (setC rs r c (.v (.sl (.loc nx) 0 es' rows.length none)))) k → feet η w (.loc i) (.deep mp es rs) k ∧ v.ownBlock ≠ some k := by
   intro k f
   rcases f.of hgi with rfl | f
   · exact ⟨feet.own he, hvg⟩
   · simp only [kid] at f
     obtain ⟨o', a, b, y, u, f1, f2, f3, f4⟩ := f
     rw [ho] at f1; injection f1 with f1; subst f1
     obtain ⟨f5, f6⟩ := XB f2
     refine ⟨⟨e, he, .inr (by simp only [kid]; exact ⟨o, a, b, y, u, ho, f5, f3, f4⟩)⟩, fun hk => f6 ?_⟩
     exact hK.ne a b r c y _ u v k f5 hkid f3 hv f4 hk
 have fnew : ∀ k, feet (η ++ [x]) w (.loc nx) (.rows es' rows) k → v.ownBlock = some k := by
   intro k f
   obtain ⟨e', f1, f2⟩ := f
   rw [Zz H.len] at f1; injection f1 with f1; subst f1
   rcases f2 with rfl | f2
   · exact hx _ rfl
   · exact f2.elim
 refine ⟨x, { pre := H.pre.trans hp, len := by simp [H.len], sok := H.sok, fr := H.fr, own := ⟨?_, ?_⟩ }⟩
 · intro j g hj
   rw [Z7] at hj
   split at hj
   · rename_i hq; subst hq; injection hj with hj; subst hj
     exact ⟨hnew, fun k f => hF k (fkid k (fnew k f))⟩
   · rw [ZN i _ O j hsome] at hj
     split at hj
     · rename_i hq; subst hq; injection hj with hj; subst hj
       exact ⟨hsi, fun k f => hF k (backi k f).1⟩
     · exact ⟨(H.own.1 j g hj).1.mono hp, fun k f => (H.own.1 j g hj).2 k (back j g hj k f)⟩
 · intro j k g g' m hj hk hne f f'
   rw [Z7] at hj hk
   rw [ZN i _ O _ hsome] at hj hk
   split at hj
   · rename_i hq; subst hq; injection hj with hj; subst hj
     rw [if_neg (Ne.symm hne)] at hk
     have f := fnew m f
     split at hk
     · rename_i hq; subst hq; injection hk with hk; subst hk
       exact (backi m f').2 f
     · rename_i hki
       exact H.own.2 i k _ g' m hi hk (Ne.symm hki) (fkid m f) (back k g' hk m f')
   · split at hk
     · rename_i hq; subst hq; injection hk with hk; subst hk
       have f' := fnew m f'
       split at hj
       · rename_i hq; subst hq; injection hj with hj; subst hj
         exact (backi m f).2 f'
       · rename_i hji
         exact H.own.2 i j _ g m hi hj (Ne.symm hji) (fkid m f') (back j g hj m f)
     · split at hj
       · rename_i hq; subst hq; injection hj with hj; subst hj
         rw [if_neg (Ne.symm hne)] at hk
         exact H.own.2 j k _ g' m hi hk hne (backi m f).1 (back k g' hk m f')
       · split at hk
         · rename_i hq; subst hq; injection hk with hk; subst hk
           exact H.own.2 j k g _ m hj hi hne (back j g hj m f) (backi m f').1
         · exact H.own.2 j k g g' m hj hk hne (back j g hj m f) (back k g' hk m f')
theorem HeapOK.putk (H : HeapOK M η w O nx) {i : Nat} {mp : Bool} {es : Nat} {rs : List (List DC)} (hi : lkp i O = some (.deep mp es rs)) {r c k es' n : Nat} {row : List DC} {rows : List (List SV)} (hr : rs[r]? = some row) (hc : row[c]? = some (.v (.sl (.loc k) 0 es' n none)))
   (hk : lkp k O = some (.rows es' rows)) (hn : n ≤ rows.length) (hki : k ≠ i) : HeapOK M η w (delK k (setK i (.deep mp es (setC rs r c (.kid es' (rows.take n)))) O)) nx := by
 obtain ⟨hsat, hF⟩ := H.own.1 i _ hi
 obtain ⟨hsk, hFk⟩ := H.own.1 k _ hk
 obtain ⟨e, o, v, he, ho, hv, hdv, hK⟩ := V2 hsat hr hc
 obtain ⟨_, hD, h0⟩ := hsat.deep_ent
 have hsome : (lkp i O).isSome := by rw [hi]; rfl
 have hks : KidSat η w v es' (rows.take n) ∧ ∀ g, v.ownBlock = some g → feet η w (.loc k) (.rows es' rows) g := by
   simp only [ZY, Den] at hdv
   simp only [HpSat] at hsk
   rcases hdv with ⟨h1, rfl, rfl⟩ | ⟨en, q, h1, rfl, h3, h4, h5⟩
   · exact ⟨.inl ⟨rfl, by simp⟩, fun g h => by cases h⟩
   · rcases hsk with ⟨h6, _⟩ | ⟨en', arr, T, fz, h6, h7, h8, h9⟩
     · rw [h1] at h6; cases h6
     rw [h1] at h6; injection h6 with h6; injection h6 with h6; subst h6
     obtain ⟨g1, g2, g3, g4⟩ := h8 trivial
     have hq := h5 (.inr trivial)
     rw [g4] at hq h9
     simp only [Nat.zero_mul, Nat.add_zero] at hq
     subst hq
     have hl : (rows.take n).length = n := by rw [List.length_take]; omega
     refine ⟨.inr ⟨en.g, en.cap, arr, T, fz, by rw [hl]; simp, h7, g1, g2, by rw [hl]; omega, fun j q hj => ?_⟩, fun g h => ?_⟩
     · rw [List.getElem?_take] at hj
       split at hj
       · exact h9 j q hj
       · cases hj
     · simp only [Value.ownBlock, Option.some.injEq] at h
       subst h
       exact feet.own h1
 obtain ⟨hks, hvf⟩ := hks
 have hnokid : Yk rs r c = none := by
   cases hq : Yk rs r c with
   | none => rfl
   | some x =>
     obtain ⟨a, b⟩ := x
     obtain ⟨row', q1, q2⟩ := kidAt_some.1 hq
     rw [hr] at q1; injection q1 with q1; subst q1
     rw [hc] at q2; cases q2
 have foot : ∀ a b y u g, Yk rs a b = some y → ZF o es a b = some u → u.ownBlock = some g → feet η w (.loc i) (.deep mp es rs) g := fun a b y u g h1 h2 h3 => ⟨e, he, .inr (by simp only [kid]; exact ⟨o, a, b, y, u, ho, h1, h2, h3⟩)⟩
 have hvg : v.ownBlock ≠ some e.g := fun h => H.own.2 k i _ _ e.g hk hi hki (hvf _ h) (feet.own he)
 have hsi : HpSat η w true (.loc i) (.deep mp es (setC rs r c (.kid es' (rows.take n)))) := by
   refine HpSat.deep_of (UC (dc := .kid es' (rows.take n)) hsat List.prefix_rfl fun _ _ _ _ _ _ => trivial) h0 fun e' h1 => ?_
   rw [he] at h1; injection h1 with h1; injection h1 with h1; subst h1
   refine ⟨(hD e he).1, fun o' h2 => ?_⟩
   rw [ho] at h2; injection h2 with h2; subst h2
   refine ⟨fun a b es'' rows'' hkd => ?_, fun a b a' b' y y' u u' g h1 h2 h3 h4 h5 h6 => ?_⟩
   · rcases YO hkd with h | ⟨rfl, rfl, h⟩
     · exact hK.sat a b _ _ h
     · injection h with q1 q2
       subst q1 q2
       exact ⟨v, hv, hks, hvg⟩
   · rcases YO h1 with q | ⟨rfl, rfl, q⟩
     · rcases YO h2 with q' | ⟨rfl, rfl, q'⟩
       · exact hK.ne a b a' b' y y' u u' g q q' h3 h4 h5 h6
       · rw [hv] at h4; injection h4 with h4; subst h4
         exact (H.own.2 k i _ _ g hk hi hki (hvf _ h6) (foot a b y u g q h3 h5)).elim
     · rcases YO h2 with q' | ⟨rfl, rfl, q'⟩
       · rw [hv] at h3; injection h3 with h3; subst h3
         exact (H.own.2 k i _ _ g hk hi hki (hvf _ h5) (foot a' b' y' u' g q' h4 h6)).elim
       · exact ⟨rfl, rfl⟩
 have backi : ∀ m, feet η w (.loc i) (.deep mp es (setC rs r c (.kid es' (rows.take n)))) m → feet η w (.loc i) (.deep mp es rs) m ∨ feet η w (.loc k) (.rows es' rows) m := by
   intro m f
   rcases f.of he with rfl | f
   · exact .inl (feet.own he)
   · simp only [kid] at f
     obtain ⟨o', a, b, y, u, f1, f2, f3, f4⟩ := f
     rw [ho] at f1; injection f1 with f1; subst f1
     rcases YO f2 with q | ⟨rfl, rfl, q⟩
     · exact .inl (foot a b y u m q f3 f4)
     · rw [hv] at f3; injection f3 with f3; subst f3
       exact .inr (hvf m f4)
 have aux : ∀ (j : Nat) (g : Hp), lkp j (delK k (setK i (.deep mp es (setC rs r c (.kid es' (rows.take n)))) O)) = some g → j ≠ k ∧ lkp j (setK i (.deep mp es (setC rs r c (.kid es' (rows.take n)))) O) = some g := fun j g h => by
   by_cases hj : j = k
   · subst hj; rw [YX] at h; cases h
   · exact ⟨hj, by rwa [U4 k _ j hj] at h⟩
 refine { pre := H.pre, len := H.len, sok := H.sok, fr := H.fr, own := ⟨?_, ?_⟩ }
 · intro j g hj
   replace hj := (aux j g hj).2
   rw [ZN i _ O j hsome] at hj
   split at hj
   · rename_i hq; subst hq; injection hj with hj; subst hj
     exact ⟨hsi, fun m f => (backi m f).elim (hF m) (hFk m)⟩
   · exact H.own.1 j g hj
 · intro j j' g g' m hj hj' hne f f'
   have hjk := (aux j g hj).1
   have hjk' := (aux j' g' hj').1
   replace hj := (aux j g hj).2
   replace hj' := (aux j' g' hj').2
   rw [ZN i _ O _ hsome] at hj hj'
   split at hj
   · rename_i hq; subst hq; injection hj with hj; subst hj
     rw [if_neg (Ne.symm hne)] at hj'
     rcases backi m f with f | f
     · exact H.own.2 j j' _ g' m hi hj' hne f f'
     · exact H.own.2 k j' _ g' m hk hj' (Ne.symm hjk') f f'
   · split at hj'
     · rename_i hq; subst hq; injection hj' with hj'; subst hj'
       rcases backi m f' with f' | f'
       · exact H.own.2 j j' g _ m hj hi hne f f'
       · exact H.own.2 j k g _ m hj hk hjk f f'
     · exact H.own.2 j j' g g' m hj hj' hne f f'
theorem HeapOK.nilk (H : HeapOK M η w O nx) {i : Nat} {mp : Bool} {es : Nat} {rs : List (List DC)} (hi : lkp i O = some (.deep mp es rs)) {r c es' : Nat} {row : List DC} (hr : rs[r]? = some row) (hc : row[c]? = some (.v (.val (.slice none 0 0)))) :
   HeapOK M η w (setK i (.deep mp es (setC rs r c (.kid es' []))) O) nx := by
 obtain ⟨hsat, hF⟩ := H.own.1 i _ hi
 obtain ⟨e, o, v, he, ho, hv, hdv, hK⟩ := V2 hsat hr hc
 obtain ⟨_, hD, h0⟩ := hsat.deep_ent
 have hv0 : v = .slice none 0 0 := hdv.1
 subst hv0
 have back : ∀ {a b y u g}, Yk (setC rs r c (.kid es' [])) a b = some y → ZF o es a b = some u → u.ownBlock = some g → Yk rs a b = some y := by
   intro a b y u g h1 h2 h3
   rcases YO h1 with q | ⟨rfl, rfl, q⟩
   · exact q
   · rw [hv] at h2; injection h2 with h2; subst h2; cases h3
 refine H.updF hi he (fun _ _ => rfl) rfl rfl rfl rfl ?_ (Nat.le_refl _) fun m f => ?_
 · refine HpSat.deep_of (UC (dc := .kid es' []) hsat List.prefix_rfl fun _ _ _ _ _ _ => trivial) h0 fun e' h1 => ?_
   rw [he] at h1; injection h1 with h1; injection h1 with h1; subst h1
   refine ⟨(hD e he).1, fun o' h2 => ?_⟩
   rw [ho] at h2; injection h2 with h2; subst h2
   refine ⟨fun a b es'' rows'' hkd => ?_, fun a b a' b' y y' u u' g h1 h2 h3 h4 h5 h6 => hK.ne a b a' b' y y' u u' g (back h1 h3 h5) (back h2 h4 h6) h3 h4 h5 h6⟩
   rcases YO hkd with h | ⟨rfl, rfl, h⟩
   · exact hK.sat a b _ _ h
   · injection h with q1 q2
     subst q1 q2
     exact ⟨_, hv, .inl ⟨rfl, rfl⟩, by simp [Value.ownBlock]⟩
 · rcases f.of he with rfl | f
   · exact feet.own he
   · simp only [kid] at f
     obtain ⟨o', a, b, y, u, f1, f2, f3, f4⟩ := f
     rw [ho] at f1; injection f1 with f1; subst f1
     exact ⟨e, he, .inr (by simp only [kid]; exact ⟨o, a, b, y, u, ho, back f2 f3 f4, f3, f4⟩)⟩
theorem Z0e {T : Tab} {et : TypeId} {i : Nat} {h : DC → Hp} {sv : SV} {v' : SV} {O' : Hps} {nx' : Nat} (hr : (VJ T et O i h sv).ok O nx v' O' nx') {mp : Bool} {es : Nat} {rsv : List (List DC)} {r c : Nat} {row : List DC}
   (hh : ∀ d, h d = .deep mp es (setC rsv r c d)) (hv : h (.v sv) = .deep mp es rsv) (hrow : rsv[r]? = some row) (hcell : row[c]? = some (.v sv)) (hi : (lkp i O).isSome)
   (H : HeapOK M η w (setK i (h (.v sv)) O) nx) : HeapOK M η w O' nx ∧ v' = .tup [] ∧ nx' = nx := by
 have plainCase : (Res.upd i (h (.v sv)) (.tup [])).ok O nx v' O' nx' → HeapOK M η w O' nx ∧ v' = .tup [] ∧ nx' = nx := by
   rintro ⟨rfl, rfl, rfl⟩
   exact ⟨H, rfl, rfl⟩
 have hlk : lkp i (setK i (h (.v sv)) O) = some (.deep mp es rsv) := by rw [ZN i _ O i hi, if_pos rfl, hv]
 have set2 : ∀ (a b : Hp) (O : Hps), setK i a (setK i b O) = setK i a O := by
   intro a b O
   induction O with
   | nil => rfl
   | cons p O ih =>
     obtain ⟨d, u⟩ := p
     unfold setK
     cases hb : Nat.beq i d
     · simp only [setK, hb, ih]
     · simp only [setK, hb]
 unfold VJ at hr
 split at hr
 · rename_i k r' es' n lim
   split at hr
   · split at hr
     · rename_i es'' rows hk
       split at hr
       case h_2 => exact hr.elim
       rename_i h1
       have h1 := Zk h1
       subst h1
       split at hr
       case h_2 => exact hr.elim
       rename_i h2
       have hki := Xl h2
       obtain ⟨hn, rfl, rfl, rfl⟩ := hr
       have hk' : lkp k (setK i (h (.v (.sl (.loc k) 0 es' n none))) O) = some (.rows es' rows) := by rw [ZN i _ O k hi, if_neg hki]; exact hk
       have := H.putk hlk hrow hcell hk' hn hki
       rw [set2, ← hh] at this
       exact ⟨this, rfl, rfl⟩
     · exact plainCase hr
   · exact plainCase hr
 · split at hr
   · rename_i e hs
     obtain ⟨rfl, rfl, rfl⟩ := hr
     have := H.nilk (es' := T.size e) hlk hrow hcell
     rw [set2, ← hh] at this
     exact ⟨this, rfl, rfl⟩
   · exact plainCase hr
 · exact plainCase hr
end
end Go.Sx
namespace Go.Sx
open Go
section
variable {M : Mx} {η : Env} {w : World} {O : Hps} {nx : Nat} {ρ : Operand → Value} {lk : Operand → Option SV} {v : SV} {O' : Hps} {nx' : Nat} {dst : Option Tmp} {ty : TypeId} {pos : String} {af : Array Edge} {gd : Option (Nat × Bool)}
theorem Z34 {w w' : World} (h : w'.heap = w.heap) (a : Addr) : w'.cell? a = w.cell? a := by unfold World.cell?; rw [h]
structure News (P : Program) (w : World) (η : Env) (es : Nat) (xs : List (List SV)) (m : Nat) (xv : Value) (news : List Value) : Prop where
 len : news.length = m * es
 one : ∀ u ∈ news, u.oneCell' = true
 den : DenLL η es xs news
 lenOf : ∀ w', (Builtin.lenOf xv).run P w' = .ok m w'
 first : ∀ w', w'.heap = w.heap → (Builtin.firstCells es m xv).run P w' = .ok ⟨news⟩ w'
theorem YA (A : At M η w O nx ρ lk) {es : Nat} {x : SV} {xv : Value} {xs : List (List SV)} {m : Nat} (hd : Den η x xv) (h : Z18 M.C O es x = some (xs, m)) (hl : xs.length = m) : ∃ news, News M.P w η es xs m xv news := by
 unfold Z18 at h
 split at h
 · rename_i b r es' len lim
   split at h
   case h_2 => cases h
   rename_i es'' rs hh
   split at h
   case h_2 => cases h
   rename_i h1
   split at h
   case h_2 => cases h
   rename_i h2
   have h1 := Zk h1
   have h2 := Zk h2
   subst h1 h2
   simp only [Option.some.injEq, Prod.mk.injEq] at h
   obtain ⟨rfl, rfl⟩ := h
   have hsat := A.H.look hh
   simp only [HpSat] at hsat
   simp only [Den] at hd
   rcases hd with ⟨q1, rfl, q3⟩ | ⟨en, o, q1, rfl, q3, q4, q5⟩
   · subst q3
     refine ⟨[], by simp, by simp, by simp [DenLL], fun w' => rfl, fun w' _ => rfl⟩
   · by_cases h0 : len = 0
     · subst h0
       refine ⟨[], by simp, by simp, by simp [DenLL], fun w' => rfl, fun w' _ => ?_⟩
       simp [Builtin.firstCells, loadCells, loadCellsFrom]
     · rcases hsat with ⟨q6, rfl⟩ | ⟨en', arr, T, fz, q6, q7, _, q8⟩
       · rw [q1] at q6; cases q6
       rw [q1] at q6; injection q6 with q6; injection q6 with q6; subst q6
       have q8' : ∀ (i : Nat) (row : List SV), ((rs.drop r).take len)[i]? = some row → row.length = es ∧ CellsAt η arr (en.base + r * es + i * es) row := by
         intro i row hi
         rw [List.getElem?_take] at hi
         split at hi
         · rw [List.getElem?_drop] at hi
           obtain ⟨p1, p2⟩ := q8 _ row hi
           refine ⟨p1, ?_⟩
           rw [show en.base + r * es + i * es = en.base + (r + i) * es by rw [Nat.add_mul]; omega]
           exact p2
         · cases hi
       obtain ⟨p1, p2, p3⟩ := Z4a q8'
       rw [hl] at p1 p2 p3
       have ho := q5 (by omega)
       subst ho
       refine ⟨_, p2, p3, p1, fun w' => rfl, fun w' hw' => ?_⟩
       have hcell : ∀ j u, ((arr.toList.drop (en.base + r * es)).take (len * es))[j]? = some u → w'.cell? ((⟨en.g, en.base + r * es, none⟩ : Addr).add j) = some u := by
         intro j u hj
         rw [List.getElem?_take] at hj
         split at hj
         · rw [List.getElem?_drop] at hj
           rw [Addr.add_lit, Z34 hw']
           simp only [World.cell?, q7]
           simpa using hj
         · cases hj
       exact run_firstCells_some (P := M.P) w' es len ⟨en.g, en.base + r * es, none⟩ len _ _ p2 hcell
 · simp only [Option.some.injEq, Prod.mk.injEq] at h
   obtain ⟨rfl, rfl⟩ := h
   rename_i p
   obtain ⟨rfl, _⟩ : xv = .slice p 0 0 ∧ _ := hd
   exact ⟨[], by simp, by simp, by simp [DenLL], fun w' => rfl, fun w' _ => by cases p <;> simp [Builtin.firstCells, loadCells, loadCellsFrom]⟩
 · rename_i s
   split at h
   case h_2 => cases h
   rename_i h1
   have h1 := Zk h1
   subst h1
   simp only [Option.some.injEq, Prod.mk.injEq] at h
   obtain ⟨rfl, rfl⟩ := h
   have hd' := UQ hd
   clear hd
   subst hd'
   refine ⟨s.map fun b => .int .u8 (b.toNat : Int), by simp, ?_, ?_, fun w' => ?_, fun w' _ => ?_⟩
   · intro u hu
     obtain ⟨b, _, rfl⟩ := List.mem_map.1 hu
     rfl
   · clear hl
     induction s with
     | nil => simp [DenLL]
     | cons b s ih =>
       simp only [List.map_cons, DenLL]
       exact ⟨[.int .u8 (b.toNat : Int)], _, rfl, rfl, by simp [bytesRow, DenL, Den], ih⟩
   · simp [Builtin.lenOf, J8]
   · have : (ByteArray.mk s.toArray).extract 0 s.length = ⟨s.toArray⟩ := by rw [Jj]; simp
     simp [Builtin.firstCells, this]
 · cases h
theorem UW {es : Nat} : ∀ {rs qs : List (List SV)} {us vs : List Value}, DenLL η es rs us → DenLL η es qs vs → DenLL η es (rs ++ qs) (us ++ vs)
 | [], qs, us, vs, h, k => by simp only [DenLL] at h; subst h; exact k
 | r :: rs, qs, us, vs, h, k => by
   simp only [DenLL] at h
   obtain ⟨a, b, rfl, h1, h2, h3⟩ := h
   simp only [List.cons_append, DenLL, List.append_assoc]
   exact ⟨a, _, rfl, h1, h2, UW h3 k⟩
theorem U7 {arr : Array Value} {es r cap : Nat} {rs xs : List (List SV)} {us : List Value} (hsz : arr.size = cap * es) (hfits : r + xs.length ≤ cap) (hrr : r ≤ rs.length)
   (hr : ∀ (i : Nat) (row : List SV), rs[i]? = some row → row.length = es ∧ CellsAt η arr (0 + i * es) row) (hd : DenLL η es xs us) (h1 : ∀ u ∈ us, u.oneCell' = true) :
   r * es + us.length ≤ arr.size ∧
   ∀ (i : Nat) (q : List SV), (rs.take r ++ xs ++ rs.drop (r + xs.length))[i]? = some q → q.length = es ∧ CellsAt η (arr.toList.take (r * es) ++ us ++ arr.toList.drop (r * es + us.length)).toArray (0 + i * es) q := by
 have hl := XI hd
 have hfit : r * es + us.length ≤ arr.size := by
   have : (r + xs.length) * es ≤ cap * es := Nat.mul_le_mul_right _ hfits
   rw [Nat.add_mul] at this; omega
 refine ⟨hfit, ?_⟩
 intro i q hi
 have ht : (rs.take r).length = r := by rw [List.length_take]; omega
 rw [List.append_assoc] at hi
 by_cases hir : i < r
 · rw [List.getElem?_append_left (by omega), List.getElem?_take, if_pos hir] at hi
   obtain ⟨p1, p2⟩ := hr i q hi
   refine ⟨p1, UB (o := 0 + i * es) p2 p1 hfit (.inl ?_)⟩
   have : (i + 1) * es ≤ r * es := Nat.mul_le_mul_right _ hir
   rw [Nat.succ_mul] at this; omega
 · rw [List.getElem?_append_right (by omega), ht] at hi
   by_cases hix : i - r < xs.length
   · rw [List.getElem?_append_left hix] at hi
     obtain ⟨p1, p2⟩ := Yv hd h1 (i - r) q hi
     refine ⟨p1, fun j sv hj => ?_⟩
     obtain ⟨u, p3, p4, p5⟩ := p2 j sv hj
     refine ⟨u, ?_, p4, p5⟩
     have hlt := (Array.getElem?_eq_some_iff.1 p3).1
     have hut : (arr.toList.take (r * es)).length = r * es := by rw [List.length_take]; simp; omega
     have hi' : i * es = r * es + (i - r) * es := by rw [← Nat.add_mul]; congr 1; omega
     simp only [List.append_assoc, List.getElem?_toArray]
     rw [List.getElem?_append_right (by omega), hut, List.getElem?_append_left (by simp at hlt; omega)]
     rw [show 0 + i * es + j - r * es = 0 + (i - r) * es + j by omega]
     simpa using p3
   · rw [List.getElem?_append_right (by omega), List.getElem?_drop] at hi
     rw [show r + xs.length + (i - r - xs.length) = i by omega] at hi
     obtain ⟨p1, p2⟩ := hr i q hi
     refine ⟨p1, UB (o := 0 + i * es) p2 p1 hfit (.inr ?_)⟩
     have : (r + xs.length) * es ≤ i * es := Nat.mul_le_mul_right _ (by omega)
     rw [Nat.add_mul] at this; omega
theorem Z5L {need old : Nat} (h : old < need) : Builtin.nextslicecap need old ≤ need + need / 4 + 192 := by
 unfold Builtin.nextslicecap
 split
 · omega
 · split
   · omega
   · rw [growBy_four]
     (repeat' split) <;> omega
theorem U8 {need old bytes : Nat} (h : old < need) (hb : min (2 * need) (need + need / 4 + 192) * bytes ≤ 281474976710656) : Builtin.nextslicecap need old * bytes ≤ 281474976710656 :=
 Nat.le_trans (Nat.mul_le_mul_right _ (Nat.le_min.2 ⟨nextslicecap_le h, Z5L h⟩)) hb
theorem Z4Y {k b : Nat} (h : k * b ≤ 140737488355328) : min (2 * k) (k + k / 4 + 192) * b ≤ 281474976710656 :=
 Nat.le_trans (Nat.mul_le_mul_right _ (Nat.min_le_left _ _)) (by rw [Nat.mul_assoc]; omega)
theorem Z4c {P : Program} {w : World} {t u e : TypeId} {i : TypeInfo} {z : Value} {ty : TypeId} {base : Option Addr} {n cap m : Nat} {xv : Value} {olds news : List Value} (ht : P.underlying t = some (.slice e)) (hu : (∃ q, P.underlying u = some (.slice q)) ∨ P.underlying u = some .string) (hi : P.info? e = some i) (hz : i.zero = some z)
   (hn : ∀ w', (Builtin.lenOf xv).run P w' = .ok m w') (hf : ∀ w', w'.heap = w.heap → (Builtin.firstCells i.size m xv).run P w' = .ok ⟨news⟩ w') (ho : ∀ w', w'.heap = w.heap → (Builtin.firstCells i.size n (.slice base n cap)).run P w' = .ok ⟨olds⟩ w')
   (hroom : cap < n + m) (h63 : n + m ≤ 9223372036854775807) (hbytes : min (2 * (n + m)) ((n + m) + (n + m) / 4 + 192) * i.bytes ≤ 281474976710656) :
   (Builtin.append_ #[t, u] ty #[.slice base n cap, xv]).run P w = .ok (.slice (some ⟨w.heap.size, 0, none⟩) (n + m) (grownCap w (n + m) cap e))
     (w.drew.alloc (.cells ⟨olds ++ news ++ (Builtin.zeroCells z.cells (grownCap w (n + m) cap e - (n + m))).toList⟩ e)) := by
 have hcap := U8 hroom hbytes
 have h1 : ¬ (n + m ≤ cap) := by omega
 have h2 : ¬ (9223372036854775807 < ((n : Int) + (m : Int))) := by omega
 have h3 : ¬ (281474976710656 < Builtin.nextslicecap (n + m) cap * i.bytes) := by omega
 have hd1 := hf w.drew rfl
 have hd2 := ho w.drew rfl
 have harr : (Array.mk olds ++ Array.mk news ++ Builtin.zeroCells z.cells (grownCap w (n + m) cap e - (n + m))) = ⟨olds ++ news ++ (Builtin.zeroCells z.cells (grownCap w (n + m) cap e - (n + m))).toList⟩ := by
   apply Array.ext'; simp
 have hdraw : (choose (.appendCap (n + m) cap e)).run P w = .ok (grownCap w (n + m) cap e) w.drew := by
   simp [grownCap, Question.forced]
 rw [← harr]
 rcases hu with ⟨q, hu⟩ | hu
 · simp [Builtin.append_, Z4 ht, Z4 hu, Zj hi, Vj hi, YY hi hz, hn, h1, h2, h3, hd1, hd2, newRow, Question.forced, grownCap]
   try (congr 2; apply Array.ext'; simp)
 · simp [Builtin.append_, Z4 ht, Z4 hu, Zj hi, Vj hi, YY hi hz, hn, h1, h2, h3, hd1, hd2, newRow, Question.forced, grownCap]
   try (congr 2; apply Array.ext'; simp)
theorem Z0f {P : Program} {w : World} {t u e : TypeId} {i : TypeInfo} {ty : TypeId} {g n cap m : Nat} {arr : Array Value} {tt : TypeId} {fz : Nat × Nat} {xv : Value} {news : List Value} (ht : P.underlying t = some (.slice e)) (hu : (∃ q, P.underlying u = some (.slice q)) ∨ P.underlying u = some .string) (hi : P.info? e = some i)
   (hn : ∀ w', (Builtin.lenOf xv).run P w' = .ok m w') (hf : ∀ w', w'.heap = w.heap → (Builtin.firstCells i.size m xv).run P w' = .ok ⟨news⟩ w')
   (hg : w.heap[g]? = some (.cells arr tt fz)) (huf : XV arr.size fz) (h1 : ∀ u ∈ news, u.oneCell' = true) (hroom : n + m ≤ cap) (hfit : n * i.size + news.length ≤ arr.size) :
   (Builtin.append_ #[t, u] ty #[.slice (some ⟨g, 0, none⟩) n cap, xv]).run P w = .ok (.slice (some ⟨g, 0, none⟩) (n + m) cap) (w.setRow g (arr.toList.take (n * i.size) ++ news ++ arr.toList.drop (n * i.size + news.length)).toArray) := by
 have hd1 := hf w rfl
 have hst := Yo (P := P) g (n * i.size) tt fz news 0 arr w hg (by simpa using hfit) huf h1
 simp only [Nat.add_zero] at hst
 have hadd : (⟨g, 0, none⟩ : Addr).add (n * i.size) = ⟨g, n * i.size, none⟩ := by rw [Addr.add_lit, Nat.zero_add]
 rcases hu with ⟨q, hu⟩ | hu
 · simp [Builtin.append_, Z4 ht, Z4 hu, Zj hi, hn, hroom, hd1, hadd, hst]
 · simp [Builtin.append_, Z4 ht, Z4 hu, Zj hi, hn, hroom, hd1, hadd, hst]
theorem Z0g {P : Program} {w : World} {t u e : TypeId} {i : TypeInfo} {ty : TypeId} {xv : Value} (ht : P.underlying t = some (.slice e)) (hu : (∃ q, P.underlying u = some (.slice q)) ∨ P.underlying u = some .string) (hi : P.info? e = some i)
   (hn : ∀ w', (Builtin.lenOf xv).run P w' = .ok 0 w') (hf : ∀ w', w'.heap = w.heap → (Builtin.firstCells i.size 0 xv).run P w' = .ok ⟨[]⟩ w') :
   (Builtin.append_ #[t, u] ty #[.slice none 0 0, xv]).run P w = .ok (.slice none 0 0) w := by
 have hd1 := hf w rfl
 rcases hu with ⟨q, hu⟩ | hu
 · simp [Builtin.append_, Z4 ht, Z4 hu, Zj hi, hn, hd1]
 · simp [Builtin.append_, Z4 ht, Z4 hu, Zj hi, hn, hd1]
theorem Z0h {η : Env} {es : Nat} {z : List SV} {zs : List Value} (hz : DenL η z zs) (hl : zs.length = es) : ∀ n, DenLL η es (List.replicate n z) (YT zs n)
 | 0 => by simp [DenLL, YT]
 | n + 1 => by
   rw [List.replicate_succ, Z1r]
   simp only [DenLL]
   exact ⟨zs, YT zs n, rfl, hl, hz, Z0h hz hl n⟩
theorem Z35 {P : Program} {w : World} {t u e : TypeId} {i : TypeInfo} {z : Value} {ty : TypeId} {k kk : IntKind} {n : Int} (ht : P.underlying t = some (.slice e)) (hu : P.underlying u = some (.int k)) (hi : P.info? e = some i) (hz : i.zero = some z) (hs : 0 < i.size)
   (h0 : 0 < n) (h63 : n ≤ 9223372036854775807) (hby : n.toNat * i.bytes ≤ 140737488355328) :
   (Builtin.append_ #[t, u] ty #[.slice none 0 0, .int kk n]).run P w = .ok (.slice (some ⟨w.heap.size, 0, none⟩) n.toNat (grownCap w n.toNat 0 e))
     (w.drew.alloc (.cells ⟨(Builtin.zeroCells z.cells n.toNat).toList ++ (Builtin.zeroCells z.cells (grownCap w n.toNat 0 e - n.toNat)).toList⟩ e)) := by
 obtain ⟨m, rfl⟩ : ∃ m : Nat, n = (m : Int) := ⟨n.toNat, by omega⟩
 simp only [Int.toNat_natCast] at hby ⊢
 have hw : IntKind.i64.wrap (m : Int) = m := IntWalk.i64_in _ ⟨by omega, by omega⟩
 have hcap := U8 (need := m) (old := 0) (bytes := i.bytes) (by omega) (Z4Y hby)
 have h1 : ¬ (281474976710656 < (m : Int) * (i.bytes : Int)) := by rw [← Int.natCast_mul]; omega
 have h2 : ¬ (281474976710656 < Builtin.nextslicecap m 0 * i.bytes) := by omega
 have h3 : ¬ m = 0 := by omega
 have h4 : ¬ i.size = 0 := by omega
 have h7 : ¬ m * i.size = 0 := Nat.mul_ne_zero h3 h4
 have h5 : ¬ (9223372036854775807 < (m : Int)) := by omega
 have h6 : ¬ ((m : Int) < 0) := by omega
 simp [Builtin.append_, Z4 ht, Z4 hu, Zj hi, Vj hi, YY hi hz, asInt, asIntOf, hw, h1, h2, h3, h4, h5, h6, h7, newRow, Question.forced, grownCap, Builtin.firstCells]
 try (congr 2; apply Array.ext'; simp)
theorem Z22 {P : Program} {w : World} {t u e : TypeId} {i : TypeInfo} {ty : TypeId} {k kk : IntKind} (ht : P.underlying t = some (.slice e)) (hu : P.underlying u = some (.int k)) (hi : P.info? e = some i) :
   (Builtin.append_ #[t, u] ty #[.slice none 0 0, .int kk 0]).run P w = .ok (.slice none 0 0) w := by
 have hw : IntKind.i64.wrap 0 = 0 := IntWalk.i64_in _ ⟨by omega, by omega⟩
 simp [Builtin.append_, Z4 ht, Z4 hu, Zj hi, Vj hi, asInt, asIntOf, hw]
theorem Z4Z {P : Program} {nx es : Nat} {t u e : TypeId} {ie : TypeInfo} {z sv xv : Value} {base : Option Addr} {n cap m b : Nat} {olds news : List Value} {rs xs : List (List SV)} (hη : η.length = nx) (hd : P.underlying t = some (.slice e)) (hu : (∃ q, P.underlying u = some (.slice q)) ∨ P.underlying u = some .string) (h1 : P.info? e = some ie) (h2 : ie.zero = some z) (hies : ie.size = es) (hieb : ie.bytes = b) (hzl : z.cells.size = es)
   (hsv : sv = .slice base n cap) (N : News P w η es xs m xv news) (hroom : cap < n + m) (h63 : n + m ≤ 9223372036854775807) (hby : min (2 * (n + m)) ((n + m) + (n + m) / 4 + 192) * b ≤ 281474976710656)
   (ho : ∀ w', w'.heap = w.heap → (Builtin.firstCells es n (.slice base n cap)).run P w' = .ok ⟨olds⟩ w') (hol : DenLL η es rs olds) (ho1 : ∀ u ∈ olds, u.oneCell' = true) (hrl : rs.length = n) (hxl : xs.length = m) :
   ∃ z' w' cap' arr T fz, (Builtin.append_ #[t, u] ty #[sv, xv]).run P w = .ok z' w' ∧ w'.heap = w.heap.push (.cells arr T fz) ∧ (w'.os = w.os ∧ w'.tape = w.tape ∧ w'.output = w.output ∧ w.drawn ≤ w'.drawn) ∧
     Den (η ++ [some ⟨w.heap.size, 0, cap'⟩]) (.sl (.loc nx) 0 es (n + m) none) z' ∧ RowsSat (η ++ [some ⟨w.heap.size, 0, cap'⟩]) w' true (.loc nx) es (rs ++ xs) ∧ ∀ (k : Nat) u, olds[k]? = some u → arr[k]? = some u := by
 have hge := grownCap_ge w (n + m) cap e
 have hrun := Z4c (P := P) (ty := ty) (base := base) (i := ie) hd hu h1 h2 N.lenOf (by rw [hies]; exact N.first) (by rw [hies]; exact ho) hroom h63 (by rw [hieb]; exact hby)
 rw [← hsv] at hrun
 have hLL := UW hol N.den
 have hlen := XI hLL
 have hone : ∀ u ∈ olds ++ news, u.oneCell' = true := by
   intro u hu; rcases List.mem_append.1 hu with hu | hu
   · exact ho1 u hu
   · exact N.one u hu
 have hra := Yv hLL hone
 refine ⟨_, _, grownCap w (n + m) cap e, _, e, (0, 0), hrun, rfl, ⟨rfl, rfl, rfl, Nat.le_succ _⟩, V0 hη hge, ?_, fun k u hk => ?_⟩
 · right
   have hszz : (olds ++ news ++ (Builtin.zeroCells z.cells (grownCap w (n + m) cap e - (n + m))).toList).length = grownCap w (n + m) cap e * es := by
     rw [List.length_append, hlen, List.length_append, hrl, hxl, Array.length_toList, size_zeroCells, hzl, ← Nat.add_mul]
     congr 1; omega
   refine ⟨_, _, e, (0, 0), Zz hη _, Y4 (w := w) (w' := w.drew.alloc _) rfl, fun _ => ⟨Vk _, hszz, ?_, rfl⟩, ?_⟩
   · rw [List.length_append, hrl, hxl]; exact hge
   · intro k row hk
     obtain ⟨p1, p2⟩ := hra k row hk
     refine ⟨p1, fun j sv' hj => ?_⟩
     obtain ⟨y, p3, p4, p5⟩ := p2 j sv' hj
     refine ⟨y, ?_, p4, p5.mono (List.prefix_append _ _)⟩
     have hlt := (Array.getElem?_eq_some_iff.1 p3).1
     simp only [List.getElem?_toArray]
     rw [List.getElem?_append_left (by simpa using hlt)]
     simpa using p3
 · have hlt := (List.getElem?_eq_some_iff.1 hk).1
   simp only [List.getElem?_toArray, List.append_assoc]
   rw [List.getElem?_append_left hlt]
   exact hk
structure Grown (η : Env) (w : World) (i es n : Nat) (w' : World) (x : Option Ent) : Prop where
 os : w'.os = w.os
 tape : w'.tape = w.tape
 output : w'.output = w.output
 drawn : w.drawn ≤ w'.drawn
 size : w.heap.size ≤ w'.heap.size
 hold : ∀ k, k < w.heap.size → (∀ e, η[i]? = some (some e) → e.g ≠ k) → w'.heap[k]? = w.heap[k]?
 blk : ∀ e, x = some e → e.base = 0 ∧ (η[i]? = some (some e) ∨ e.g = w.heap.size)
 cells : ∀ e o a b, x = some e → w'.heap[e.g]? = some o → a < n → b < es → ∃ e0 o0, η[i]? = some (some e0) ∧ w.heap[e0.g]? = some o0 ∧ ZF o es a b = ZF o0 es a b
theorem HeapOK.moved (H : HeapOK M η w O nx) {i es n : Nat} {h h' : Hp} (hi : lkp i O = some h) {w' : World} {x : Option Ent} (G : Grown η w i es n w' x) (hs : HpSat (η ++ [x]) w' true (.loc nx) h')
   (hf : ∀ k, feet (η ++ [x]) w' (.loc nx) h' k → feet η w (.loc i) h k ∨ w.heap.size ≤ k) : HeapOK M (η ++ [x]) w' ((nx, h') :: delK i O) (nx + 1) := by
 have hpre : η <+: η ++ [x] := List.prefix_append _ _
 have hold : ∀ k, k < w.heap.size → ¬ feet η w (.loc i) h k → w'.heap[k]? = w.heap[k]? := fun k hk hn => G.hold k hk fun e he hek => hn (hek ▸ feet.own he)
 have back : ∀ {j g}, lkp j (delK i O) = some g → j ≠ i ∧ lkp j O = some g := fun {j g} hj => by
   have hne : j ≠ i := fun e => by subst e; rw [YX] at hj; cases hj
   exact ⟨hne, by rw [← U4 i O j hne]; exact hj⟩
 have keep : ∀ {j g}, lkp j (delK i O) = some g → ∀ k, feet η w (.loc j) g k → w'.heap[k]? = w.heap[k]? := fun {j g} hj k f => hold k ((H.own.1 j g (back hj).2).1.feet_lt f) fun f' => H.own.2 j i g h k (back hj).2 hi (back hj).1 f f'
 have bk : ∀ {j g}, lkp j (delK i O) = some g → ∀ k, feet (η ++ [x]) w' (.loc j) g k → feet η w (.loc j) g k := fun {j g} hj k f => H.stands hpre (back hj).2 (keep hj) f
 refine { pre := H.pre.trans hpre, len := by simp [H.len], sok := H.sok, own := ⟨fun j g hj => ?_, fun j j' g g' k hj hj' hne f f' => ?_⟩, fr := ⟨G.os.trans H.fr.os, G.tape.trans H.fr.tape, G.output.trans H.fr.output, Nat.le_trans H.fr.drawn G.drawn, Nat.le_trans H.fr.size G.size, fun k hk hF => ?_⟩ }
 · rw [Z7] at hj
   split at hj
   · rename_i hq; subst hq; injection hj with hj; subst hj
     refine ⟨hs, fun k f => (hf k f).elim (fun f => (H.own.1 i h hi).2 k f) fun hk => .inr (Nat.le_trans H.fr.size hk)⟩
   · exact ⟨((H.own.1 j g (back hj).2).1.keep (keep hj)).mono hpre, fun k f => (H.own.1 j g (back hj).2).2 k (bk hj k f)⟩
 · have other : ∀ {a g}, lkp a (delK i O) = some g → feet (η ++ [x]) w' (.loc a) g k → feet (η ++ [x]) w' (.loc nx) h' k → False := fun {a g} ha f f' => by
     have f := bk ha k f
     rcases hf k f' with f' | hk
     · exact H.own.2 a i g h k (back ha).2 hi (back ha).1 f f'
     · have := (H.own.1 a g (back ha).2).1.feet_lt f; omega
   rw [Z7] at hj hj'
   split at hj
   · rename_i hq; subst hq; injection hj with hj; subst hj
     rw [if_neg (Ne.symm hne)] at hj'
     exact other hj' f' f
   · split at hj'
     · rename_i hq; subst hq; injection hj' with hj'; subst hj'
       exact other hj f f'
     · exact H.own.2 j j' g g' k (back hj).2 (back hj').2 hne (bk hj k f) (bk hj' k f')
 · rw [hold k (Nat.lt_of_lt_of_le hk H.fr.size) fun f => ?_]
   · exact H.fr.block k hk hF
   · rcases (H.own.1 i h hi).2 k f with h | h
     · exact hF h
     · omega
theorem Z6T {a b n es : Nat} (ha : a < n) (hb : b < es) : a * es + b < n * es := by
 have := Nat.mul_le_mul_right es (show a + 1 ≤ n from ha)
 rw [Nat.succ_mul] at this; omega
theorem Z36 {P : Program} {i es : Nat} {t u e : TypeId} {ie : TypeInfo} {z sv xv : Value} {n m b : Nat} {news : List Value} {rs xs : List (List SV)} (hη : η.length = nx) (hd : P.underlying t = some (.slice e)) (hu : (∃ q, P.underlying u = some (.slice q)) ∨ P.underlying u = some .string) (h1 : P.info? e = some ie) (h2 : ie.zero = some z) (hies : ie.size = es) (hieb : ie.bytes = b) (hzl : z.cells.size = es)
   (hsd : Den η (.sl (.loc i) 0 es n none) sv) (hsat : RowsSat η w true (.loc i) es rs) (N : News P w η es xs m xv news) (q1 : xs.length = m) (q2 : n ≤ rs.length) (q3 : n + m ≤ 9223372036854775807) (q4 : min (2 * (n + m)) ((n + m) + (n + m) / 4 + 192) * b ≤ 281474976710656) :
   ∃ z' w' x, (Builtin.append_ #[t, u] ty #[sv, xv]).run P w = .ok z' w' ∧ Den (η ++ [x]) (.sl (.loc nx) 0 es (n + m) none) z' ∧ RowsSat (η ++ [x]) w' true (.loc nx) es (rs.take n ++ xs) ∧ Grown η w i es n w' x := by
 have newarr : ∀ {base : Option Addr} {cap : Nat} {olds : List Value} {rs : List (List SV)}, sv = .slice base n cap → cap < n + m → (∀ w', w'.heap = w.heap → (Builtin.firstCells es n (.slice base n cap)).run P w' = .ok ⟨olds⟩ w') → DenLL η es rs olds → (∀ u ∈ olds, u.oneCell' = true) → rs.length = n →
     (∀ a b, a < n → b < es → ∃ e0 o0 v, η[i]? = some (some e0) ∧ w.heap[e0.g]? = some o0 ∧ ZF o0 es a b = some v ∧ olds[a * es + b]? = some v) →
     ∃ z' w' x, (Builtin.append_ #[t, u] ty #[sv, xv]).run P w = .ok z' w' ∧ Den (η ++ [x]) (.sl (.loc nx) 0 es (n + m) none) z' ∧ RowsSat (η ++ [x]) w' true (.loc nx) es (rs ++ xs) ∧ Grown η w i es n w' x := by
   intro base cap olds rs hsv hroom ho hol ho1 hrl hc
   obtain ⟨z', w', cap', arr, T, fz, p1, p2, ⟨p3, p4, p5, p6⟩, p7, p8, p9⟩ := Z4Z (ty := ty) hη hd hu h1 h2 hies hieb hzl hsv N hroom q3 q4 ho hol ho1 hrl q1
   refine ⟨z', w', _, p1, p7, p8, ⟨p3, p4, p5, p6, by rw [p2]; simp, fun k hk _ => ?_, fun e he => ?_, fun e o a b he ho ha hb => ?_⟩⟩
   · rw [p2, Array.getElem?_push, if_neg (by omega)]
   · injection he with he; subst he; exact ⟨rfl, .inr rfl⟩
   · injection he with he; subst he
     rw [Y4 p2] at ho; injection ho with ho; subst ho
     obtain ⟨e0, o0, v, g1, g2, g3, g4⟩ := hc a b ha hb
     exact ⟨e0, o0, g1, g2, by rw [g3]; exact p9 _ _ g4⟩
 have none0 : m = 0 → xs = [] ∧ news = [] := fun hm0 => by
   subst hm0
   exact ⟨List.length_eq_zero_iff.1 q1, by apply List.length_eq_zero_iff.1; rw [N.len]; omega⟩
 have still : ∀ {x : Option Ent}, (∀ e, x = some e → e.base = 0 ∧ η[i]? = some (some e)) → n = 0 → Grown η w i es n w x := fun {x} hx hn =>
   ⟨rfl, rfl, rfl, Nat.le_refl _, Nat.le_refl _, fun _ _ _ => rfl, fun e he => ⟨(hx e he).1, .inl (hx e he).2⟩, fun e o a b _ _ ha => by omega⟩
 simp only [Den, Env.get] at hsd
 unfold RowsSat at hsat
 simp only [Env.get] at hsat
 rcases hsd with ⟨p1, hsv, p3⟩ | ⟨en, o, p1, hsv, p3, p4, p5⟩
 · rcases hsat with ⟨p6, rfl⟩ | ⟨en', arr, T, fz, p6, _⟩
   case inr => rw [p1] at p6; cases p6
   subst p3
   by_cases hm0 : m = 0
   · subst hm0
     obtain ⟨rfl, rfl⟩ := none0 rfl
     have hrun := Z0g (P := P) (ty := ty) (w := w) (i := ie) hd hu h1 N.lenOf (by rw [hies]; exact N.first)
     rw [← hsv] at hrun
     exact ⟨_, w, none, hrun, Or.inl ⟨Zz hη _, hsv, rfl⟩, Or.inl ⟨Zz hη _, rfl⟩, still (fun e h => by cases h) rfl⟩
   · exact newarr (rs := []) (olds := []) hsv (by omega) (fun w' _ => rfl) (by simp [DenLL]) (by simp) rfl (fun a b ha => by omega)
 · rcases hsat with ⟨p6, _⟩ | ⟨en', arr, T, fz, p6, p7, p8, p9⟩
   · rw [p1] at p6; cases p6
   rw [p1] at p6; injection p6 with p6; injection p6 with p6; subst p6
   obtain ⟨p8u, p8s, p8c, p8b⟩ := p8 trivial
   rw [p8b] at p9
   simp only [Option.getD_none] at hsv p3 p4 p5
   have p9' : ∀ (k : Nat) (row : List SV), (rs.take n)[k]? = some row → row.length = es ∧ CellsAt η arr (0 + k * es) row := by
     intro k row hk
     rw [List.getElem?_take] at hk
     split at hk
     · exact p9 k row hk
     · cases hk
   have hrn : (rs.take n).length = n := by rw [List.length_take]; omega
   obtain ⟨g1, g2, g3⟩ := Z4a p9'
   rw [hrn] at g1 g2 g3
   by_cases hcap0 : en.cap = 0
   ·
     have hn0 : n = 0 := by omega
     subst hn0
     by_cases hm0 : m = 0
     · subst hm0
       obtain ⟨rfl, rfl⟩ := none0 rfl
       have hrun : (Builtin.append_ #[t, u] ty #[sv, xv]).run P w = .ok (.slice (some ⟨en.g, o, none⟩) 0 (en.cap - 0)) w := by
         have hd1 := N.first w rfl
         rcases hu with ⟨q, hu⟩ | hu <;> simp [hsv, Builtin.append_, Z4 hd, Z4 hu, Zj h1, N.lenOf, hies, hd1, storeCells]
       refine ⟨_, w, some en, hrun, ?_, ?_, still (fun e h => by injection h with h; subst h; exact ⟨p8b, p1⟩) rfl⟩
       · simp only [Den]
         right
         exact ⟨en, o, Zz hη _, by simp, by simp, by simp, fun _ => p5 (.inr trivial)⟩
       · exact .inr ⟨en, arr, T, fz, Zz hη _, p7, fun _ => ⟨p8u, p8s, by simp, p8b⟩, fun k row hk => by simp at hk⟩
     · exact newarr (rs := []) (olds := []) hsv (by omega) (fun w' _ => by simp [Builtin.firstCells, loadCells, loadCellsFrom]) (by simp [DenLL]) (by simp) rfl (fun a b ha => by omega)
   · have ho := p5 (.inl (by omega))
     rw [p8b] at ho
     simp only [Nat.zero_mul, Nat.add_zero] at ho
     subst ho
     by_cases hroom : n + m ≤ en.cap
     · obtain ⟨r1, r2⟩ := U7 p8s (r := n) (by omega) (by rw [hrn]; exact Nat.le_refl _) p9' N.den N.one
       have hrun := Z0f (P := P) (ty := ty) (w := w) (i := ie) (cap := en.cap) hd hu h1 N.lenOf (by rw [hies]; exact N.first) p7 p8u N.one hroom (by rw [hies]; exact r1)
       rw [show Value.slice (some ⟨en.g, 0, none⟩) n en.cap = sv by rw [hsv]; simp] at hrun
       rw [hies] at hrun
       have hsz' : (arr.toList.take (n * es) ++ news ++ arr.toList.drop (n * es + news.length)).toArray.size = arr.size := by
         simp only [List.size_toArray, List.length_append, List.length_take, List.length_drop, Array.length_toList]; omega
       have hnew := setRow_heap w en.g arr (arr.toList.take (n * es) ++ news ++ arr.toList.drop (n * es + news.length)).toArray T fz p7
       refine ⟨_, _, some en, hrun, ?_, .inr ⟨en, _, T, fz, Zz hη _, hnew, fun _ => ⟨by rw [hsz']; exact p8u, by rw [hsz']; exact p8s, by rw [List.length_append, hrn, q1]; omega, p8b⟩, fun k q hk => ?_⟩,
         ⟨rfl, rfl, rfl, Nat.le_refl _, by rw [setRow_size]; exact Nat.le_refl _, fun k _ hk => setRow_other w en.g k _ (hk en p1).symm, fun e h => by injection h with h; subst h; exact ⟨p8b, .inl p1⟩, fun e o a b he ho ha hb => ?_⟩⟩
       · simp only [Den]
         right
         exact ⟨en, 0, Zz hη _, by simp, by simpa using hroom, by simp, fun _ => by simp [p8b]⟩
       · rw [p8b]
         obtain ⟨p1, p2⟩ := r2 k q (by
           rw [List.take_take, Nat.min_self]
           rw [List.getElem?_append_left (List.getElem?_eq_some_iff.1 hk).1]
           exact hk)
         exact ⟨p1, p2.mono (List.prefix_append _ _)⟩
       · injection he with he; subst he
         rw [hnew] at ho; injection ho with ho; subst ho
         refine ⟨_, _, p1, p7, ?_⟩
         have hlt := Z6T ha hb
         simp only [ZF, List.getElem?_toArray, List.append_assoc]
         rw [List.getElem?_append_left (by rw [List.length_take, Array.length_toList]; omega), List.getElem?_take, if_pos hlt]
         simp
     · refine newarr (rs := rs.take n) hsv (by omega) (fun w' hw' => ?_) g1 g3 hrn (fun a b ha hb => ?_)
       · have hcell : ∀ j u, ((arr.toList.drop 0).take (n * es))[j]? = some u → w'.cell? ((⟨en.g, 0, none⟩ : Addr).add j) = some u := by
           intro j u hj
           rw [List.getElem?_take] at hj
           split at hj
           · rw [List.getElem?_drop] at hj
             rw [Addr.add_lit, Z34 hw']
             simp only [World.cell?, p7]
             simpa using hj
           · cases hj
         exact run_firstCells_some (P := P) w' es n ⟨en.g, 0, none⟩ n _ _ g2 hcell
       · have hlt := Z6T ha hb
         have hin : a * es + b < arr.size := by
           have : n * es ≤ en.cap * es := Nat.mul_le_mul_right _ (by omega)
           omega
         refine ⟨en, _, arr[a * es + b], p1, p7, by simp [ZF, hin], ?_⟩
         rw [List.getElem?_take, if_pos hlt]
         simp [hin]
theorem Z8N {P : Program} {i es l : Nat} {t u e : TypeId} {ie : TypeInfo} {sv xv : Value} {n m : Nat} {news : List Value} {rs xs : List (List SV)} (hd : P.underlying t = some (.slice e)) (hu : (∃ q, P.underlying u = some (.slice q)) ∨ P.underlying u = some .string) (h1 : P.info? e = some ie) (hies : ie.size = es)
   (hsd : Den η (.sl (.loc i) 0 es n (some l)) sv) (hsat : RowsSat η w true (.loc i) es rs) (N : News P w η es xs m xv news) (q1 : xs.length = m) (q0 : 0 < n) (q2 : n ≤ rs.length) (q3 : n + m ≤ l) :
   ∃ z' w' en, (Builtin.append_ #[t, u] ty #[sv, xv]).run P w = .ok z' w' ∧ Den η (.sl (.loc i) 0 es (n + m) (some l)) z' ∧ η[i]? = some (some en) ∧ (∀ k, k ≠ en.g → w'.heap[k]? = w.heap[k]?) ∧ w'.heap.size = w.heap.size ∧ w'.os = w.os ∧ w'.tape = w.tape ∧ w'.output = w.output ∧ w.drawn ≤ w'.drawn ∧
     RowsSat η w' true (.loc i) es (rs.take n ++ xs) := by
 simp only [Den, Env.get] at hsd
 unfold RowsSat at hsat
 simp only [Env.get] at hsat
 rcases hsd with ⟨p1, hsv, p3⟩ | ⟨en, o, p1, hsv, p3, p4, p5⟩
 · omega
 rcases hsat with ⟨p6, _⟩ | ⟨en', arr, T, fz, p6, p7, p8, p9⟩
 · rw [p1] at p6; cases p6
 rw [p1] at p6; injection p6 with p6; injection p6 with p6; subst p6
 obtain ⟨p8u, p8s, p8c, p8b⟩ := p8 trivial
 rw [p8b] at p9
 simp only [Option.getD_some] at hsv p3 p4 p5
 have p9' : ∀ (k : Nat) (row : List SV), (rs.take n)[k]? = some row → row.length = es ∧ CellsAt η arr (0 + k * es) row := by
   intro k row hk
   rw [List.getElem?_take] at hk
   split at hk
   · exact p9 k row hk
   · cases hk
 have hrn : (rs.take n).length = n := by rw [List.length_take]; omega
 have ho := p5 (.inr trivial)
 rw [p8b] at ho
 simp only [Nat.zero_mul, Nat.add_zero] at ho
 subst ho
 obtain ⟨r1, r2⟩ := U7 p8s (r := n) (by omega) (by rw [hrn]; exact Nat.le_refl _) p9' N.den N.one
 have hrun := Z0f (P := P) (ty := ty) (w := w) (i := ie) (cap := l) hd hu h1 N.lenOf (by rw [hies]; exact N.first) p7 p8u N.one q3 (by rw [hies]; exact r1)
 rw [show Value.slice (some ⟨en.g, 0, none⟩) n l = sv by rw [hsv]; simp] at hrun
 rw [hies] at hrun
 have hsz' : (arr.toList.take (n * es) ++ news ++ arr.toList.drop (n * es + news.length)).toArray.size = arr.size := by
   simp only [List.size_toArray, List.length_append, List.length_take, List.length_drop, Array.length_toList]; omega
 have hnew := setRow_heap w en.g arr (arr.toList.take (n * es) ++ news ++ arr.toList.drop (n * es + news.length)).toArray T fz p7
 refine ⟨_, _, en, hrun, ?_, p1, fun k hk => setRow_other w en.g k _ hk, setRow_size _ _ _, rfl, rfl, rfl, Nat.le_refl _, .inr ⟨en, _, T, fz, p1, hnew, fun _ => ⟨by rw [hsz']; exact p8u, by rw [hsz']; exact p8s, by rw [List.length_append, hrn, q1]; omega, p8b⟩, fun k q hk => ?_⟩⟩
 · simp only [Den]
   right
   exact ⟨en, 0, p1, by simp, by simpa using q3, by simpa using p4, fun _ => by simp [p8b]⟩
 · rw [p8b]
   exact r2 k q (by
     rw [List.take_take, Nat.min_self]
     rw [List.getElem?_append_left (List.getElem?_eq_some_iff.1 hk).1]
     exact hk)
theorem Z8O {T : Tab} {e : TypeId} {s : SV} {es : Nat} {rows : List (List SV)} (h : appV T e s = .kid es rows) : s = .val (.slice none 0 0) ∧ rows = [] := by
 unfold appV at h
 split at h
 · split at h
   · injection h with _ h; exact ⟨rfl, h.symm⟩
   · cases h
 · cases h
theorem Z8P {T : Tab} {e : TypeId} {s : SV} {v : Value} (h : Den η s v) : Den η (ZY (appV T e s)) v := by
 unfold appV
 split
 · split
   · simp only [ZY, Den]
   · exact h
 · exact h
theorem HeapOK.grownD (H : HeapOK M η w O nx) {i es n : Nat} {rs : List (List DC)} {xs : List (List SV)} {T : Tab} {e : TypeId} (hi : lkp i O = some (.deep false es rs)) (hn : n ≤ rs.length) {w' : World} {x : Option Ent} (G : Grown η w i es n w' x)
   (hs : RowsSat (η ++ [x]) w' true (.loc nx) es ((Zo rs).take n ++ xs)) : HeapOK M (η ++ [x]) w' ((nx, .deep false es (rs.take n ++ xs.map fun row => row.map (appV T e))) :: delK i O) (nx + 1) := by
 have hpre : η <+: η ++ [x] := List.prefix_append _ _
 obtain ⟨hsat, _⟩ := H.own.1 i _ hi
 obtain ⟨_, hD, _⟩ := hsat.deep_ent
 have hnx := Zz H.len x
 have kids : ∀ {e1 o a b y}, x = some e1 → w'.heap[e1.g]? = some o → Yk (rs.take n ++ xs.map fun row => row.map (appV T e)) a b = some y →
     (∃ e0 o0, η[i]? = some (some e0) ∧ w.heap[e0.g]? = some o0 ∧ Yk rs a b = some y ∧ ZF o es a b = ZF o0 es a b) ∨ (y.2 = [] ∧ ZF o es a b = some (.slice none 0 0)) := by
   intro e1 o a b y hx ho hk
   subst hx
   obtain ⟨y1, y2⟩ := y
   obtain ⟨row, k1, k2⟩ := kidAt_some.1 hk
   rcases hs with ⟨h1, _⟩ | ⟨e', arr, T', fz, h1, h2, h3, h4⟩
   · rw [hnx] at h1; cases h1
   rw [hnx] at h1; injection h1 with h1; injection h1 with h1; subst h1
   rw [h2] at ho; injection ho with ho; subst ho
   obtain ⟨_, _, _, hb0⟩ := h3 rfl
   rw [hb0] at h4
   by_cases ha : a < n
   · have htl : (rs.take n).length = n := by rw [List.length_take]; omega
     rw [List.getElem?_append_left (by omega), List.getElem?_take, if_pos ha] at k1
     have hfl : ((Zo rs).take n ++ xs)[a]? = some (row.map ZY) := by
       rw [List.getElem?_append_left (by rw [List.length_take, ZS]; omega), List.getElem?_take, if_pos ha, Y5, k1]; rfl
     have hbl := (List.getElem?_eq_some_iff.1 k2).1
     have hle := (h4 a _ hfl).1
     rw [List.length_map] at hle
     obtain ⟨e0, o0, g1, g2, g3⟩ := G.cells _ _ a b rfl h2 ha (by omega)
     exact .inl ⟨e0, o0, g1, g2, kidAt_some.2 ⟨row, k1, k2⟩, g3⟩
   · have htl : (rs.take n).length = n := by rw [List.length_take]; omega
     rw [List.getElem?_append_right (by omega), htl, List.getElem?_map] at k1
     obtain ⟨row0, k3, rfl⟩ := Option.map_eq_some_iff.1 k1
     rw [List.getElem?_map] at k2
     obtain ⟨s, k4, k5⟩ := Option.map_eq_some_iff.1 k2
     obtain ⟨rfl, rfl⟩ := Z8O k5
     have hfl : ((Zo rs).take n ++ xs)[a]? = some row0 := by
       have htl' : ((Zo rs).take n).length = n := by rw [List.length_take, ZS]; omega
       rw [List.getElem?_append_right (by omega), htl']; exact k3
     obtain ⟨v, q1, _, q2⟩ := (h4 a _ hfl).2 b _ k4
     rw [Nat.zero_add] at q1
     have q2 : v = .slice none 0 0 := q2.1
     exact .inr ⟨rfl, by rw [← q2]; exact q1⟩
 have kidlt : ∀ {e0 o0 a b y v k}, η[i]? = some (some e0) → w.heap[e0.g]? = some o0 → Yk rs a b = some y → ZF o0 es a b = some v → v.ownBlock = some k → k < w.heap.size ∧ k ≠ e0.g ∧ feet η w (.loc i) (.deep false es rs) k := by
   intro e0 o0 a b y v k g1 g2 g3 g4 g5
   obtain ⟨y1, y2⟩ := y
   obtain ⟨v', f1, f2, f3⟩ := ((hD e0 g1).2 o0 g2).sat a b _ _ g3
   rw [g4] at f1; injection f1 with f1; subst f1
   have ff : feet η w (.loc i) (.deep false es rs) k := ⟨e0, g1, .inr (by simp only [kid]; exact ⟨o0, a, b, _, v, g2, g3, g4, g5⟩)⟩
   exact ⟨hsat.feet_lt ff, fun h => f3 (h ▸ g5), ff⟩
 refine H.moved hi G ?_ fun k f => ?_
 · refine HpSat.deep_of (mp := false) ?_ (fun h => by cases h) fun e1 he => ?_
   · show RowsSat _ _ _ _ _ _
     unfold RowsSat at hs ⊢
     have hfe : ∀ (j : Nat) (row : List SV), (Zo (rs.take n ++ xs.map fun row => row.map (appV T e)))[j]? = some row → ∃ row1, ((Zo rs).take n ++ xs)[j]? = some row1 ∧ (row = row1 ∨ row = row1.map fun s => ZY (appV T e s)) := by
       intro j row hj
       unfold Zo at hj ⊢
       rw [List.map_append, List.map_take] at hj
       by_cases hjl : j < ((rs.map fun r => r.map ZY).take n).length
       · rw [List.getElem?_append_left hjl] at hj ⊢
         exact ⟨row, hj, .inl rfl⟩
       · rw [List.getElem?_append_right (by omega)] at hj ⊢
         rw [List.map_map, List.getElem?_map] at hj
         obtain ⟨row1, q1, q2⟩ := Option.map_eq_some_iff.1 hj
         refine ⟨row1, q1, .inr ?_⟩
         rw [← q2]; simp [Function.comp]
     have hll : (Zo (rs.take n ++ xs.map fun row => row.map (appV T e))).length = ((Zo rs).take n ++ xs).length := by simp [Zo]
     rcases hs with ⟨h1, h2⟩ | ⟨e', arr, T', fz, h1, h2, h3, h4⟩
     · exact .inl ⟨h1, List.length_eq_zero_iff.1 (by rw [hll, h2]; rfl)⟩
     · refine .inr ⟨e', arr, T', fz, h1, h2, fun h => by rw [hll]; exact h3 h, fun j row hj => ?_⟩
       obtain ⟨row1, q1, q2⟩ := hfe j row hj
       obtain ⟨q3, q4⟩ := h4 j row1 q1
       rcases q2 with rfl | rfl
       · exact ⟨q3, q4⟩
       · refine ⟨by rw [List.length_map]; exact q3, fun c sv hc => ?_⟩
         rw [List.getElem?_map] at hc
         obtain ⟨s, q5, rfl⟩ := Option.map_eq_some_iff.1 hc
         obtain ⟨v, q6, q7, q8⟩ := q4 c s q5
         exact ⟨v, q6, q7, Z8P q8⟩
   · rw [hnx] at he
     injection he with he
     obtain ⟨hb0, hbl⟩ := G.blk e1 he
     refine ⟨hb0, fun o ho => ⟨fun a b es' rows hk => ?_, fun a b a' b' y y' v v' k k1 k2 k3 k4 k5 k6 => ?_⟩⟩
     · rcases kids he ho hk with ⟨e0, o0, g1, g2, g3, g4⟩ | ⟨g1, g2⟩
       · obtain ⟨v, f1, f2, f3⟩ := ((hD e0 g1).2 o0 g2).sat a b _ _ g3
         refine ⟨v, g4.trans f1, (f2.keep fun k hk => ?_).mono hpre, fun h => ?_⟩
         · obtain ⟨l1, l2, _⟩ := kidlt g1 g2 g3 f1 hk
           exact G.hold k l1 fun e2 h2 => by rw [g1] at h2; injection h2 with h2; injection h2 with h2; subst h2; exact l2.symm
         · obtain ⟨l1, l2, _⟩ := kidlt g1 g2 g3 f1 h
           rcases hbl with hbl | hbl
           · rw [g1] at hbl; injection hbl with hbl; injection hbl with hbl; subst hbl; exact l2 rfl
           · omega
       · simp only at g1
         subst g1
         exact ⟨_, g2, .inl ⟨rfl, rfl⟩, by simp [Value.ownBlock]⟩
     · rcases kids he ho k1 with ⟨e0, o0, g1, g2, g3, g4⟩ | ⟨_, g2⟩
       · rcases kids he ho k2 with ⟨e0', o0', g1', g2', g3', g4'⟩ | ⟨_, g2'⟩
         · rw [g1] at g1'; injection g1' with g1'; injection g1' with g1'; subst g1'
           rw [g2] at g2'; injection g2' with g2'; subst g2'
           exact ((hD e0 g1).2 o0 g2).ne a b a' b' y y' v v' k g3 g3' (g4 ▸ k3) (g4' ▸ k4) k5 k6
         · rw [g2'] at k4; injection k4 with k4; subst k4; cases k6
       · rw [g2] at k3; injection k3 with k3; subst k3; cases k5
 · obtain ⟨e1, f1, f2⟩ := f
   rw [hnx] at f1
   injection f1 with f1
   rcases f2 with rfl | f2
   · rcases (G.blk e1 f1).2 with h | h
     · exact .inl (feet.own h)
     · exact .inr (by omega)
   · simp only [kid] at f2
     obtain ⟨o, a, b, y, v, f3, f4, f5, f6⟩ := f2
     rcases kids f1 f3 f4 with ⟨e0, o0, g1, g2, g3, g4⟩ | ⟨_, g2⟩
     · exact .inl (kidlt g1 g2 g3 (g4 ▸ f5) f6).2.2
     · rw [g2] at f5; injection f5 with f5; subst f5; cases f6
theorem Z8Q (A : At M η w O nx ρ lk) (args : Array Operand) (ts : Array TypeId) (hr : (opR M.C lk O nx (.call ⟨.builtin .append, args, ts⟩)).ok O nx v O' nx') : ZO M η w ⟨dst, .call ⟨.builtin .append, args, ts⟩, ty, pos, af, gd⟩ ρ v O' nx' := by
 simp only [opR, XU, Z6F] at hr
 split at hr
 case h_2 => exact hr.elim
 rename_i s x ha
 obtain rfl : args = #[s, x] := by apply Array.ext'; simpa using ha
 split at hr
 case h_2 => exact hr.elim
 rename_i t u htu
 obtain rfl : ts = #[t, u] := by apply Array.ext'; simpa using htu
 split at hr
 case h_2 => exact hr.elim
 rename_i sv hs
 split at hr
 case h_2 => exact hr.elim
 rename_i xsv hx
 have hsd := A.L _ _ hs
 have hxd := A.L _ _ hx
 have fin : ∀ {z : Value} {w' : World}, (Builtin.append_ #[t, u] ty #[ρ s, ρ x]).run M.P w = .ok z w' → UP M.P ⟨dst, .call ⟨.builtin .append, #[s, x], #[t, u]⟩, ty, pos, af, gd⟩ ρ w z w' := by
   intro z w' h
   exact .inl (by simp [execOp, resolve, invoke, builtin, h])
 have main : ((∃ q, M.P.underlying u = some (.slice q)) ∨ M.P.underlying u = some .string) → (Z1W M.C O nx t sv xsv).ok O nx v O' nx' → ZO M η w ⟨dst, .call ⟨.builtin .append, #[s, x], #[t, u]⟩, ty, pos, af, gd⟩ ρ v O' nx' := by
   intro hu hr
   unfold Z1W at hr
   split at hr
   case h_2 => exact hr.elim
   rename_i e hst
   obtain ⟨d, hd, hm⟩ := A.T.und t (by rw [hst]; simp)
   rw [hst] at hm; simp only [ShM] at hm; subst hm
   split at hr
   · exact hr.elim
   rename_i c cs hz
   have hsh : M.C.T.sh e ≠ .other := A.T.zsh e (by rw [hz]; simp)
   obtain ⟨ie, z, h1, h2, h3, h4, h5, _⟩ := A.T.zero e hsh (by rw [hz]; simp)
   rw [hz] at h3 h5
   obtain ⟨ie', hie, hies, hieb⟩ := A.T.info e hsh
   rw [h1] at hie; injection hie with hie; subst hie
   have h3 := DenL.mono (η' := η) List.nil_prefix h3
   have hzl : z.cells.size = M.C.T.size e := by have := ZE h3; rw [h5] at this; simpa using this
   split at hr
   · exact hr.elim
   rename_i xs m hrows
   have newarr : ∀ {base : Option Addr} {n cap : Nat} {olds news : List Value} {rs : List (List SV)}, ρ s = .slice base n cap → News M.P w η (M.C.T.size e) xs m (ρ x) news → cap < n + m → n + m ≤ 9223372036854775807 → min (2 * (n + m)) ((n + m) + (n + m) / 4 + 192) * M.C.T.bytes e ≤ 281474976710656 →
       (∀ w', w'.heap = w.heap → (Builtin.firstCells (M.C.T.size e) n (.slice base n cap)).run M.P w' = .ok ⟨olds⟩ w') → DenLL η (M.C.T.size e) rs olds → (∀ u ∈ olds, u.oneCell' = true) → rs.length = n → xs.length = m →
       v = .sl (.loc nx) 0 (M.C.T.size e) (n + m) none → O' = (nx, .rows (M.C.T.size e) (rs ++ xs)) :: O → nx' = nx + 1 → ZO M η w ⟨dst, .call ⟨.builtin .append, #[s, x], #[t, u]⟩, ty, pos, af, gd⟩ ρ v O' nx' := by
     intro base n cap olds news rs hsv N hroom h63 hby ho hol ho1 hrl hxl e1 e2 e3
     subst e1 e2 e3
     obtain ⟨z', w', cap', arr, T, fz, p1, p2, ⟨p3, p4, p5, p6⟩, p7, p8, _⟩ := Z4Z (ty := ty) A.H.len hd hu h1 h2 hies hieb hzl hsv N hroom h63 hby ho hol ho1 hrl hxl
     exact ⟨_, _, _, fin p1, List.prefix_append _ _, HeapOK.alloc A.H p2 p3 p4 p5 0 _ p8 p6, p7, fun _ h => absurd h (by simp)⟩
   split at hr
   · obtain ⟨⟨q1, q2, q3⟩, e1, e2, e3⟩ := hr
     have hsv : ρ s = .slice none 0 0 := And.left hsd
     obtain ⟨news, N⟩ := YA A hxd hrows q1
     by_cases hm0 : m = 0
     · subst hm0
       have hx0 : xs = [] := List.length_eq_zero_iff.1 q1
       have hn0 : news = [] := by apply List.length_eq_zero_iff.1; rw [N.len]; omega
       subst hx0 hn0 e1 e2 e3
       have hrun := Z0g (P := M.P) (ty := ty) (w := w) (i := ie) hd hu h1 N.lenOf (by rw [hies]; exact N.first)
       rw [← hsv] at hrun
       refine ⟨_, w, η ++ [none], fin hrun, List.prefix_append _ _, ?_, ?_, fun _ h => absurd h (by simp)⟩
       · exact A.H.name none (Or.inl ⟨Zz A.H.len _, rfl⟩) (fun e h => by cases h) (fun e h => by cases h)
       · exact Or.inl ⟨Zz A.H.len _, hsv, rfl⟩
     · refine newarr (rs := []) (olds := []) hsv N (by omega) (by omega) (Z4Y (by simpa using q3)) (fun w' _ => rfl) (by simp [DenLL]) (by simp) rfl q1 (by simpa using e1) (by simpa using e2) e3
   · rename_i i es n _
     split at hr
     case h_3 => exact hr.elim
     · rename_i es' rs hh
       split at hr
       case h_2 => exact hr.elim
       rename_i hes
       have hes := Zk hes
       subst hes
       split at hr
       case h_2 => exact hr.elim
       rename_i hes'
       have hes' := Zk hes'
       subst hes'
       obtain ⟨⟨q1, q2, q3, q4⟩, e1, e2, e3⟩ := hr
       obtain ⟨news, N⟩ := YA A hxd hrows q1
       obtain ⟨z', w', x', hrun, hdz, hrs, G⟩ := Z36 (ty := ty) A.H.len hd hu h1 h2 hies hieb hzl hsd (A.H.own.1 i _ hh).1 N q1 q2 q3 q4
       subst e1 e2 e3
       refine ⟨_, _, _, fin hrun, List.prefix_append _ _, A.H.moved hh G hrs fun k f => ?_, hdz, fun _ h => absurd h (by simp)⟩
       obtain ⟨e1, f1, f2⟩ := f
       rw [Zz A.H.len] at f1
       injection f1 with f1
       rcases f2 with rfl | f2
       · rcases (G.blk e1 f1).2 with h | h
         · exact .inl (feet.own h)
         · exact .inr (by omega)
       · exact f2.elim
     · rename_i es' rs hh
       split at hr
       case h_2 => exact hr.elim
       rename_i hes
       have hes := Zk hes
       subst hes
       split at hr
       case h_2 => exact hr.elim
       rename_i hes'
       have hes' := Zk hes'
       subst hes'
       obtain ⟨⟨q1, q2, q3, q4⟩, e1, e2, e3⟩ := hr
       obtain ⟨news, N⟩ := YA A hxd hrows q1
       have hsat := (A.H.own.1 i _ hh).1
       simp only [HpSat] at hsat
       obtain ⟨z', w', x', hrun, hdz, hrs, G⟩ := Z36 (ty := ty) A.H.len hd hu h1 h2 hies hieb hzl hsd hsat.1 N q1 (by rw [ZS]; exact q2) q3 q4
       subst e1 e2 e3
       exact ⟨_, _, _, fin hrun, List.prefix_append _ _, A.H.grownD hh q2 G hrs, hdz, fun _ h => absurd h (by simp)⟩
   · rename_i b r es n l _
     split at hr
     case h_2 hrs0 =>
       unfold Z6z at hr
       split at hr
       case h_2 => exact hr.elim
       rename_i i _
       split at hr
       case h_2 => exact hr.elim
       rename_i es' ds hh
       split at hr
       case h_2 => exact hr.elim
       rename_i hes
       have hes := Zk hes
       subst hes
       split at hr
       case h_2 => exact hr.elim
       rename_i hes'
       have hes' := Zk hes'
       subst hes'
       obtain ⟨⟨q1, q2, q3, q4, q5, q6⟩, hr⟩ := hr
       obtain ⟨news, N⟩ := YA A hxd hrows q1
       have hsat := (A.H.own.1 i _ hh).1
       simp only [HpSat] at hsat
       have hrows0 := hsat.1
       rcases Nat.lt_or_ge l (n + m) with hlt | hlt
       · simp only [Res.ok, decide_eq_true hlt, if_true] at hr
         obtain ⟨e1, e2, e3⟩ := hr
         obtain ⟨en, o, g1, hsv, g2⟩ : ∃ en o, η[i]? = some (some en) ∧ ρ s = .slice (some ⟨en.g, o, none⟩) n l ∧ n ≤ l := by
           simp only [Den, Env.get] at hsd
           rcases hsd with ⟨_, _, h0⟩ | ⟨en, o, g1, g2, g3, _⟩
           · omega
           · simp only [Option.getD_some, Nat.sub_zero, Nat.zero_add] at g2 g3
             exact ⟨en, o, g1, g2, g3⟩
         have A' : At M η w (setK i (.rows (M.C.T.size e) (Zo ds)) O) nx ρ lk := ⟨A.H.updF hh g1 (fun _ _ => rfl) rfl rfl rfl rfl hrows0 (Nat.le_refl _) (fun k f => by
           rcases f.of (e := en) (show η.get (.loc i) = some (some en) from g1) with h | h
           · exact h ▸ feet.own g1
           · exact h.elim), A.T, A.L⟩
         have hR : Z18 M.C (setK i (.rows (M.C.T.size e) (Zo ds)) O) (M.C.T.size e) (.sl (.loc i) 0 (M.C.T.size e) n (some l)) = some ((Zo ds).take n, n) := by
           simp only [Z18, Xw, ZN i _ O i (by rw [hh]; rfl), if_pos, Nat.beq_refl, List.drop_zero]
         have hyl : ((Zo ds).take n).length = n := by rw [List.length_take, ZS]; omega
         obtain ⟨olds, N2⟩ := YA A' hsd hR hyl
         refine newarr (rs := (Zo ds).take n) (olds := olds) hsv N hlt q5 q6 (fun w' hw' => ?_) N2.den N2.one hyl q1 e1 e2 e3
         rw [← hsv]
         exact N2.first w' hw'
       · simp only [Res.ok, decide_eq_false (Nat.not_lt.2 hlt), Bool.false_eq_true, if_false] at hr
         obtain ⟨e1, e2, e3⟩ := hr
         obtain ⟨z', w', en, hrun, hdz, g1, g2, g3, g4, g5, g6, g7, g8⟩ := Z8N (ty := ty) hd hu h1 hies hsd hrows0 N q1 q2 (by rw [ZS]; exact q4) (by omega)
         subst e1 e2 e3
         have H1 := A.H.updF (h := .rows (M.C.T.size e) ((Zo ds).take n ++ xs)) hh g1 g2 g3 g4 g5 g6 g8 g7 fun k f => by
           rcases f.of (e := en) (show η.get (.loc i) = some (some en) from g1) with h | h
           · exact h ▸ feet.own g1
           · exact h.elim
         exact ⟨_, w', η ++ [none], fin hrun, List.prefix_append _ _, H1.name none (Or.inl ⟨Zz A.H.len _, rfl⟩) (fun e h => by cases h) (fun e h => by cases h), hdz.mono (List.prefix_append _ _), fun _ h => absurd h (by simp)⟩
     rename_i ys n' hrs
     obtain ⟨⟨q0, q1, q2, q3, q4, q5⟩, e1, e2, e3⟩ := hr
     have hnn : n' = n := by
       simp only [Z18] at hrs
       repeat' split at hrs
       all_goals first | (injection hrs with hrs; injection hrs with _ hrs; exact hrs.symm) | cases hrs
     subst hnn
     obtain ⟨news, N⟩ := YA A hxd hrows q3
     obtain ⟨olds, N2⟩ := YA A hsd hrs q2
     obtain ⟨base, hsv⟩ : ∃ base, ρ s = .slice base n' n' := by
       simp only [Den] at hsd
       rcases hsd with ⟨_, h, h0⟩ | ⟨en, o, _, h, _⟩
       · subst h0; exact ⟨none, h⟩
       · rw [q0, Option.getD_some, Nat.add_sub_cancel_left] at h
         exact ⟨_, h⟩
     refine newarr (rs := ys) (olds := olds) hsv N (by omega) q4 q5 (fun w' hw' => ?_) N2.den N2.one q2 q3 e1 e2 e3
     rw [← hsv]
     exact N2.first w' hw'
   · exact hr.elim
 split at hr
 · rename_i q hsu
   obtain ⟨d, hd, hm⟩ := A.T.und u (by rw [hsu]; simp)
   rw [hsu] at hm; simp only [ShM] at hm; subst hm
   exact main (.inl ⟨_, hd⟩) hr
 · rename_i hsu
   obtain ⟨d, hd, hm⟩ := A.T.und u (by rw [hsu]; simp)
   rw [hsu] at hm; simp only [ShM] at hm; subst hm
   exact main (.inr hd) hr
 · rename_i k hsu
   obtain ⟨d, hdu, hm⟩ := A.T.und u (by rw [hsu]; simp)
   rw [hsu] at hm; simp only [ShM] at hm; subst hm
   split at hr
   case h_2 => exact hr.elim
   have hsv : ρ s = .slice none 0 0 := And.left hsd
   unfold Z6A at hr
   split at hr
   case h_2 => exact hr.elim
   rename_i e hst
   obtain ⟨d, hd, hm⟩ := A.T.und t (by rw [hst]; simp)
   rw [hst] at hm; simp only [ShM] at hm; subst hm
   split at hr
   · exact hr.elim
   rename_i c cs hz
   have hsh : M.C.T.sh e ≠ .other := A.T.zsh e (by rw [hz]; simp)
   obtain ⟨ie, z, h1, h2, h3, h4, h5, _⟩ := A.T.zero e hsh (by rw [hz]; simp)
   rw [hz] at h3 h5
   obtain ⟨ie', hie, hies, hieb⟩ := A.T.info e hsh
   rw [h1] at hie; injection hie with hie; subst hie
   have h3 := DenL.mono (η' := η) List.nil_prefix h3
   have hzl : z.cells.size = M.C.T.size e := by have := ZE h3; rw [h5] at this; simpa using this
   split at hr
   case h_2 => exact hr.elim
   rename_i kk n
   obtain ⟨⟨q1, q2, q3⟩, e1, e2, e3⟩ := hr
   have hxv := XG hxd
   subst e1 e2 e3
   by_cases hn0 : n = 0
   · subst hn0
     have hrun := Z22 (P := M.P) (ty := ty) (w := w) (kk := kk) hd hdu h1
     rw [← hsv, ← hxv] at hrun
     refine ⟨_, w, η ++ [none], fin hrun, List.prefix_append _ _, ?_, ?_, fun _ h => absurd h (by simp)⟩
     · exact A.H.name none (Or.inl ⟨Zz A.H.len _, rfl⟩) (fun e h => by cases h) (fun e h => by cases h)
     · exact Or.inl ⟨Zz A.H.len _, hsv, rfl⟩
   · have hpos : 0 < M.C.T.size e := by rw [← h5]; simp
     have hrun := Z35 (P := M.P) (ty := ty) (w := w) (kk := kk) (n := n) hd hdu h1 h2 (by rw [hies]; exact hpos) (by omega) q2 (by rw [hieb]; exact q3)
     rw [← hsv, ← hxv] at hrun
     have hge := grownCap_ge w n.toNat 0 e
     have hzc : (Builtin.zeroCells z.cells n.toNat).toList = YT z.cells.toList n.toNat := by
       unfold Builtin.zeroCells
       exact Jx z.cells n.toNat _ rfl
     have hLL := Z0h h3 (by simpa using hzl) n.toNat
     have hone := Z0c h4 n.toNat
     have hra := Yv hLL hone
     have hlen := XI hLL
     rw [List.length_replicate] at hlen
     refine ⟨_, _, η ++ [some ⟨w.heap.size, 0, grownCap w n.toNat 0 e⟩], fin hrun, List.prefix_append _ _, ?_, V0 A.H.len hge, fun _ h => absurd h (by simp)⟩
     rw [hzc]
     refine HeapOK.alloc (w' := w.drew.alloc (.cells ⟨YT z.cells.toList n.toNat ++ (Builtin.zeroCells z.cells (grownCap w n.toNat 0 e - n.toNat)).toList⟩ e)) A.H rfl rfl rfl rfl 0 _ ?_
     simp only [HpSat]
     right
     have hszz : (YT z.cells.toList n.toNat ++ (Builtin.zeroCells z.cells (grownCap w n.toNat 0 e - n.toNat)).toList).length = grownCap w n.toNat 0 e * M.C.T.size e := by
       rw [List.length_append, hlen, Array.length_toList, size_zeroCells, hzl, ← Nat.add_mul]
       congr 1; omega
     refine ⟨_, _, e, (0, 0), Zz A.H.len _, Y4 (w := w) (w' := w.drew.alloc _) rfl, fun _ => ⟨Vk _, hszz, ?_, rfl⟩, ?_⟩
     · rw [List.length_replicate]; exact hge
     · intro k row hk
       obtain ⟨p1, p2⟩ := hra k row hk
       refine ⟨p1, fun j sv' hj => ?_⟩
       obtain ⟨y, p3, p4, p5⟩ := p2 j sv' hj
       refine ⟨y, ?_, p4, p5.mono (List.prefix_append _ _)⟩
       have hlt := (Array.getElem?_eq_some_iff.1 p3).1
       simp only [List.getElem?_toArray]
       rw [List.getElem?_append_left (by simpa using hlt)]
       simpa using p3
 · exact hr.elim
end
section
variable {M : Mx} {η : Env} {w : World} {O : Hps} {nx : Nat} {ρ : Operand → Value} {lk : Operand → Option SV} {v : SV} {O' : Hps} {nx' : Nat} {dst : Option Tmp} {ty : TypeId} {pos : String} {af : Array Edge} {gd : Option (Nat × Bool)}
theorem ZaI (H : HeapOK M η w O nx) : HeapOK M (η ++ [some ⟨w.heap.size, 0, 0⟩]) (Yq w (.map #[] 0)) ((nx, .mp []) :: O) (nx + 1) := by
 refine H.alloc (w' := Yq w (.map #[] 0)) rfl rfl rfl rfl 0 0 ?_
 simp only [HpSat]
 exact ⟨_, #[], Zz H.len _, rfl, Y4 (w := w) (w' := Yq w (.map #[] 0)) rfl, rfl, fun i row h => by simp at h⟩
theorem Z6U (A : At M η w O nx ρ lk) (t : TypeId) (r : Option Operand) (hr : (opR M.C lk O nx (.makeMap t r)).ok O nx v O' nx') : ZO M η w ⟨dst, .makeMap t r, ty, pos, af, gd⟩ ρ v O' nx' := by
 have fin : (Res.new (.mp (.loc nx)) (.mp [])).ok O nx v O' nx' → (Instr.makeMap t (r.map ρ)).run M.P w = .ok (.map (some w.heap.size)) (Yq w (.map #[] 0)) → ZO M η w ⟨dst, .makeMap t r, ty, pos, af, gd⟩ ρ v O' nx' := by
   rintro ⟨rfl, rfl, rfl⟩ hrun
   exact ⟨_, _, _, .inl (by simp [execOp, hrun]; rfl), List.prefix_append _ _, ZaI A.H, by simp only [Den]; exact ⟨_, Zz A.H.len _, rfl⟩, fun _ h => absurd h (by simp)⟩
 simp only [opR, Z4T] at hr
 cases r with
 | none => exact fin hr (by simp [Instr.makeMap, newObj]; rfl)
 | some x =>
   simp only at hr
   split at hr
   case h_2 => exact hr.elim
   rename_i kt et hs
   split at hr
   case h_2 => exact hr.elim
   rename_i k n hx
   obtain ⟨d, hd, hm⟩ := A.T.und t (by rw [hs]; simp)
   rw [hs] at hm; simp only [ShM] at hm; subst hm
   have hxv : ρ x = .int k n := A.L _ _ hx
   exact fin hr (by simp [Instr.makeMap, newObj, Z4 hd, hxv, asInt]; rfl)
theorem U9 (A : At M η w O nx ρ lk) {t : TypeId} {f : SV → Res} (hr : (Z2U M.C.T t f).ok O nx v O' nx') : ∃ z zv, (zeroValue t).run M.P w = .ok zv w ∧ Den η z zv ∧ (f z).ok O nx v O' nx' := by
 unfold Z2U at hr
 split at hr
 · exact hr.elim
 rename_i c cs hz
 split at hr
 case h_2 => exact hr.elim
 rename_i z ho
 have hsh : M.C.T.sh t ≠ .other := by intro h; simp [Y8, h] at ho
 obtain ⟨i, zv, h1, h2, h3⟩ := VM A.T hsh (by rw [hz]; simp) (by rw [hz]; exact ho) η
 exact ⟨z, zv, YY h1 h2 w, h3, hr⟩
theorem Jk {z : SV} {zv : Value} {ok b : Bool} (h : Den η z zv) : Den η (UO ok z b) (if ok = true then .tuple #[zv, .bool b] else zv) := by
 cases ok with
 | false => exact h
 | true => simp only [UO, Den, DenL]; exact ⟨[zv, .bool b], rfl, zv, _, rfl, h, _, [], rfl, rfl, rfl⟩
theorem Vn {rs : List (List DC)} {j : Nat} {k v d : DC} (h : rs[j]? = some [k, v]) : rs.modify j (putD d) = setC rs j 1 d := by
 unfold setC
 apply List.ext_getElem?
 intro i
 rw [List.getElem?_modify, List.getElem?_modify]
 by_cases hi : j = i
 · subst hi; rw [h]; rfl
 · simp [hi]
theorem Z23 (A : At M η w O nx ρ lk) {kt et : TypeId} {ks : Bool × List CK} {key : SV} {ok : Bool} {b : Blk} {u : Value} {e : Ent} (hks : M.C.T.key kt = some ks) (hdk : Den η key u) (he : η.get b = some (some e))
   (hr : (Z44 M.C O nx ks et key ok b).ok O nx v O' nx') : ∃ es r η', w.heap[e.g]? = some (.map es es.size) ∧ (Instr.checkKey es.isEmpty 10000 kt u).run M.P w = .ok () w ∧
     (do let (v, ok') ← match ← Instr.findKey kt u es.toList with
           | some (_, v) => pure (v, true)
           | none => pure (← zeroValue et, false)
         pure (if ok = true then .tuple #[v, .bool ok'] else v) : Sem Value).run M.P w = .ok r w ∧ η <+: η' ∧ HeapOK M η' w O' nx' ∧ Den η' v r := by
 unfold Z44 at hr
 split at hr
 case h_2 => exact hr.elim
 rename_i i
 split at hr
 case h_2 => exact hr.elim
 rename_i es rs hb
 obtain ⟨⟨hko, hro⟩, hr⟩ := hr
 have hsat := (A.H.own.1 i _ hb).1
 have hsat' := hsat
 simp only [HpSat] at hsat'
 obtain ⟨⟨⟨e', ens, h1, h2, h3, h4, h5⟩, _⟩, _⟩ := hsat'
 rw [he] at h1; injection h1 with h1; injection h1 with h1; subst h1
 obtain ⟨f, hf, hhit, hval⟩ := XX A.T hks hko hdk (w := w) hro (VN (es := ens.toList) (i := 0) (by simpa using h4) fun j row hj => by
   obtain ⟨en, g1, g2, g3⟩ := h5 j row hj
   exact ⟨en, by simpa using g1, by omega, g3⟩)
 have hck := (A.T.key kt ks hks).1 w η ens.isEmpty key u hko hdk
 rw [Vl] at hhit
 cases hm : findD ks key 0 rs with
 | none =>
   rw [hm] at hr hhit
   obtain ⟨z, zv, hz, hdz, hr⟩ := U9 A hr
   have hhit : f = none := hhit
   subst hhit
   obtain ⟨rfl, rfl, rfl⟩ := hr
   exact ⟨ens, _, η, h3, hck, by simp [hf, hz], List.prefix_rfl, A.H, Jk hdz⟩
 | some p =>
   obtain ⟨j, d⟩ := p
   rw [hm] at hr hhit
   simp only [Option.map_some] at hhit
   obtain ⟨xv, rfl, hdx⟩ := hhit
   obtain ⟨en, hen, hxv⟩ := hval j xv rfl
   obtain ⟨k0, _, hrow, _⟩ := Wt hm
   rw [Nat.sub_zero] at hrow
   simp only [Zbt] at hr
   cases d with
   | v s =>
     obtain ⟨rfl, rfl, rfl⟩ := hr
     exact ⟨ens, _, η, h3, hck, by simp [hf], List.prefix_rfl, A.H, Jk hdx⟩
   | kid es' rows =>
     obtain ⟨rfl, rfl, rfl⟩ := hr
     obtain ⟨x, hH⟩ := A.H.take hb hrow (c := 1) rfl
     rw [Vn hrow]
     have hsome : (lkp i O).isSome := by rw [hb]; rfl
     have hinx : i ≠ nx := fun h => by have := A.H.lt hb; omega
     have hs2 := (hH.own.1 i (.deep true es (setC rs j 1 (.v (.sl (.loc nx) 0 es' rows.length none)))) (by rw [Z7, if_neg hinx, ZN i _ O i hsome, if_pos rfl])).1
     obtain ⟨e2, o2, v2, q1, q2, q3, q4, _⟩ := V2 hs2 (r := j) (c := 1) (row := [k0, .v (.sl (.loc nx) 0 es' rows.length none)]) (by rw [Zt, if_pos rfl, hrow]; rfl) rfl
     have hget : (η ++ [x]).get (.loc i) = some (some e) := Env.get_mono (List.prefix_append _ _) he
     rw [hget] at q1; injection q1 with q1; injection q1 with q1; subst q1
     rw [h3] at q2; injection q2 with q2; subst q2
     have hen' : ens[j]? = some en := by simpa using hen
     simp only [ZF, hen', Option.map_some, Option.some.injEq] at q3
     subst q3 hxv
     exact ⟨ens, _, _, h3, hck, by simp [hf], List.prefix_append _ _, hH, Jk q4⟩
theorem Z8R (A : At M η w O nx ρ lk) (t : TypeId) (x i : Operand) (ok : Bool) (hr : (opR M.C lk O nx (.lookup t x i ok)).ok O nx v O' nx') : ZO M η w ⟨dst, .lookup t x i ok, ty, pos, af, gd⟩ ρ v O' nx' := by
 simp only [opR, Z6D] at hr
 split at hr
 case h_2 => exact hr.elim
 rename_i kt et hs
 obtain ⟨d, hd, hm⟩ := A.T.und t (by rw [hs]; simp)
 rw [hs] at hm; simp only [ShM] at hm; subst hm
 split at hr
 case h_2 => exact hr.elim
 rename_i ks hks
 split at hr
 case h_2 => exact hr.elim
 rename_i key hi
 split at hr
 · rename_i b hx
   split at hr
   case h_2 =>
     have hxv := A.L _ _ hx
     simp only [Den] at hxv
     obtain ⟨e, he, hv⟩ := hxv
     obtain ⟨es, r, η', g1, g2, g3, g4, g5, g6⟩ := Z23 A hks (A.L _ _ hi) he hr
     have hrun : (Instr.lookup t (ρ x) (ρ i) ok).run M.P w = .ok r w := by
       rw [← g3]
       simp [Instr.lookup, Z4 hd, hv, Xt g1, g2]
       rfl
     exact ⟨r, w, η', .inl (by simp [execOp, hrun]), g4, g5, g6, fun _ _ => rfl⟩
   rename_i rs hb
   obtain ⟨⟨hko, hro⟩, hr⟩ := hr
   have hxv := A.L _ _ hx
   simp only [Den] at hxv
   obtain ⟨e, he, hv⟩ := hxv
   have hsat := A.H.look hb
   simp only [HpSat] at hsat
   obtain ⟨e', es, h1, h2, h3, h4, h5⟩ := hsat
   rw [he] at h1; cases h1
   obtain ⟨f, hf, hhit⟩ := Jy A.T hks hko (A.L _ _ hi) (w := w) hro (VN (es := es.toList) (i := 0) (by simpa using h4) fun j row hj => by
     obtain ⟨en, g1, g2, g3⟩ := h5 j row hj
     exact ⟨en, by simpa using g1, by omega, g3⟩)
   have hck := (A.T.key kt ks hks).1 w η es.isEmpty key (ρ i) hko (A.L _ _ hi)
   cases hm : YH ks key 0 rs with
   | some p =>
     obtain ⟨j, u⟩ := p
     rw [hm] at hr hhit
     obtain ⟨xv, rfl, hdx⟩ := hhit
     exact A.val hr ⟨_, .inl (by simp [execOp, Instr.lookup, Z4 hd, hv, Xt h3, hck, hf]), Jk hdx⟩
   | none =>
     rw [hm] at hr hhit
     obtain ⟨z, zv, hz, hdz, hr⟩ := U9 A hr
     have hhit : f = none := hhit
     subst hhit
     exact A.val hr ⟨_, .inl (by simp [execOp, Instr.lookup, Z4 hd, hv, Xt h3, hck, hf, hz]), Jk hdz⟩
 · rename_i hx
   obtain ⟨hko, hr⟩ := hr
   have hv : ρ x = .map none := (A.L _ _ hx).1
   have hck := (A.T.key kt ks hks).1 w η true key (ρ i) hko (A.L _ _ hi)
   obtain ⟨f, hf, hhit⟩ := Jy A.T hks hko (A.L _ _ hi) (w := w) (rs := []) (es := []) (fun r h => by simp at h) trivial
   have hhit : f = none := hhit
   subst hhit
   obtain ⟨z, zv, hz, hdz, hr⟩ := U9 A hr
   exact A.val hr ⟨_, .inl (by simp [execOp, Instr.lookup, Z4 hd, hv, hck, hf, hz]), Jk hdz⟩
 · exact hr.elim
theorem Z50 {rs : List (List DC)} {r c a : Nat} {d : DC} (h : Wf rs r c = some (a, d)) : ∃ row, rs[r]? = some row ∧ row[c]? = some d := by
 unfold Wf at h
 split at h
 · rename_i row hr
   split at h
   · rename_i d' hc
     injection h with h; injection h with _ h; subst h
     exact ⟨row, hr, hc⟩
   · cases h
 · cases h
theorem Z37 (hT : TabOK M.P M.C.T) {own : Bool} {i es : Nat} {rs : List (List DC)} (d : HpSat η w own (.loc i) (.deep false es rs)) {r c : Nat} {row : List DC} {sv v : SV} {e : Ent} {t : TypeId}
   (hr : rs[r]? = some row) (hc : row[c]? = some (.v sv)) (he : η.get (.loc i) = some (some e)) (h1 : M.C.T.size t = 1) (ho : Y8 M.C.T t [sv] = some v) :
   ∃ u, (loadVar t ⟨e.g, e.base + (r * es + c), none⟩).run M.P w = .ok u w ∧ Den η v u := by
 simp only [HpSat] at d
 obtain ⟨d1, _⟩ := d
 have hfr : (Zo rs)[r]? = some (row.map ZY) := by rw [Y5, hr]; rfl
 rcases d1 with ⟨h, _⟩ | ⟨e', arr, T, fz, h2, h3, _, h4⟩
 · rw [he] at h; cases h
 rw [he] at h2; injection h2 with h2; injection h2 with h2; subst h2
 obtain ⟨h5, h6⟩ := h4 r _ hfr
 have hp : VH M.C.T t c (row.map ZY) = .val v := by
   unfold VH
   have hlt := (List.getElem?_eq_some_iff.1 hc).1
   have hd : (row.map ZY).drop c = sv :: (row.map ZY).drop (c + 1) := by
     rw [List.drop_eq_getElem_cons (by simpa using hlt)]
     congr 1
     have := (List.getElem?_eq_some_iff.1 hc).2
     rw [List.getElem_map, this]; rfl
   rw [hd, h1]
   simp only [Ux, ho]
 obtain ⟨_, _, u, hu, hd⟩ := Wp (v := v) (O := ([] : Hps)) (nx := 0) (O' := []) (nx' := 0) hT h3 h6 (by rw [hp]; exact ⟨rfl, rfl, rfl⟩)
 exact ⟨u, by rw [← Nat.add_assoc]; exact hu, hd⟩
theorem ZbK (A : At M η w O nx ρ lk) (t : TypeId) (x : Operand) (hr : (opR M.C lk O nx (.load t x)).ok O nx v O' nx') : ZO M η w ⟨dst, .load t x, ty, pos, af, gd⟩ ρ v O' nx' := by
 simp only [opR, Zbp] at hr
 split at hr
 case h_2 => exact hr.elim
 rename_i p hx
 have plain : ∀ {hr : (Z5F M.C.T (Xw M.C O) t p).ok O nx v O' nx'}, ZO M η w ⟨dst, .load t x, ty, pos, af, gd⟩ ρ v O' nx' := fun {hr} => by
   obtain ⟨e1, e2, a, u, h1, h2, h3⟩ := Z09 A.T A.H (A.L _ _ hx) hr
   exact A.same (.inl (by simp [execOp, h1, Instr.loadAt, Instr.sureAddr, h2])) h3 e1 e2
 split at hr
 · rename_i i r es c
   split at hr
   · rename_i es' rs hb
     split at hr
     · rename_i hes hsz
       have hes := Zk hes
       have hsz := Zk hsz
       subst hes
       have hxv := A.L _ _ hx
       simp only [Den] at hxv
       obtain ⟨e, he, hv⟩ := hxv
       cases hcd : Wf rs r c with
       | none => rw [hcd] at hr; exact hr.elim
       | some p =>
         obtain ⟨a, d⟩ := p
         rw [hcd] at hr
         have hr : (Z8G M.C nx i es rs r c t d).ok O nx v O' nx' := hr
         obtain ⟨row, hrow, hcell⟩ := Z50 hcd
         have hsat := (A.H.own.1 i _ hb).1
         cases d with
         | v sv =>
           simp only [Z8G] at hr
           split at hr
           · rename_i v0 ho
             obtain ⟨u, hu, hd⟩ := Z37 A.T hsat hrow hcell he hsz ho
             exact A.val hr ⟨u, .inl (by simp [execOp, hv, Instr.loadAt, Instr.sureAddr, hu]), hd⟩
           · exact hr.elim
         | kid es' rows =>
           simp only [Z8G] at hr
           split at hr
           · rename_i q hs
             obtain ⟨rfl, rfl, rfl⟩ := hr
             obtain ⟨x, hH⟩ := A.H.take hb hrow hcell
             have hsome : (lkp i O).isSome := by rw [hb]; rfl
             have hinx : i ≠ nx := fun h => by have := A.H.lt hb; omega
             have hs2 := (hH.own.1 i (.deep false es (setC rs r c (.v (.sl (.loc nx) 0 es' rows.length none)))) (by rw [Z7, if_neg hinx, ZN i _ O i hsome, if_pos rfl])).1
             have hget : (η ++ [x]).get (.loc i) = some (some e) := Env.get_mono (List.prefix_append _ _) he
             obtain ⟨u, hu, hd⟩ := Z37 A.T hs2 (r := r) (c := c) (row := row.set c (.v (.sl (.loc nx) 0 es' rows.length none))) (by rw [Zt, if_pos rfl, hrow]; rfl) (by rw [List.getElem?_set_self (List.getElem?_eq_some_iff.1 hcell).1]) hget hsz (v := .sl (.loc nx) 0 es' rows.length none) (by simp only [Y8, hs])
             exact ⟨u, w, _, .inl (by simp [execOp, hv, Instr.loadAt, Instr.sureAddr, hu]), List.prefix_append _ _, hH, hd, fun _ _ => rfl⟩
           · exact hr.elim
     · exact hr.elim
   · exact plain (hr := hr)
 · exact plain (hr := hr)
end
theorem Z24 {ks : Bool × List CK} {key : SV} : ∀ {rs : List (List SV)} {i j : Nat} {v : SV}, YH ks key i rs = some (j, v) → ∃ k, i ≤ j ∧ rs[j - i]? = some [k, v] ∧ U1 ks key k = true
 | [], i, j, v, h => by simp [YH] at h
 | r :: rs, i, j, v, h => by
   unfold YH at h
   split at h
   · rename_i k u
     split at h
     · rename_i hk
       simp only [Option.some.injEq, Prod.mk.injEq] at h
       obtain ⟨rfl, rfl⟩ := h
       exact ⟨k, Nat.le_refl _, by simp, hk⟩
     · obtain ⟨k', h1, h2, h3⟩ := Z24 h
       refine ⟨k', by omega, ?_, h3⟩
       have : j - i = (j - (i + 1)) + 1 := by omega
       rw [this]; simpa using h2
   · cases h
section
variable {M : Mx} {η : Env} {w : World} {O : Hps} {nx : Nat} {ρ : Operand → Value} {lk : Operand → Option SV} {v : SV} {O' : Hps} {nx' : Nat} {dst : Option Tmp} {ty : TypeId} {pos : String} {af : Array Edge} {gd : Option (Nat × Bool)}
def Yr (w : World) (g : Nat) (es : Array MapEntry) : World := { w with heap := w.heap.setIfInBounds g (.map es es.size) }
def JW (η : Env) (rs : List (List SV)) (es : Array MapEntry) : Prop := es.size = rs.length ∧ ∀ j row, rs[j]? = some row → ∃ e : MapEntry, es[j]? = some e ∧ e.born = j ∧ DenL η row [e.key, e.val]
theorem map_set (H : HeapOK M η w O nx) {i : Nat} {rs rs' : List (List SV)} {en : Ent} {es es' : Array MapEntry} (hh : lkp i O = some (.mp rs)) (hb : η[i]? = some (some en)) (h0 : en.base = 0) (h3 : w.heap[en.g]? = some (.map es es.size)) (hm : JW η rs' es') :
   (setObj en.g (.map es' es'.size)).run M.P w = .ok () (Yr w en.g es') ∧ HeapOK M η (Yr w en.g es') (setK i (.mp rs') O) nx := by
 have hlt : en.g < w.heap.size := (Array.getElem?_eq_some_iff.1 h3).1
 refine ⟨by simp [setObj, Sem.run, h3, Yr], ?_⟩
 refine H.upd hh hb (fun k hk => ?_) (by simp [Yr]) rfl rfl rfl ?_
 · simp [Yr, Array.getElem?_setIfInBounds, Ne.symm hk]
 · simp only [HpSat, Env.get]
   exact ⟨en, es', hb, h0, by simp [Yr, hlt], hm.1, hm.2⟩
theorem Z0i {rs : List (List SV)} {es : Array MapEntry} (hm : JW η rs es) {j : Nat} {k v0 v : SV} {u x : Value} (hj : rs[j]? = some [k, v0]) (hk : Den η k u) (hv : Den η v x) : JW η (rs.modify j (putV v)) (es.modify j fun e => { e with key := u, val := x }) := by
 refine ⟨by rw [Array.size_modify, List.length_modify]; exact hm.1, fun a row ha => ?_⟩
 rw [List.getElem?_modify] at ha
 cases hr : rs[a]? with
 | none => rw [hr] at ha; cases ha
 | some r0 =>
   rw [hr] at ha
   obtain ⟨e, e1, e2, e3⟩ := hm.2 a r0 hr
   rw [Array.getElem?_modify, e1]
   by_cases hja : j = a
   · subst hja
     rw [hj] at hr; cases hr
     simp only [if_true, Option.map_eq_map, Option.map_some, Option.some.injEq, putV] at ha
     subst ha
     refine ⟨{ e with key := u, val := x }, by simp, e2, ?_⟩
     simp only [DenL]
     exact ⟨_, _, rfl, hk, _, _, rfl, hv, rfl⟩
   · simp only [if_neg hja, Option.map_eq_map, Option.map_some, Option.some.injEq, id] at ha
     subst ha
     exact ⟨e, by simp [hja], e2, e3⟩
theorem UD {rs : List (List SV)} {es : Array MapEntry} (hm : JW η rs es) {k v : SV} {u x : Value} (hk : Den η k u) (hv : Den η v x) : JW η (rs ++ [[k, v]]) (es.push ⟨u, x, es.size⟩) := by
 refine ⟨by simp [hm.1], fun a row ha => ?_⟩
 rw [Array.getElem?_push]
 by_cases hl : a < rs.length
 · rw [List.getElem?_append_left hl] at ha
   obtain ⟨e, e1, e2, e3⟩ := hm.2 a row ha
   exact ⟨e, by rw [if_neg (by rw [hm.1]; omega)]; exact e1, e2, e3⟩
 · rw [List.getElem?_append_right (by omega)] at ha
   have : a - rs.length = 0 := by
     cases hq : a - rs.length with
     | zero => rfl
     | succ n => rw [hq] at ha; simp at ha
   rw [this] at ha
   simp only [List.getElem?_cons_zero, Option.some.injEq] at ha
   subst ha
   have : a = es.size := by rw [hm.1]; omega
   subst this
   refine ⟨⟨u, x, es.size⟩, by simp, rfl, ?_⟩
   simp only [DenL]
   exact ⟨_, _, rfl, hk, _, _, rfl, hv, rfl⟩
theorem Wu {u : Value} (h : Instr.sameBits 10000 u u = true) (w : World) : (Instr.keyThatStays u u).run M.P w = .ok u w := by simp [Instr.keyThatStays, h]
theorem setC_setC {rs : List (List DC)} {r c : Nat} {d d' : DC} : setC (setC rs r c d) r c d' = setC rs r c d' := by
 apply List.ext_getElem?
 intro a
 rw [Zt, Zt, Zt]
 by_cases ha : a = r
 · subst ha
   cases rs[a]? <;> simp
 · simp [ha]
theorem Z6V {rs : List (List DC)} {k d d' : DC} : rs ++ [[k, d']] = setC (rs ++ [[k, d]]) rs.length 1 d' := by
 apply List.ext_getElem?
 intro a
 rw [Zt]
 by_cases ha : a = rs.length
 · subst ha; simp
 · rw [if_neg ha]
   by_cases hlt' : a < rs.length
   · rw [List.getElem?_append_left hlt', List.getElem?_append_left hlt']
   · rw [List.getElem?_eq_none (by simp; omega), List.getElem?_eq_none (by simp; omega)]
theorem Z25 (H : HeapOK M η w O nx) {i es : Nat} {rs rsv : List (List DC)} {e : Ent} {ens ens' : Array MapEntry} (hb : lkp i O = some (.deep true es rs)) (he : η[i]? = some (some e)) (h3 : w.heap[e.g]? = some (.map ens ens.size)) (hm' : JW η (Zo rsv) ens')
   (hkid : ∀ a b y, Yk rsv a b = some y → Yk rs a b = some y ∧ ZF (.map ens' ens'.size) es a b = ZF (.map ens ens.size) es a b) : HeapOK M η (Yr w e.g ens') (setK i (.deep true es rsv) O) nx := by
 have hsat := (H.own.1 i _ hb).1
 obtain ⟨_, hD, hes⟩ := hsat.deep_ent
 have h2 := (hD e he).1
 have hK := (hD e he).2 _ h3
 have hlt : e.g < w.heap.size := (Array.getElem?_eq_some_iff.1 h3).1
 have hother : ∀ k, k ≠ e.g → (Yr w e.g ens').heap[k]? = w.heap[k]? := fun k hk => by simp [Yr, Array.getElem?_setIfInBounds, Ne.symm hk]
 have hself : (Yr w e.g ens').heap[e.g]? = some (.map ens' ens'.size) := by simp [Yr, hlt]
 refine H.updF hb he hother (by simp [Yr]) rfl rfl rfl ?_ (Nat.le_refl _) fun m fm => ?_
 · refine HpSat.deep_of (⟨e, ens', show η.get (.loc i) = some (some e) from he, h2, hself, hm'.1, hm'.2⟩ : MpSat η (Yr w e.g ens') (.loc i) (Zo rsv)) hes fun e' h1 => ?_
   rw [show η.get (.loc i) = some (some e) from he] at h1; injection h1 with h1; injection h1 with h1; subst h1
   refine ⟨h2, fun o' ho => ?_⟩
   rw [hself] at ho; injection ho with ho; subst ho
   refine ⟨fun a b es'' rows'' hk => ?_, fun a b a' b' y y' z z' k h1 h2 h3 h4 h5 h6 => ?_⟩
   · obtain ⟨q1, q2⟩ := hkid a b _ hk
     obtain ⟨z, q3, q4, q5⟩ := hK.sat a b _ _ q1
     refine ⟨z, q2.trans q3, q4.keep fun k hz => hother k fun e => ?_, q5⟩
     subst e; exact q5 hz
   · obtain ⟨q1, q2⟩ := hkid a b _ h1
     obtain ⟨q1', q2'⟩ := hkid a' b' _ h2
     exact hK.ne a b a' b' y y' z z' k q1 q1' (q2 ▸ h3) (q2' ▸ h4) h5 h6
 · rcases fm.of (e := e) (show η.get (.loc i) = some (some e) from he) with rfl | fm
   · exact feet.own he
   · simp only [kid] at fm
     obtain ⟨o', a, b, y, z, f1, f2, f3, f4⟩ := fm
     rw [hself] at f1; injection f1 with f1; subst f1
     obtain ⟨q1, q2⟩ := hkid a b _ f2
     exact ⟨e, he, .inr (by simp only [kid]; exact ⟨_, a, b, y, z, h3, q1, q2 ▸ f3, f4⟩)⟩
theorem Z6W {rs : List (List DC)} {es j : Nat} {k0 d0 : DC} {sv : SV} {ens : Array MapEntry} {en : MapEntry} {x : Value} (hm : JW η (Zo rs) ens) (k2 : rs[j]? = some [k0, d0]) (n1 : ens[j]? = some en) (hdk0 : Den η (ZY k0) en.key) (hdx : Den η sv x) :
   JW η (Zo (setC rs j 1 (.v sv))) (ens.modify j fun e => { e with key := en.key, val := x }) ∧
   ∀ a b y, Yk (setC rs j 1 (.v sv)) a b = some y → Yk rs a b = some y ∧ ZF (.map (ens.modify j fun e => { e with key := en.key, val := x }) (ens.modify j fun e => { e with key := en.key, val := x }).size) es a b = ZF (.map ens ens.size) es a b := by
 have hfr : (Zo rs)[j]? = some [ZY k0, ZY d0] := by rw [Y5, k2]; rfl
 refine ⟨?_, fun a b y hk => ?_⟩
 · have : Zo (setC rs j 1 (.v sv)) = (Zo rs).modify j (putV sv) := by
     apply List.ext_getElem?
     intro a
     rw [Vm, List.getElem?_modify]
     by_cases ha : a = j
     · subst ha; rw [if_pos rfl, hfr]; simp [putV, ZY]
     · have hja : ¬ j = a := fun h => ha h.symm
       rw [if_neg ha]; simp [hja]
   rw [this]
   exact Z0i hm hfr hdk0 hdx
 · obtain ⟨q1, q2⟩ := XB hk
   refine ⟨q1, ?_⟩
   simp only [ZF]
   rw [Array.getElem?_modify]
   by_cases ha : j = a
   · subst ha
     rw [if_pos rfl, n1]
     obtain ⟨y1, y2⟩ := y
     obtain ⟨row, r1, r2⟩ := kidAt_some.1 q1
     rw [k2] at r1; injection r1 with r1; subst r1
     match b, r2, q2 with
     | 0, _, _ => rfl
     | 1, _, q2 => exact (q2 ⟨rfl, rfl⟩).elim
     | b + 2, r2, _ => simp at r2
   · rw [if_neg ha]
theorem Z6X {rs : List (List DC)} {es : Nat} {key sv : SV} {ens : Array MapEntry} {u x : Value} (hm : JW η (Zo rs) ens) (hdk : Den η key u) (hdx : Den η sv x) :
   JW η (Zo (rs ++ [[.v key, .v sv]])) (ens.push ⟨u, x, ens.size⟩) ∧
   ∀ a b y, Yk (rs ++ [[.v key, .v sv]]) a b = some y → Yk rs a b = some y ∧ ZF (.map (ens.push ⟨u, x, ens.size⟩) (ens.push ⟨u, x, ens.size⟩).size) es a b = ZF (.map ens ens.size) es a b := by
 refine ⟨?_, fun a b y hk => ?_⟩
 · have : Zo (rs ++ [[.v key, .v sv]]) = Zo rs ++ [[key, sv]] := by simp [Zo, ZY]
   rw [this]
   exact UD hm hdk hdx
 · obtain ⟨y1, y2⟩ := y
   obtain ⟨row, k1, k2⟩ := kidAt_some.1 hk
   by_cases hlt' : a < rs.length
   · rw [List.getElem?_append_left hlt'] at k1
     refine ⟨kidAt_some.2 ⟨row, k1, k2⟩, ?_⟩
     simp only [ZF]
     rw [Array.getElem?_push, if_neg (by have := hm.1; rw [ZS] at this; omega)]
   · rw [List.getElem?_append_right (by omega)] at k1
     cases hz : a - rs.length with
     | succ n => rw [hz] at k1; simp at k1
     | zero =>
       rw [hz] at k1
       simp at k1
       subst k1
       match b, k2 with
       | 0, k2 => cases k2
       | 1, k2 => cases k2
       | b + 2, k2 => simp at k2
theorem Wh (A : At M η w O nx ρ lk) {kt et : TypeId} {ks : Bool × List CK} {key sv : SV} {i es : Nat} {rs : List (List DC)} {u x : Value} {e : Ent} (hks : M.C.T.key kt = some ks) (hdk : Den η key u) (hdx : Den η sv x) (he : η[i]? = some (some e))
   (hb : lkp i O = some (.deep true es rs)) (hr : (Res.need (Xx ks key = true ∧ Jf ks (Zo rs)) (VJ M.C.T et O i (fun d => .deep true es (setD ks key d rs)) sv)).ok O nx v O' nx') :
   ∃ ens w', w.heap[e.g]? = some (.map ens ens.size) ∧ (Instr.checkKey false 10000 kt u).run M.P w = .ok () w ∧
     (do match ← Instr.findKey kt u ens.toList with
           | some (k, _) => do
             let k' ← Instr.keyThatStays (((ens[k]?).map (·.key)).getD u) u
             setObj e.g (.map (ens.modify k fun e' => { e' with key := k', val := x }) ens.size)
           | none => setObj e.g (.map (ens.push { key := u, val := x, born := ens.size }) (ens.size + 1)) : Sem Unit).run M.P w = .ok () w' ∧ HeapOK M η w' O' nx' ∧ v = .tup [] := by
 obtain ⟨⟨hko, hro⟩, hr⟩ := hr
 have hsat := (A.H.own.1 i _ hb).1
 obtain ⟨_, hD, hes⟩ := hsat.deep_ent
 have hsat' := hsat
 simp only [HpSat, Env.get] at hsat'
 obtain ⟨⟨⟨e', ens, h1, h2, h3, h4, h5⟩, _⟩, _⟩ := hsat'
 rw [show η.get (.loc i) = some (some e) from he] at h1; injection h1 with h1; injection h1 with h1; subst h1
 have hm : JW η (Zo rs) ens := ⟨h4, h5⟩
 have hK := (hD e he).2 _ h3
 have hlt : e.g < w.heap.size := (Array.getElem?_eq_some_iff.1 h3).1
 have hsome : (lkp i O).isSome := by rw [hb]; rfl
 obtain ⟨f, hf, hhit, hval⟩ := XX A.T hks hko hdk (w := w) hro (VN (es := ens.toList) (i := 0) (by simpa using hm.1) fun j row hj => by
   obtain ⟨en, g1, g2, g3⟩ := hm.2 j row hj
   exact ⟨en, by simpa using g1, by omega, g3⟩)
 have hck := (A.T.key kt ks hks).1 w η false key u hko hdk
 rw [Vl] at hhit
 have fin : ∀ {ens' : Array MapEntry} {r : Nat} {k0 : DC}, (setD ks key (.v sv) rs)[r]? = some [k0, .v sv] → (∀ d, setD ks key d rs = setC (setD ks key (.v sv) rs) r 1 d) → JW η (Zo (setD ks key (.v sv) rs)) ens' →
     (∀ a b y, Yk (setD ks key (.v sv) rs) a b = some y → Yk rs a b = some y ∧ ZF (.map ens' ens'.size) es a b = ZF (.map ens ens.size) es a b) →
     (setObj e.g (.map ens' ens'.size)).run M.P w = .ok () (Yr w e.g ens') ∧ HeapOK M η (Yr w e.g ens') O' nx' ∧ v = .tup [] := by
   intro ens' r k0 hrow hset hm' hkid
   obtain ⟨H2, rfl, rfl⟩ := Z0e hr (mp := true) (es := es) (rsv := setD ks key (.v sv) rs) (r := r) (c := 1) (fun d => by rw [hset d]) rfl hrow rfl hsome (Z25 A.H hb he h3 hm' hkid)
   exact ⟨by simp [setObj, Sem.run, h3, Yr], H2, rfl⟩
 cases hq : findD ks key 0 rs with
 | none =>
   rw [hq] at hhit
   have hhit : f = none := hhit
   subst hhit
   have hs : ∀ d, setD ks key d rs = rs ++ [[.v key, d]] := fun d => by unfold setD; rw [hq]
   have hp := Z6X (es := es) hm hdk hdx
   rw [← hs] at hp
   obtain ⟨g1, g2, g3⟩ := fin (ens' := ens.push ⟨u, x, ens.size⟩) (r := rs.length) (k0 := .v key) (by rw [hs]; simp) (fun d => by
     rw [hs, hs]
     exact Z6V) hp.1 hp.2
   rw [Array.size_push] at g1
   exact ⟨ens, _, h3, hck, by simp [hf]; rw [g1], g2, g3⟩
 | some p =>
   obtain ⟨j, d0⟩ := p
   rw [hq] at hhit
   obtain ⟨xv, rfl, _⟩ := hhit
   obtain ⟨k0, _, k2, k3⟩ := Wt hq
   rw [Nat.sub_zero] at k2
   have hfr : (Zo rs)[j]? = some [ZY k0, ZY d0] := by rw [Y5, k2]; rfl
   obtain ⟨en, n1, n2, n3⟩ := hm.2 j _ hfr
   simp only [DenL] at n3
   obtain ⟨_, _, e1, hdk0, _, _, e2, _, e3⟩ := n3
   cases e1; cases e2
   obtain ⟨heq, hsb⟩ := Ws k3 hdk hdk0
   have hs : ∀ d, setD ks key d rs = setC rs j 1 d := fun d => by unfold setD; rw [hq]; exact Vn k2
   have hjl : j < rs.length := (List.getElem?_eq_some_iff.1 k2).1
   have hp := Z6W (es := es) hm k2 n1 hdk0 hdx
   rw [← hs] at hp
   obtain ⟨g1, g2, g3⟩ := fin (ens' := ens.modify j fun e => { e with key := en.key, val := x }) (r := j) (k0 := k0) (by rw [hs, Zt, if_pos rfl, k2]; rfl) (fun d => by
     rw [hs, hs]
     exact setC_setC.symm) hp.1 hp.2
   rw [Array.size_modify] at g1
   rw [← heq] at g1
   exact ⟨ens, _, h3, hck, by simp [hf, n1, ← heq, Wu hsb]; rw [g1], heq ▸ g2, g3⟩
theorem Z0j (A : At M η w O nx ρ lk) (t : TypeId) (m k x : Operand) (hr : (opR M.C lk O nx (.mapUpdate t m k x)).ok O nx v O' nx') : ZO M η w ⟨dst, .mapUpdate t m k x, ty, pos, af, gd⟩ ρ v O' nx' := by
 simp only [opR, Uz] at hr
 split at hr
 case h_2 => exact hr.elim
 rename_i kt et hs
 obtain ⟨d, hd, hm⟩ := A.T.und t (by rw [hs]; simp)
 rw [hs] at hm; simp only [ShM] at hm; subst hm
 split at hr
 case h_2 => exact hr.elim
 rename_i ks hks
 split at hr
 case h_2 => exact hr.elim
 rename_i key hi
 split at hr
 case h_2 => exact hr.elim
 rename_i sv hx
 split at hr
 case h_2 => exact hr.elim
 rename_i i hmv
 split at hr
 case h_3 => exact hr.elim
 case h_2 =>
   rename_i es rs hb
   have hxv := A.L _ _ hmv
   simp only [Den, Env.get] at hxv
   obtain ⟨e, he, hv⟩ := hxv
   obtain ⟨ens, w', g1, g2, g3, g4, rfl⟩ := Wh A hks (A.L _ _ hi) (A.L _ _ hx) he hb hr
   have hrun : (Instr.mapUpdate t (ρ m) (ρ k) (ρ x)).run M.P w = .ok () w' := by
     rw [← g3]
     simp [Instr.mapUpdate, Z4 hd, hv, Xt g1, g2]
     rfl
   exact ⟨undef, w', η, .inr ⟨by simp [execOp, hrun], rfl⟩, List.prefix_rfl, g4, J9 η, fun h => by cases h⟩
 rename_i rs hb
 obtain ⟨⟨hko, hro⟩, rfl, rfl, rfl⟩ := hr
 have hxv := A.L _ _ hmv
 simp only [Den, Env.get] at hxv
 obtain ⟨e, he, hv⟩ := hxv
 obtain ⟨hsat, _⟩ := A.H.own.1 i _ hb
 simp only [HpSat, Env.get] at hsat
 obtain ⟨e', es, h1, h2, h3, h4⟩ := hsat
 rw [he] at h1; cases h1
 have hm : JW η rs es := h4
 have hdk := A.L _ _ hi
 have hdx := A.L _ _ hx
 obtain ⟨f, hf, hhit⟩ := Jy A.T hks hko hdk (w := w) hro (VN (es := es.toList) (i := 0) (by simpa using hm.1) fun j row hj => by
   obtain ⟨en, g1, g2, g3⟩ := hm.2 j row hj
   exact ⟨en, by simpa using g1, by omega, g3⟩)
 have hck := (A.T.key kt ks hks).1 w η false key (ρ k) hko hdk
 unfold setM
 cases hq : YH ks key 0 rs with
 | none =>
   rw [hq] at hhit
   have hhit : f = none := hhit
   subst hhit
   obtain ⟨g1, g2⟩ := map_set A.H hb he h2 h3 (UD hm hdk hdx)
   rw [Array.size_push] at g1
   exact ⟨undef, _, η, .inr ⟨by simp [execOp, Instr.mapUpdate, Z4 hd, hv, Xt h3, hck, hf]; rw [g1]; rfl, rfl⟩, List.prefix_rfl, g2, J9 η, fun h => by cases h⟩
 | some p =>
   obtain ⟨j, u⟩ := p
   rw [hq] at hhit
   obtain ⟨xv, rfl, _⟩ := hhit
   obtain ⟨k0, _, k2, k3⟩ := Z24 hq
   rw [Nat.sub_zero] at k2
   obtain ⟨en, n1, n2, n3⟩ := hm.2 j _ k2
   simp only [DenL] at n3
   obtain ⟨_, _, e1, hdk0, _, _, e2, _, e3⟩ := n3
   cases e1; cases e2
   obtain ⟨heq, hsb⟩ := Ws k3 hdk hdk0
   obtain ⟨g1, g2⟩ := map_set A.H hb he h2 h3 (Z0i hm k2 (heq ▸ hdk0) hdx)
   rw [Array.size_modify] at g1
   exact ⟨undef, _, η, .inr ⟨by simp [execOp, Instr.mapUpdate, Z4 hd, hv, Xt h3, hck, hf, n1, ← heq, Wu hsb]; rw [g1]; rfl, rfl⟩, List.prefix_rfl, g2, J9 η, fun h => by cases h⟩
theorem Z8S (A : At M η w O nx ρ lk) (t : TypeId) (m k x : Operand) (hr : (opR M.C lk O nx (.insert t m k x)).ok O nx v O' nx') : ZO M η w ⟨dst, .insert t m k x, ty, pos, af, gd⟩ ρ v O' nx' := by
 obtain ⟨u, w', η', h1, h2, h3, h4, _⟩ := Z0j (dst := dst) (ty := ty) (pos := pos) (af := af) (gd := gd) A t m k x hr
 exact ⟨u, w', η', h1, h2, h3, h4, fun h => by cases h⟩
theorem Z0k {w : World} {g : Nat} {es : Array MapEntry} (h : w.heap[g]? = some (.map es es.size)) : Yr w g es = w := by
 have hh : w.heap.setIfInBounds g (.map es es.size) = w.heap := by
   apply Array.ext_getElem?
   intro k
   rw [Array.getElem?_setIfInBounds]
   split
   · rename_i e; subst e; rw [h]; simp [(Array.getElem?_eq_some_iff.1 h).1]
   · rfl
 unfold Yr
 rw [hh]
theorem Z0l (A : At M η w O nx ρ lk) {kt et : TypeId} {ks : Bool × List CK} {key : SV} {i es : Nat} {rs : List (List DC)} {u : Value} {e : Ent} (hks : M.C.T.key kt = some ks) (hdk : Den η key u) (he : η[i]? = some (some e))
   (hb : lkp i O = some (.deep true es rs)) (hr : (Res.need (Xx ks key = true ∧ Jf ks (Zo rs)) (.findD (findD ks key 0 rs) (fun j d => Z6E nx i es rs j d)
     (Z2U M.C.T et fun z => .upd i (.deep true es (rs ++ [[.v key, .v z]])) (.tup [z, .int .i64 (rs.length : Int)])))).ok O nx v O' nx') :
   ∃ ens w' r η', w.heap[e.g]? = some (.map ens ens.size) ∧ (Instr.checkKey false 10000 kt u).run M.P w = .ok () w ∧
     (do match ← Instr.findKey kt u ens.toList with
           | some (k, x) => do
             let k' ← Instr.keyThatStays (((ens[k]?).map (·.key)).getD u) u
             setObj e.g (.map (ens.modify k fun e' => { e' with key := k' }) ens.size)
             pure (.tuple #[x, goInt (((ens[k]?).map (·.born)).getD 0)])
           | none => do
             let z ← zeroValue et
             setObj e.g (.map (ens.push { key := u, val := z, born := ens.size }) (ens.size + 1))
             pure (.tuple #[z, goInt ens.size]) : Sem Value).run M.P w = .ok r w' ∧ η <+: η' ∧ HeapOK M η' w' O' nx' ∧ Den η' v r := by
 obtain ⟨⟨hko, hro⟩, hr⟩ := hr
 have hsat := (A.H.own.1 i _ hb).1
 have hsat' := hsat
 simp only [HpSat, Env.get] at hsat'
 obtain ⟨⟨⟨e', ens, h1, h2, h3, h4, h5⟩, _⟩, _⟩ := hsat'
 rw [show η.get (.loc i) = some (some e) from he] at h1; injection h1 with h1; injection h1 with h1; subst h1
 have hm : JW η (Zo rs) ens := ⟨h4, h5⟩
 obtain ⟨f, hf, hhit, hval⟩ := XX A.T hks hko hdk (w := w) hro (VN (es := ens.toList) (i := 0) (by simpa using hm.1) fun j row hj => by
   obtain ⟨en, g1, g2, g3⟩ := hm.2 j row hj
   exact ⟨en, by simpa using g1, by omega, g3⟩)
 have hck := (A.T.key kt ks hks).1 w η false key u hko hdk
 rw [Vl] at hhit
 have hln : ens.size = rs.length := by rw [h4, ZS]
 cases hq : findD ks key 0 rs with
 | none =>
   rw [hq] at hhit hr
   have hhit : f = none := hhit
   subst hhit
   obtain ⟨z, zv, hz, hdz, hr⟩ := U9 A hr
   obtain ⟨rfl, rfl, rfl⟩ := hr
   have hp := Z6X (es := es) hm hdk hdz
   have g1 : (setObj e.g (.map (ens.push ⟨u, zv, ens.size⟩) (ens.size + 1))).run M.P w = .ok () (Yr w e.g (ens.push ⟨u, zv, ens.size⟩)) := by
     simp [setObj, Sem.run, h3, Yr]
   refine ⟨ens, _, .tuple #[zv, .int .i64 (rs.length : Int)], η, h3, hck, by simp [hf, hz, goInt]; rw [g1]; simp [hln], List.prefix_rfl, Z25 A.H hb he h3 hp.1 hp.2, ?_⟩
   simp only [Den, DenL]
   exact ⟨_, rfl, _, _, rfl, hdz, _, _, rfl, rfl, rfl⟩
 | some p =>
   obtain ⟨j, d⟩ := p
   rw [hq] at hhit hr
   obtain ⟨xv, rfl, hdx⟩ := hhit
   obtain ⟨en, hen, hxv⟩ := hval j xv rfl
   obtain ⟨k0, _, k2, k3⟩ := Wt hq
   rw [Nat.sub_zero] at k2
   have hen' : ens[j]? = some en := by simpa using hen
   have hfr : (Zo rs)[j]? = some [ZY k0, ZY d] := by rw [Y5, k2]; rfl
   obtain ⟨en', n1, n2, n3⟩ := hm.2 j _ hfr
   rw [hen'] at n1; injection n1 with n1; subst n1
   simp only [DenL] at n3
   obtain ⟨_, _, e1, hdk0, _, _, e2, hdv, e3⟩ := n3
   cases e1; cases e2
   obtain ⟨heq, hsb⟩ := Ws k3 hdk hdk0
   have hes : (ens.modify j fun e => { e with key := u }) = ens := by
     apply Array.ext_getElem?
     intro a
     rw [Array.getElem?_modify]
     split
     · rename_i hja; subst hja; rw [hen', heq]; rfl
     · rfl
   have g1 : (setObj e.g (.map ens ens.size)).run M.P w = .ok () w := by
     have : (setObj e.g (.map ens ens.size)).run M.P w = .ok () (Yr w e.g ens) := by simp [setObj, Sem.run, h3, Yr]
     rwa [Z0k h3] at this
   have hrun : (do match ← Instr.findKey kt u ens.toList with
           | some (k, x) => do
             let k' ← Instr.keyThatStays (((ens[k]?).map (·.key)).getD u) u
             setObj e.g (.map (ens.modify k fun e' => { e' with key := k' }) ens.size)
             pure (.tuple #[x, goInt (((ens[k]?).map (·.born)).getD 0)])
           | none => do
             let z ← zeroValue et
             setObj e.g (.map (ens.push { key := u, val := z, born := ens.size }) (ens.size + 1))
             pure (.tuple #[z, goInt ens.size]) : Sem Value).run M.P w = .ok (.tuple #[xv, .int .i64 (j : Int)]) w := by
     simp [hf, hen', ← heq, Wu hsb, hes, g1, goInt, n2]
   simp only [Z6E] at hr
   cases d with
   | v s =>
     obtain ⟨rfl, rfl, rfl⟩ := hr
     refine ⟨ens, w, _, η, h3, hck, hrun, List.prefix_rfl, A.H, ?_⟩
     simp only [Den, DenL]
     exact ⟨_, rfl, _, _, rfl, hdx, _, _, rfl, rfl, rfl⟩
   | kid es' rows =>
     obtain ⟨rfl, rfl, rfl⟩ := hr
     obtain ⟨x, hH⟩ := A.H.take hb k2 (c := 1) rfl
     rw [Vn k2]
     have hsome : (lkp i O).isSome := by rw [hb]; rfl
     have hinx : i ≠ nx := fun h => by have := A.H.lt hb; omega
     have hs2 := (hH.own.1 i (.deep true es (setC rs j 1 (.v (.sl (.loc nx) 0 es' rows.length none)))) (by rw [Z7, if_neg hinx, ZN i _ O i hsome, if_pos rfl])).1
     obtain ⟨e2, o2, v2, q1, q2, q3, q4, _⟩ := V2 hs2 (r := j) (c := 1) (row := [k0, .v (.sl (.loc nx) 0 es' rows.length none)]) (by rw [Zt, if_pos rfl, k2]; rfl) rfl
     have hget : (η ++ [x]).get (.loc i) = some (some e) := Env.get_mono (List.prefix_append _ _) he
     rw [hget] at q1; injection q1 with q1; injection q1 with q1; subst q1
     rw [h3] at q2; injection q2 with q2; subst q2
     simp only [ZF, hen', Option.map_some, Option.some.injEq] at q3
     subst q3 hxv
     refine ⟨ens, w, _, _, h3, hck, hrun, List.prefix_append _ _, hH, ?_⟩
     rw [Den]
     simp only [DenL]
     exact ⟨_, rfl, _, _, rfl, q4, _, _, rfl, rfl, rfl⟩
theorem Z5M (A : At M η w O nx ρ lk) (t : TypeId) (m k : Operand) (hr : (opR M.C lk O nx (.mapEntry t m k)).ok O nx v O' nx') : ZO M η w ⟨dst, .mapEntry t m k, ty, pos, af, gd⟩ ρ v O' nx' := by
 simp only [opR, Z2V] at hr
 split at hr
 case h_2 => exact hr.elim
 rename_i kt et hs
 obtain ⟨d, hd, hm⟩ := A.T.und t (by rw [hs]; simp)
 rw [hs] at hm; simp only [ShM] at hm; subst hm
 split at hr
 case h_2 => exact hr.elim
 rename_i ks hks
 split at hr
 case h_2 => exact hr.elim
 rename_i key hi
 split at hr
 case h_2 => exact hr.elim
 rename_i i hmv
 split at hr
 case h_3 => exact hr.elim
 case h_2 =>
   rename_i es rs hb
   have hxv := A.L _ _ hmv
   simp only [Den, Env.get] at hxv
   obtain ⟨e, he, hv⟩ := hxv
   obtain ⟨ens, w', r, η', g1, g2, g3, g4, g5, g6⟩ := Z0l A hks (A.L _ _ hi) he hb hr
   have hrun : (Instr.mapEntry t (ρ m) (ρ k)).run M.P w = .ok r w' := by
     rw [← g3]
     simp [Instr.mapEntry, Z4 hd, hv, Xt g1, g2]
     rfl
   exact ⟨r, w', η', .inl (by simp [execOp, hrun]), g4, g5, g6, fun h => by cases h⟩
 rename_i rs hb
 obtain ⟨⟨hko, hro⟩, hr⟩ := hr
 have hxv := A.L _ _ hmv
 simp only [Den, Env.get] at hxv
 obtain ⟨e, he, hv⟩ := hxv
 obtain ⟨hsat, _⟩ := A.H.own.1 i _ hb
 simp only [HpSat, Env.get] at hsat
 obtain ⟨e', es, h1, h2, h3, h4⟩ := hsat
 rw [he] at h1; cases h1
 have hm : JW η rs es := h4
 have hdk := A.L _ _ hi
 obtain ⟨f, hf, hhit⟩ := Jy A.T hks hko hdk (w := w) hro (VN (es := es.toList) (i := 0) (by simpa using hm.1) fun j row hj => by
   obtain ⟨en, g1, g2, g3⟩ := hm.2 j row hj
   exact ⟨en, by simpa using g1, by omega, g3⟩)
 have hck := (A.T.key kt ks hks).1 w η false key (ρ k) hko hdk
 cases hq : YH ks key 0 rs with
 | none =>
   rw [hq] at hhit hr
   have hhit : f = none := hhit
   subst hhit
   obtain ⟨z, zv, hz, hdz, hr⟩ := U9 A hr
   obtain ⟨rfl, rfl, rfl⟩ := hr
   obtain ⟨g1, g2⟩ := map_set A.H hb he h2 h3 (UD hm hdk hdz)
   rw [Array.size_push] at g1
   refine ⟨.tuple #[zv, .int .i64 (rs.length : Int)], _, η, .inl (by simp [execOp, Instr.mapEntry, Z4 hd, hv, Xt h3, hck, hf, hz]; rw [g1]; simp [goInt, hm.1]), List.prefix_rfl, g2, ?_, fun h => by cases h⟩
   simp only [Den, DenL]
   exact ⟨_, rfl, _, _, rfl, hdz, _, _, rfl, rfl, rfl⟩
 | some p =>
   obtain ⟨j, u⟩ := p
   rw [hq] at hhit hr
   obtain ⟨xv, rfl, hdx⟩ := hhit
   obtain ⟨rfl, rfl, rfl⟩ := hr
   obtain ⟨k0, _, k2, k3⟩ := Z24 hq
   rw [Nat.sub_zero] at k2
   obtain ⟨en, n1, n2, n3⟩ := hm.2 j _ k2
   simp only [DenL] at n3
   obtain ⟨_, _, e1, hdk0, _, _, e2, _, e3⟩ := n3
   cases e1; cases e2
   obtain ⟨heq, hsb⟩ := Ws k3 hdk hdk0
   have hes : (es.modify j fun e => { e with key := ρ k }) = es := by
     apply Array.ext_getElem?
     intro a
     rw [Array.getElem?_modify]
     split
     · rename_i hja; subst hja; rw [n1, heq]; rfl
     · rfl
   obtain ⟨g1, g2⟩ := map_set A.H hb he h2 h3 hm
   rw [Z0k h3] at g1
   refine ⟨.tuple #[xv, .int .i64 (j : Int)], w, η, .inl (by simp [execOp, Instr.mapEntry, Z4 hd, hv, Xt h3, hck, hf, n1, ← heq, Wu hsb, hes]; rw [g1]; simp [goInt, n2]), List.prefix_rfl, A.H, ?_, fun h => by cases h⟩
   simp only [Den, DenL]
   exact ⟨_, rfl, _, _, rfl, hdx, _, _, rfl, rfl, rfl⟩
theorem Z6Y (H : HeapOK M η w O nx) {i es r c : Nat} {rs : List (List DC)} {row : List DC} {d0 : DC} {s : SV} {u : Value} {e : Ent} {arr : Array Value} {T : TypeId} {fz : Nat × Nat} (hb : lkp i O = some (.deep false es rs)) (he : η[i]? = some (some e)) (hw : w.heap[e.g]? = some (.cells arr T fz)) (hrow : rs[r]? = some row) (hc : row[c]? = some d0) (hd : Den η s u) (h1 : u.oneCell' = true)
   {w' : World} (hw' : w'.heap[e.g]? = some (.cells (arr.toList.take (r * es + c) ++ [u] ++ arr.toList.drop (r * es + c + 1)).toArray T fz)) (hother : ∀ k, k ≠ e.g → w'.heap[k]? = w.heap[k]?) (hsz : w'.heap.size = w.heap.size) (ho : w'.os = w.os) (ht : w'.tape = w.tape) (hp : w'.output = w.output) (hdr : w.drawn ≤ w'.drawn) :
   r * es + c + 1 ≤ arr.size ∧ HeapOK M η w' (setK i (.deep false es (setC rs r c (.v s))) O) nx := by
 have hsat := (H.own.1 i _ hb).1
 have hsat' := hsat
 obtain ⟨_, hD, _⟩ := hsat.deep_ent
 have hbase := (hD e he).1
 have hK := (hD e he).2 _ hw
 simp only [HpSat] at hsat'
 obtain ⟨d1, _⟩ := hsat'
 have hfr : (Zo rs)[r]? = some (row.map ZY) := by rw [Y5, hrow]; rfl
 have hclt := (List.getElem?_eq_some_iff.1 hc).1
 rcases d1 with ⟨h, _⟩ | ⟨e', arr', T', fz', q1, q2, q3, q4⟩
 · rw [show η.get (.loc i) = some (some e) from he] at h; cases h
 rw [show η.get (.loc i) = some (some e) from he] at q1; injection q1 with q1; injection q1 with q1; subst q1
 rw [hw] at q2; injection q2 with q2; injection q2 with q2 q2b q2c; subst q2 q2b q2c
 obtain ⟨g1, g2, g3, g4⟩ := q3 rfl
 rw [g4] at q4
 have hdl : DenL η [s] [u] := by simp only [DenL]; exact ⟨_, _, rfl, hd, rfl⟩
 obtain ⟨hfit, hrows⟩ := Z0d (c := c) g2 g3 q4 hfr hdl (fun x hx => by rw [List.mem_singleton.1 hx]; exact h1) (by simp; omega)
 simp only [List.length_singleton] at hfit hrows
 have hset : (row.map ZY).take c ++ [s] ++ (row.map ZY).drop (c + 1) = (row.set c (.v s)).map ZY := by
   rw [List.map_set, List.set_eq_take_append_cons_drop, if_pos (by simpa using hclt)]
   simp [ZY]
 rw [hset] at hrows
 have hflat : (Zo rs).set r ((row.set c (.v s)).map ZY) = Zo (setC rs r c (.v s)) := by
   apply List.ext_getElem?
   intro a
   rw [Vm, List.getElem?_set]
   by_cases ha : r = a
   · subst ha
     have := (List.getElem?_eq_some_iff.1 hfr).1
     simp only [if_pos, hfr, Option.map_some, if_true, this, List.map_set]
   · rw [if_neg ha, if_neg (fun h => ha h.symm)]
 rw [hflat] at hrows
 have hrl : row.length = es := by have := (q4 r _ hfr).1; simpa using this
 have harr : ∀ a, a ≠ r * es + c → (arr.toList.take (r * es + c) ++ [u] ++ arr.toList.drop (r * es + c + 1)).toArray[a]? = arr[a]? := by
   intro a ha
   rw [List.getElem?_toArray, List.append_assoc, List.getElem?_append]
   split
   · rename_i hlt
     rw [List.length_take, Array.length_toList] at hlt
     rw [List.getElem?_take, if_pos (by omega), Array.getElem?_toList]
   · rename_i hge
     rw [List.length_take, Array.length_toList, Nat.min_eq_left (by omega)] at hge ⊢
     rw [List.singleton_append, List.getElem?_cons, if_neg (by omega), List.getElem?_drop, Array.getElem?_toList]
     congr 1; omega
 have hsz2 : (arr.toList.take (r * es + c) ++ [u] ++ arr.toList.drop (r * es + c + 1)).toArray.size = arr.size := by
   simp only [List.size_toArray, List.length_append, List.length_take, List.length_drop, Array.length_toList, List.length_singleton]; omega
 have hkid : ∀ a b y, Yk (setC rs r c (.v s)) a b = some y → Yk rs a b = some y ∧ ZF (.cells (arr.toList.take (r * es + c) ++ [u] ++ arr.toList.drop (r * es + c + 1)).toArray T fz) es a b = ZF (.cells arr T fz) es a b := by
   intro a b y h
   obtain ⟨h5, h6⟩ := XB h
   refine ⟨h5, harr _ fun hab => h6 ?_⟩
   obtain ⟨y1, y2⟩ := y
   obtain ⟨rowa, h7, h8⟩ := kidAt_some.1 h5
   have hal : rowa.length = es := by have := (q4 a (rowa.map ZY) (by rw [Y5, h7]; rfl)).1; simpa using this
   have hb2 := (List.getElem?_eq_some_iff.1 h8).1
   have key : ∀ {a b r c : Nat}, b < es → c < es → a < r → a * es + b = r * es + c → False := by
     intro a b r c hb hc har he
     have : (a + 1) * es ≤ r * es := Nat.mul_le_mul_right _ har
     rw [Nat.succ_mul] at this; omega
   rcases Nat.lt_trichotomy a r with h9 | rfl | h9
   · exact (key (by omega) (by omega) h9 hab).elim
   · exact ⟨rfl, by omega⟩
   · exact (key (by omega) (by omega) h9 hab.symm).elim
 refine ⟨hfit, H.updF hb he hother hsz ho ht hp ?_ hdr fun m fm => ?_⟩
 · refine HpSat.deep_of (mp := false) (.inr ⟨e, _, T, fz, show η.get (.loc i) = some (some e) from he, hw', fun _ => ⟨by rw [hsz2]; exact g1, by rw [hsz2]; exact g2, by rw [← hflat, List.length_set]; exact g3, g4⟩, by rw [g4]; exact hrows⟩) (fun h => by cases h) fun e' h2 => ?_
   rw [show η.get (.loc i) = some (some e) from he] at h2; injection h2 with h2; injection h2 with h2; subst h2
   refine ⟨hbase, fun o' ho' => ?_⟩
   rw [hw'] at ho'; injection ho' with ho'; subst ho'
   refine ⟨fun a b es'' rows'' hk => ?_, fun a b a' b' y y' z z' k h1 h2 h3 h4 h5 h6 => ?_⟩
   · obtain ⟨p1, p2⟩ := hkid a b _ hk
     obtain ⟨z, p3, p4, p5⟩ := hK.sat a b _ _ p1
     refine ⟨z, p2.trans p3, p4.keep fun k hz => hother k fun e => ?_, p5⟩
     subst e; exact p5 hz
   · obtain ⟨p1, p2⟩ := hkid a b _ h1
     obtain ⟨p1', p2'⟩ := hkid a' b' _ h2
     exact hK.ne a b a' b' y y' z z' k p1 p1' (p2 ▸ h3) (p2' ▸ h4) h5 h6
 · rcases fm.of (e := e) (show η.get (.loc i) = some (some e) from he) with rfl | fm
   · exact feet.own he
   · simp only [kid] at fm
     obtain ⟨o', a, b, y, z, f1, f2, f3, f4⟩ := fm
     rw [hw'] at f1; injection f1 with f1; subst f1
     obtain ⟨p1, p2⟩ := hkid a b _ f2
     exact ⟨e, he, .inr (by simp only [kid]; exact ⟨_, a, b, y, z, hw, p1, p2 ▸ f3, f4⟩)⟩
theorem ZaJ (A : At M η w O nx ρ lk) (t : TypeId) (x y : Operand) (hr : (opR M.C lk O nx (.store t x y)).ok O nx v O' nx') : ZO M η w ⟨dst, .store t x y, ty, pos, af, gd⟩ ρ v O' nx' := by
 simp only [opR, Z9Q] at hr
 split at hr
 · exact hr.elim
 rename_i hok
 have hsh : M.C.T.sh t ≠ .other := by intro h; simp [okSh, h] at hok
 split at hr
 · exact hr.elim
 rename_i hsz0
 have hsz0 := Xl hsz0
 split at hr
 case h_2 => exact hr.elim
 rename_i p hx
 split at hr
 case h_2 => exact hr.elim
 rename_i sv hy
 split at hr
 · rename_i i r es c
   split at hr
   · rename_i es' rs hb
     split at hr
     case h_2 => exact hr.elim
     rename_i hes hs1
     have hes := Zk hes
     have hs1 := Zk hs1
     subst hes
     split at hr
     case h_2 => exact hr.elim
     rename_i s hvs
     have hxv := A.L _ _ hx
     have hyv := A.L _ _ hy
     simp only [Den] at hxv
     obtain ⟨e, he, hv⟩ := hxv
     cases hcd : Wf rs r c with
     | none => rw [hcd] at hr; exact hr.elim
     | some q =>
       obtain ⟨a, d0⟩ := q
       rw [hcd] at hr
       have hr : (VJ M.C.T t O i (fun d => .deep false es (rs.modify r fun row => row.set c d)) s).ok O nx v O' nx' := hr
       obtain ⟨row, hrow, hcell⟩ := Z50 hcd
       obtain ⟨h5, h6⟩ := JZ hyv hvs
       simp only [DenL] at h5
       obtain ⟨u, us, h5, h7, h8⟩ := h5
       have hsat := (A.H.own.1 i _ hb).1
       simp only [HpSat] at hsat
       obtain ⟨d1, hD⟩ := hsat
       rcases d1 with ⟨h, _⟩ | ⟨e', arr, T, fz, q1, q2, q3, q4⟩
       · rw [he] at h; cases h
       rw [he] at q1; injection q1 with q1; injection q1 with q1; subst q1
       obtain ⟨g1, g2, g3, g4⟩ := q3 rfl
       obtain ⟨ie, hie, hies, _⟩ := A.T.info t hsh
       have hus : us = [] := h8
       subst hus
       have hone : ∀ z ∈ [u], z.oneCell' = true := fun z hz => h6 z (by rw [h5]; exact hz)
       have hfit : r * es + c + 1 ≤ arr.size := by
         have hfr : (Zo rs)[r]? = some (row.map ZY) := by rw [Y5, hrow]; rfl
         obtain ⟨_, g6⟩ := q4 r _ hfr
         obtain ⟨z, g7, _⟩ := g6 c (ZY d0) (by rw [List.getElem?_map, hcell]; rfl)
         rw [g4] at g7
         have := (Array.getElem?_eq_some_iff.1 g7).1
         omega
       have hst := Yo (P := M.P) e.g (r * es + c) T fz [u] 0 arr w q2 (by simpa using hfit) g1 hone
       simp only [Nat.add_zero] at hst
       have hcs : (ρ y).cells.size = ie.size := by
         have : (ρ y).cells.toList.length = M.C.T.size t := by rw [h5, hs1]; rfl
         rw [hies]; simpa using this
       obtain ⟨_, hH⟩ := Z6Y A.H hb he q2 hrow hcell h7 (hone u (List.mem_singleton.2 rfl)) (setRow_heap w e.g arr _ T fz q2) (fun k hk => setRow_other w e.g k _ hk) (setRow_size _ _ _) rfl rfl rfl (Nat.le_refl _)
       have hsome : (lkp i O).isSome := by rw [hb]; rfl
       obtain ⟨H2, rfl, rfl⟩ := Z0e hr (mp := false) (es := es) (rsv := setC rs r c (.v s)) (r := r) (c := c) (row := row.set c (.v s)) (fun d => by rw [setC_setC]; rfl) rfl (by rw [Zt, if_pos rfl, hrow]; rfl) (by rw [List.getElem?_set_self (List.getElem?_eq_some_iff.1 hcell).1]) hsome hH
       refine ⟨undef, _, η, .inr ⟨?_, rfl⟩, List.prefix_rfl, H2, J9 η, fun h => by cases h⟩
       rw [g4, Nat.zero_add] at hv
       simp only [execOp, hv, Instr.storeAt, Instr.sureAddr, storeVar, Sem.run_bind, Sem.run_pure, Result.andThen_ok, Zj hie, Sem.run_ite, hcs]
       rw [if_neg (by simp)]
       simp only [Sem.run_bind, Sem.run_pure, Result.andThen_ok, h5, hst]
       rfl
   · exact UT A t x y hsh hsz0 hx hy hr
 · exact UT A t x y hsh hsz0 hx hy hr
end
section
variable {M : Mx} {η : Env} {w : World} {O : Hps} {nx : Nat} {ρ : Operand → Value} {lk : Operand → Option SV} {v : SV} {O' : Hps} {nx' : Nat} {dst : Option Tmp} {ty : TypeId} {pos : String} {af : Array Edge} {gd : Option (Nat × Bool)}
theorem Z6Z {rs : List (List SV)} {es : Array MapEntry} (hm : JW η rs es) {n : Int} (h0 : 0 ≤ n) (h1 : n < (rs.length : Int)) : es.findIdx? (fun e => (e.born : Int) == n) = some n.toNat := by
 have at' : ∀ (j : Nat) (hj : j < es.size), es[j].born = j := fun j hj => by
   obtain ⟨e, e1, e2, _⟩ := hm.2 j _ (List.getElem?_eq_getElem (by rw [← hm.1]; exact hj))
   rw [Array.getElem?_eq_getElem hj] at e1
   injection e1 with e1
   rw [e1]; exact e2
 have hn : n.toNat < es.size := by rw [hm.1]; omega
 rw [Array.findIdx?_eq_some_iff_getElem]
 refine ⟨hn, ?_, fun j hj => ?_⟩
 · rw [at' _ hn]; simp; omega
 · rw [at' j (by omega)]; simp; omega
theorem Z38 (A : At M η w O nx ρ lk) (t : TypeId) (m k x : Operand) (hr : (opR M.C lk O nx (.entryStore t m k x)).ok O nx v O' nx') : ZO M η w ⟨dst, .entryStore t m k x, ty, pos, af, gd⟩ ρ v O' nx' := by
 simp only [opR, WW] at hr
 split at hr
 case h_2 => exact hr.elim
 rename_i kn n hi
 split at hr
 case h_2 => exact hr.elim
 rename_i sv hx
 split at hr
 case h_2 => exact hr.elim
 rename_i i hmv
 split at hr
 case h_3 => exact hr.elim
 case h_2 =>
   rename_i es rs hb
   split at hr
   case h_2 => exact hr.elim
   rename_i kt et hs
   obtain ⟨⟨hn0, hn1⟩, hr⟩ := hr
   have hxv := A.L _ _ hmv
   simp only [Den, Env.get] at hxv
   obtain ⟨e, he, hv⟩ := hxv
   have hsat := (A.H.own.1 i _ hb).1
   simp only [HpSat, Env.get] at hsat
   obtain ⟨⟨⟨e', ens, h1, h2, h3, h4, h5⟩, _⟩, _⟩ := hsat
   rw [show η.get (.loc i) = some (some e) from he] at h1; injection h1 with h1; injection h1 with h1; subst h1
   have hm : JW η (Zo rs) ens := ⟨h4, h5⟩
   have hsome : (lkp i O).isSome := by rw [hb]; rfl
   have hdk : ρ k = .int kn n := A.L _ _ hi
   have hdx := A.L _ _ hx
   have hlt : n.toNat < rs.length := by omega
   have hrow0 : rs[n.toNat]? = some rs[n.toNat] := List.getElem?_eq_getElem hlt
   have hfr0 : (Zo rs)[n.toNat]? = some (rs[n.toNat].map ZY) := by rw [Y5, hrow0]; rfl
   obtain ⟨en, n1, n2, n3⟩ := hm.2 _ _ hfr0
   obtain ⟨k0, d0, hkv, hdk0⟩ : ∃ k0 d0, rs[n.toNat] = [k0, d0] ∧ Den η (ZY k0) en.key := by
     cases hq : rs[n.toNat] with
     | nil => rw [hq] at n3; simp [DenL] at n3
     | cons a l =>
       rw [hq] at n3
       cases l with
       | nil => simp [DenL] at n3
       | cons b l =>
         cases l with
         | nil => simp only [List.map_cons, List.map_nil, DenL] at n3; obtain ⟨_, _, e1, d1, _⟩ := n3; cases e1; exact ⟨a, b, rfl, d1⟩
         | cons c l =>
           simp only [List.map_cons, DenL] at n3
           obtain ⟨_, _, e1, _, _, _, e2, _, _, _, e3, _⟩ := n3
           cases e1; cases e2; cases e3
   rw [hkv] at hrow0
   have hmod : (ens.modify n.toNat fun e => { e with key := en.key, val := ρ x }) = ens.modify n.toNat fun e => { e with val := ρ x } := by
     apply Array.ext_getElem?
     intro a
     rw [Array.getElem?_modify, Array.getElem?_modify]
     split
     · rename_i hja; subst hja; rw [n1]; rfl
     · rfl
   obtain ⟨hp1, hp2⟩ := Z6W (es := es) hm hrow0 n1 hdk0 hdx
   rw [hmod] at hp1 hp2
   obtain ⟨H2, rfl, rfl⟩ := Z0e hr (mp := true) (es := es) (rsv := setC rs n.toNat 1 (.v sv)) (r := n.toNat) (c := 1) (row := [k0, .v sv]) (fun d => by rw [Vn hrow0, setC_setC]) (by rw [Vn hrow0]) (by rw [Zt, if_pos rfl, hrow0]; rfl) rfl hsome (by rw [Vn hrow0]; exact Z25 A.H hb he h3 hp1 hp2)
   have g1 : (setObj e.g (.map (ens.modify n.toNat fun e => { e with val := ρ x }) ens.size)).run M.P w = .ok () (Yr w e.g (ens.modify n.toNat fun e => { e with val := ρ x })) := by
     simp [setObj, Sem.run, h3, Yr]
   exact ⟨undef, _, η, .inr ⟨by simp [execOp, Instr.entryStore, hv, Xt h3, hdk, asInt, asIntOf, Z6Z hm hn0 (by rw [ZS]; exact hn1)]; rw [g1]; rfl, rfl⟩, List.prefix_rfl, H2, J9 η, fun h => by cases h⟩
 rename_i rs hb
 obtain ⟨⟨hn0, hn1⟩, rfl, rfl, rfl⟩ := hr
 have hxv := A.L _ _ hmv
 simp only [Den, Env.get] at hxv
 obtain ⟨e, he, hv⟩ := hxv
 obtain ⟨hsat, _⟩ := A.H.own.1 i _ hb
 simp only [HpSat, Env.get] at hsat
 obtain ⟨e', es, h1, h2, h3, h4⟩ := hsat
 rw [he] at h1; cases h1
 have hm : JW η rs es := h4
 have hdk : ρ k = .int kn n := A.L _ _ hi
 have hdx := A.L _ _ hx
 have hlt : n.toNat < rs.length := by omega
 have hrow : rs[n.toNat]? = some rs[n.toNat] := List.getElem?_eq_getElem hlt
 obtain ⟨en, n1, n2, n3⟩ := hm.2 _ _ hrow
 obtain ⟨k0, v0, hkv, hdk0⟩ : ∃ k0 v0, rs[n.toNat] = [k0, v0] ∧ Den η k0 en.key := by
   cases hq : rs[n.toNat] with
   | nil => rw [hq] at n3; simp [DenL] at n3
   | cons a l =>
     rw [hq] at n3
     cases l with
     | nil => simp [DenL] at n3
     | cons b l =>
       cases l with
       | nil => simp only [DenL] at n3; obtain ⟨_, _, e1, d1, _⟩ := n3; cases e1; exact ⟨a, b, rfl, d1⟩
       | cons c l =>
         simp only [DenL] at n3
         obtain ⟨_, _, e1, _, _, _, e2, _, _, _, e3, _⟩ := n3
         cases e1; cases e2; cases e3
 rw [hkv] at hrow
 have hmod : (es.modify n.toNat fun e => { e with key := en.key, val := ρ x }) = es.modify n.toNat fun e => { e with val := ρ x } := by
   apply Array.ext_getElem?
   intro a
   rw [Array.getElem?_modify, Array.getElem?_modify]
   split
   · rename_i hja; subst hja; rw [n1]; rfl
   · rfl
 have hput := Z0i hm hrow hdk0 hdx
 rw [hmod] at hput
 obtain ⟨g1, g2⟩ := map_set A.H hb he h2 h3 hput
 rw [Array.size_modify] at g1
 exact ⟨undef, _, η, .inr ⟨by simp [execOp, Instr.entryStore, hv, Xt h3, hdk, asInt, asIntOf, Z6Z hm hn0 hn1]; rw [g1]; rfl, rfl⟩, List.prefix_rfl, g2, J9 η, fun h => by cases h⟩
end
section
variable {M : Mx} {η : Env} {w : World} {O : Hps} {nx : Nat} {ρ : Operand → Value} {lk : Operand → Option SV} {v : SV} {O' : Hps} {nx' : Nat} {dst : Option Tmp} {ty : TypeId} {pos : String} {af : Array Edge} {gd : Option (Nat × Bool)}
theorem ZcJ (A : At M η w O nx ρ lk) (args : Array Operand) (ts : Array TypeId) (hr : (opR M.C lk O nx (.call ⟨.builtin .min, args, ts⟩)).ok O nx v O' nx') : ZO M η w ⟨dst, .call ⟨.builtin .min, args, ts⟩, ty, pos, af, gd⟩ ρ v O' nx' := by
 simp only [opR, XU, minR] at hr
 split at hr
 case h_2 => exact hr.elim
 rename_i x y ha
 obtain rfl : args = #[x, y] := by apply Array.ext'; simpa using ha
 split at hr
 case h_2 => exact hr.elim
 rename_i k a hx
 split at hr
 case h_2 => exact hr.elim
 rename_i k' b hy
 have h1 := XG (A.L _ _ hx)
 have h2 := XG (A.L _ _ hy)
 exact A.val hr ⟨.int k (if b < a then b else a), .inl (by simp [execOp, resolve, invoke, builtin, h1, h2, Builtin.min_, Builtin.min2]), rfl⟩
theorem ZcK (A : At M η w O nx ρ lk) (args : Array Operand) (ts : Array TypeId) (hr : (opR M.C lk O nx (.call ⟨.builtin .max, args, ts⟩)).ok O nx v O' nx') : ZO M η w ⟨dst, .call ⟨.builtin .max, args, ts⟩, ty, pos, af, gd⟩ ρ v O' nx' := by
 simp only [opR, XU, maxR] at hr
 split at hr
 case h_2 => exact hr.elim
 rename_i x y ha
 obtain rfl : args = #[x, y] := by apply Array.ext'; simpa using ha
 split at hr
 case h_2 => exact hr.elim
 rename_i k a hx
 split at hr
 case h_2 => exact hr.elim
 rename_i k' b hy
 have h1 := XG (A.L _ _ hx)
 have h2 := XG (A.L _ _ hy)
 exact A.val hr ⟨.int k (if a < b then b else a), .inl (by simp [execOp, resolve, invoke, builtin, h1, h2, Builtin.max_, Builtin.max2]), rfl⟩
theorem ZaK (A : At M η w O nx ρ lk) (t : TypeId) (x : Operand) (hr : (opR M.C lk O nx (.range t x)).ok O nx v O' nx') : ZO M η w ⟨dst, .range t x, ty, pos, af, gd⟩ ρ v O' nx' := by
 simp only [opR, Z9V] at hr
 split at hr
 case h_2 => exact hr.elim
 rename_i hs
 obtain ⟨d, hd, hm⟩ := A.T.und t (by rw [hs]; simp)
 rw [hs] at hm; simp only [ShM] at hm; subst hm
 split at hr
 case h_2 => exact hr.elim
 rename_i s hx
 obtain ⟨rfl, rfl, rfl⟩ := hr
 have hxv := UQ (A.L _ _ hx)
 refine ⟨.pointer (some ⟨w.heap.size, 0, none⟩), Yq w (.stringIter ⟨s.toArray⟩ 0), η ++ [some ⟨w.heap.size, 0, 0⟩], .inl ?_, List.prefix_append _ _, ?_, ?_, fun _ h => absurd h (by simp)⟩
 · simp [execOp, hxv, Instr.range, Z4 hd, Yq]
 · refine A.H.alloc (w' := Yq w (.stringIter ⟨s.toArray⟩ 0)) rfl rfl rfl rfl 0 0 ?_
   simp only [HpSat]
   exact ⟨_, Zz A.H.len _, rfl, Y4 (w := w) (w' := Yq w (.stringIter ⟨s.toArray⟩ 0)) rfl⟩
 · simp only [Den]; exact ⟨_, Zz A.H.len _, by simp⟩
theorem ZbL (A : At M η w O nx ρ lk) (x : Operand) (b : Bool) (hr : (opR M.C lk O nx (.next x b)).ok O nx v O' nx') : ZO M η w ⟨dst, .next x b, ty, pos, af, gd⟩ ρ v O' nx' := by
 simp only [opR, Zbs] at hr
 split at hr
 case h_2 => exact hr.elim
 split at hr
 case h_2 => exact hr.elim
 rename_i i r es c hx
 split at hr
 case h_2 => exact hr.elim
 rename_i s pos' hh
 split at hr
 case h_2 => exact hr.elim
 rename_i hz
 have hz := Zk hz
 have hxv := A.L _ _ hx
 simp only [Den, Env.get] at hxv
 obtain ⟨en, hb, hxv⟩ := hxv
 obtain ⟨hsat, _⟩ := A.H.own.1 i _ hh
 simp only [HpSat, Env.get] at hsat
 obtain ⟨en', h1, h2, h3⟩ := hsat
 rw [hb] at h1; injection h1 with h1; injection h1 with h1; subst h1
 rw [h2, hz] at hxv
 simp only [Nat.zero_add] at hxv
 have hlt : en.g < w.heap.size := (Array.getElem?_eq_some_iff.1 h3).1
 have hget : (getObj en.g).run M.P w = .ok (.stringIter ⟨s.toArray⟩ pos') w := by simp [getObj, Sem.run, h3]
 simp only [Res.ok, decide_eq_true_eq] at hr
 split at hr
 · rename_i hp
   obtain ⟨rfl, rfl, rfl⟩ := hr
   have hset : (setObj en.g (.stringIter ⟨s.toArray⟩ (pos' + (Utf8.decode ⟨s.toArray⟩ pos').2))).run M.P w = .ok () { w with heap := w.heap.setIfInBounds en.g (.stringIter ⟨s.toArray⟩ (pos' + (Utf8.decode ⟨s.toArray⟩ pos').2)) } := by simp [setObj, Sem.run, h3]
   refine ⟨.tuple #[.bool true, .int .i64 (pos' : Int), .int .i32 ((Utf8.decode ⟨s.toArray⟩ pos').1 : Int)], { w with heap := w.heap.setIfInBounds en.g (.stringIter ⟨s.toArray⟩ (pos' + (Utf8.decode ⟨s.toArray⟩ pos').2)) }, η, .inl ?_, List.prefix_rfl, ?_, ?_, fun h => by cases h⟩
   · simp [execOp, hxv, Instr.next, hget, J8, hp, hset, goInt]
   · refine A.H.upd hh hb (fun k hk => ?_) (by simp) rfl rfl rfl ?_
     · simp [Array.getElem?_setIfInBounds, Ne.symm hk]
     · simp only [HpSat, Env.get]
       exact ⟨en, hb, h2, by simp [hlt]⟩
   · simp only [Den, DenL]
     exact ⟨_, rfl, _, _, rfl, rfl, _, _, rfl, rfl, _, _, rfl, rfl, rfl⟩
 · rename_i hp
   obtain ⟨rfl, rfl, rfl⟩ := hr
   refine A.same (u := .tuple #[.bool false]) (.inl ?_) ?_ rfl rfl
   · simp [execOp, hxv, Instr.next, hget, J8, hp]
   · simp only [Den, DenL]; exact ⟨_, rfl, _, _, rfl, rfl, rfl⟩
theorem Z26 (l : List UInt8) : (l.map bytesRow).map Z43 = l := by
 rw [List.map_map]
 conv => rhs; rw [← List.map_id l]
 apply List.map_congr_left
 intro b _
 simp [bytesRow, Z43]
theorem Z1t {η : Env} : ∀ {l : List UInt8} {news : List Value}, DenLL η 1 (l.map bytesRow) news → news = l.map fun c => .int .u8 (c.toNat : Int)
 | [], news, h => by simpa [DenLL] using h
 | c :: l, news, h => by
   simp only [List.map_cons, DenLL] at h
   obtain ⟨us, ws, rfl, _, h1, h2⟩ := h
   simp only [bytesRow, DenL, Den] at h1
   obtain ⟨u, us', rfl, rfl, rfl⟩ := h1
   rw [Z1t h2]; rfl
theorem Z70 (A : At M η w O nx ρ lk) (a b : TypeId) (x : Operand) (hr : (opR M.C lk O nx (.convert a b x)).ok O nx v O' nx') : ZO M η w ⟨dst, .convert a b x, ty, pos, af, gd⟩ ρ v O' nx' := by
 simp only [opR, Zbq] at hr
 split at hr
 · exact hr.elim
 rename_i hok
 have hsa : M.C.T.sh a ≠ .other := by intro h; simp [okSh, h] at hok
 obtain ⟨da, hda, hma⟩ := A.T.und a hsa
 have bytesd : ∀ {t e : TypeId}, WV M.C.T t = some e → M.P.underlying t = some (.slice e) ∧ M.P.underlying e = some (.int .u8) := by
   intro t e h
   unfold WV at h
   split at h
   case h_2 => cases h
   rename_i q hq
   split at h
   case h_2 => cases h
   rename_i hq'
   injection h with h; subst h
   obtain ⟨d, hd, hm⟩ := A.T.und t (by rw [hq]; simp)
   rw [hq] at hm; simp only [ShM] at hm; subst hm
   obtain ⟨d, hd', hm⟩ := A.T.und q (by rw [hq']; simp)
   rw [hq'] at hm; simp only [ShM] at hm; subst hm
   exact ⟨hd, hd'⟩
 split at hr
 · rename_i k n hx
   have hxv := XG (A.L _ _ hx)
   split at hr
   case h_3 => exact hr.elim
   · rename_i k' hs
     obtain ⟨d, hd, hm⟩ := A.T.und b (by rw [hs]; simp)
     rw [hs] at hm; simp only [ShM] at hm; subst hm
     refine A.val hr ⟨.int k' (k'.wrap n), .inl ?_, rfl⟩
     have : (convert a b (.int k n)).run M.P w = .ok (.int k' (k'.wrap n)) w := by
       simp only [convert, Sem.run_bind, Z4 hda, Z4 hd, Result.andThen_ok]
       cases da <;> rfl
     simp [execOp, hxv, this]
   · rename_i hs
     obtain ⟨d, hd, hm⟩ := A.T.und b (by rw [hs]; simp)
     rw [hs] at hm; simp only [ShM] at hm; subst hm
     refine A.val hr ⟨.string (Utf8.encode n), .inl ?_, rfl⟩
     have : (convert a b (.int k n)).run M.P w = .ok (.string (Utf8.encode n)) w := by
       simp only [convert, Sem.run_bind, Z4 hda, Z4 hd, Result.andThen_ok]
       cases da <;> rfl
     simp [execOp, hxv, this]
 · rename_i s hx
   have hxv := UQ (A.L _ _ hx)
   split at hr
   · rename_i hs
     obtain ⟨d, hd, hm⟩ := A.T.und b (by rw [hs]; simp)
     rw [hs] at hm; simp only [ShM] at hm; subst hm
     refine A.val hr ⟨.string ⟨s.toArray⟩, .inl ?_, rfl⟩
     have : (convert a b (.string ⟨s.toArray⟩)).run M.P w = .ok (.string ⟨s.toArray⟩) w := by
       simp only [convert, Sem.run_bind, Z4 hda, Z4 hd, Result.andThen_ok]
       cases da <;> rfl
     simp [execOp, hxv, this]
   · split at hr
     case h_2 => exact hr.elim
     rename_i e he
     obtain ⟨hd, hd'⟩ := bytesd he
     split at hr
     case h_2 => exact hr.elim
     rename_i hsz
     have hsz := Zk hsz
     split at hr
     case h_2 => exact hr.elim
     rename_i hsrc
     obtain ⟨da', hda', hma'⟩ := A.T.und a (by rw [hsrc]; simp)
     rw [hsrc] at hma'; simp only [ShM] at hma'; subst hma'
     obtain ⟨hlen, rfl, rfl, rfl⟩ := hr
     have hrun := run_bytes_of_string (P := M.P) w a b e ⟨s.toArray⟩ hda' hd hd'
     rw [J8] at hrun
     have hge := grownCap_ge w s.length 0 e
     have hbs : (Go.bytesRow ⟨s.toArray⟩ (grownCap w s.length 0 e)).size = grownCap w s.length 0 e := by simp [Go.bytesRow, J8]; omega
     refine ⟨_, w.drew.alloc (.cells (Go.bytesRow ⟨s.toArray⟩ (grownCap w s.length 0 e)) e ((Go.bytesRow ⟨s.toArray⟩ (grownCap w s.length 0 e)).size, (Go.bytesRow ⟨s.toArray⟩ (grownCap w s.length 0 e)).size + 1)), η ++ [some ⟨w.heap.size, 0, grownCap w s.length 0 e⟩],
       .inl (by simp only [execOp, hxv, Sem.run_bind, hrun, Result.andThen_ok, Sem.run_pure]), List.prefix_append _ _, ?_, V0 A.H.len hge, fun _ h => absurd h (by simp)⟩
     refine HeapOK.alloc (w' := w.drew.alloc (.cells (Go.bytesRow ⟨s.toArray⟩ (grownCap w s.length 0 e)) e ((Go.bytesRow ⟨s.toArray⟩ (grownCap w s.length 0 e)).size, (Go.bytesRow ⟨s.toArray⟩ (grownCap w s.length 0 e)).size + 1))) A.H rfl rfl rfl rfl 0 _ ?_
     simp only [HpSat]
     right
     refine ⟨_, Go.bytesRow ⟨s.toArray⟩ (grownCap w s.length 0 e), e, ((Go.bytesRow ⟨s.toArray⟩ (grownCap w s.length 0 e)).size, (Go.bytesRow ⟨s.toArray⟩ (grownCap w s.length 0 e)).size + 1), Zz A.H.len _, Y4 (w := w) (o := .cells (Go.bytesRow ⟨s.toArray⟩ (grownCap w s.length 0 e)) e ((Go.bytesRow ⟨s.toArray⟩ (grownCap w s.length 0 e)).size, (Go.bytesRow ⟨s.toArray⟩ (grownCap w s.length 0 e)).size + 1)) rfl, fun _ => ⟨?_, by rw [hbs, Nat.mul_one], by simpa using hge, rfl⟩, ?_⟩
     · intro o ho h; omega
     · intro k row hk
       rw [List.getElem?_map] at hk
       cases hq : s[k]? with
       | none => rw [hq] at hk; cases hk
       | some c =>
         rw [hq] at hk
         injection hk with hk
         subst hk
         refine ⟨rfl, fun j sv hj => ?_⟩
         cases j with
         | succ j => simp [bytesRow] at hj
         | zero =>
           simp [bytesRow] at hj
           subst hj
           have hkl := (List.getElem?_eq_some_iff.1 hq).1
           refine ⟨.int .u8 (c.toNat : Int), ?_, rfl, rfl⟩
           simp only [Go.bytesRow, Nat.zero_add, Nat.mul_one, Nat.add_zero]
           rw [Array.getElem?_append_left (by simpa using hkl)]
           simp [hq]
 · rename_i bb r es len lim hx
   split at hr
   case h_2 => exact hr.elim
   rename_i hs
   obtain ⟨d, hd, hm⟩ := A.T.und b (by rw [hs]; simp)
   rw [hs] at hm; simp only [ShM] at hm; subst hm
   split at hr
   case h_2 => exact hr.elim
   rename_i e he
   obtain ⟨hd1, hd2⟩ := bytesd he
   split at hr
   case h_2 => exact hr.elim
   rename_i xs m hrows
   obtain ⟨⟨hl, l, hxl⟩, hr⟩ := hr
   have hxd := A.L _ _ hx
   obtain ⟨news, N⟩ := YA A hxd hrows hl
   have hm : m = len := by
     unfold Z18 at hrows
     simp only at hrows
     split at hrows
     case h_2 => cases hrows
     split at hrows
     case h_2 => cases hrows
     split at hrows
     case h_2 => cases hrows
     simp only [Option.some.injEq, Prod.mk.injEq] at hrows
     exact hrows.2.symm
   subst hm
   subst hxl
   rw [Z26] at hr
   refine A.val hr ⟨.string ⟨l.toArray⟩, .inl ?_, rfl⟩
   have hnews := Z1t N.den
   have hf := N.first w rfl
   simp only [List.length_map] at hl
   simp only [Den] at hxd
   rcases hxd with ⟨_, hxv, h0⟩ | ⟨en, o, _, hxv, _⟩
   · subst h0
     have : l = [] := List.length_eq_zero_iff.1 hl
     subst this
     simp [execOp, hxv, convert, Z4 hd1, Z4 hd, Z4 hd2, Conv.bytesToString]
     rfl
   · rw [hxv] at hf
     simp only [Builtin.firstCells, Nat.mul_one] at hf
     have hconv : (convert a b (.slice (some ⟨en.g, o, none⟩) m (lim.getD en.cap - r))).run M.P w = .ok (.string ⟨l.toArray⟩) w := by
       rw [run_convert_bytes_string w a b e _ m _ hd1 hd2 hd]
       have hf' : (loadCells ⟨en.g, o, none⟩ m).run M.P w = .ok ((l.map (fun c => (c.toNat : Int))).map (Value.int .u8)).toArray w := by
         rw [hf, hnews]; simp
       rw [run_bytesToString w _ m _ _ hf', foldl_push_byteCells]
       simp
     simp [execOp, hxv, hconv]
 · rename_i hx
   obtain ⟨hxv, _⟩ : ρ x = .slice none 0 0 ∧ True := ⟨And.left (A.L _ _ hx), trivial⟩
   split at hr
   case h_2 => exact hr.elim
   rename_i hs
   obtain ⟨d, hd, hm⟩ := A.T.und b (by rw [hs]; simp)
   rw [hs] at hm; simp only [ShM] at hm; subst hm
   split at hr
   case h_2 => exact hr.elim
   rename_i e he
   obtain ⟨hd1, hd2⟩ := bytesd he
   refine A.val hr ⟨.string ⟨[].toArray⟩, .inl ?_, rfl⟩
   simp [execOp, hxv, convert, Z4 hd1, Z4 hd, Z4 hd2, Conv.bytesToString]
   rfl
 · exact hr.elim
theorem ZbM (A : At M η w O nx ρ lk) (args : Array Operand) (ts : Array TypeId) (hr : (opR M.C lk O nx (.call ⟨.builtin .copy, args, ts⟩)).ok O nx v O' nx') : ZO M η w ⟨dst, .call ⟨.builtin .copy, args, ts⟩, ty, pos, af, gd⟩ ρ v O' nx' := by
 simp only [opR, XU, Zbu] at hr
 split at hr
 case h_2 => exact hr.elim
 rename_i dd x ha
 obtain rfl : args = #[dd, x] := by apply Array.ext'; simpa using ha
 split at hr
 case h_2 => exact hr.elim
 rename_i t u htu
 obtain rfl : ts = #[t, u] := by apply Array.ext'; simpa using htu
 split at hr
 case h_2 => exact hr.elim
 rename_i e hst
 obtain ⟨d, hd, hm⟩ := A.T.und t (by rw [hst]; simp)
 rw [hst] at hm; simp only [ShM] at hm; subst hm
 split at hr
 · exact hr.elim
 rename_i hok
 have hsh : M.C.T.sh e ≠ .other := by intro h; simp [okSh, h] at hok
 obtain ⟨ie, hie, hies, _⟩ := A.T.info e hsh
 split at hr
 case h_2 => exact hr.elim
 rename_i i r es n lim hdv
 have hdd := A.L _ _ hdv
 split at hr
 · exact hr.elim
 rename_i xsv hx
 have hxd := A.L _ _ hx
 split at hr
 · exact hr.elim
 rename_i xs m hrows
 split at hr
 case h_2 => exact hr.elim
 rename_i es' rs hh
 split at hr
 case h_2 => exact hr.elim
 rename_i h1
 have h1 := Zk h1
 subst h1
 split at hr
 case h_2 => exact hr.elim
 rename_i h2
 have h2 := Zk h2
 subst h2
 obtain ⟨⟨q1, q2, q3⟩, rfl, rfl, rfl⟩ := hr
 obtain ⟨news, N⟩ := YA A hxd hrows q1
 obtain ⟨hsat, _⟩ := A.H.own.1 i _ hh
 simp only [HpSat, Env.get] at hsat
 have hmin : Nat.min m n = m := Nat.min_eq_left q2
 have hd1 := N.first w rfl
 have fin : ∀ {w' : World}, (Builtin.copy_ #[t, u] ty #[ρ dd, ρ x]).run M.P w = .ok (.int .i64 m) w' → UP M.P ⟨dst, .call ⟨.builtin .copy, #[dd, x], #[t, u]⟩, ty, pos, af, gd⟩ ρ w (.int .i64 m) w' := by
   intro w' h
   exact .inl (by simp [execOp, resolve, invoke, builtin, h])
 simp only [Den, Env.get] at hdd
 rcases hdd with ⟨p1, hdv', p3⟩ | ⟨en, o, p1, hdv', p3, p4, p5⟩
 · rcases hsat with ⟨p6, rfl⟩ | ⟨en', arr, T, fz, p6, _⟩
   case inr => rw [p1] at p6; cases p6
   subst p3
   have hm0 : m = 0 := by omega
   subst hm0
   have hx0 : xs = [] := List.length_eq_zero_iff.1 q1
   subst hx0
   refine ⟨_, w, η, fin ?_, List.prefix_rfl, ?_, rfl, fun h => by cases h⟩
   · simp [hdv', Builtin.copy_, Z4 hd, N.lenOf, Zj hie, hies, hd1, goInt]
   · refine { pre := A.H.pre, len := A.H.len, fr := A.H.fr, sok := A.H.sok, own := ⟨fun j g hj => ?_, fun j k g g' m hj hk hne f f' => ?_⟩ }
     · rw [ZN i _ O j (by rw [hh]; rfl)] at hj
       split at hj
       · rename_i e; subst e; injection hj with hj; subst hj
         exact ⟨Or.inl ⟨p1, by simp⟩, fun k f => (feet.none (b := .loc j) p1 f).elim⟩
       · exact A.H.own.1 j g hj
     · have aux : ∀ (j : Nat) (g : Hp) (m : Nat), feet η w (.loc j) g m → lkp j (setK i (.rows (M.C.T.size e) (List.take r [] ++ [] ++ List.drop (r + 0) [])) O) = some g → lkp j O = some g := by
         intro j g m f hj
         rw [ZN i _ O j (by rw [hh]; rfl)] at hj
         split at hj
         · rename_i e; subst e; exact (feet.none (b := .loc j) p1 f).elim
         · exact hj
       exact A.H.own.2 j k g g' m (aux j g m f hj) (aux k g' m f' hk) hne f f'
 · rcases hsat with ⟨p6, _⟩ | ⟨en', arr, T, fz, p6, p7, p8, p9⟩
   · rw [p1] at p6; cases p6
   rw [p1] at p6; injection p6 with p6; injection p6 with p6; subst p6
   obtain ⟨p8u, p8s, p8c, p8b⟩ := p8 trivial
   rw [p8b] at p9
   obtain ⟨r1, r2⟩ := U7 p8s (r := r) (xs := xs) (by omega) (by omega) p9 N.den N.one
   by_cases hm0 : m = 0
   · subst hm0
     have hx0 : xs = [] := List.length_eq_zero_iff.1 q1
     have hn0 : news = [] := by apply List.length_eq_zero_iff.1; rw [N.len]; omega
     subst hx0 hn0
     refine ⟨_, w, η, fin ?_, List.prefix_rfl, ?_, rfl, fun h => by cases h⟩
     · simp [hdv', Builtin.copy_, Z4 hd, N.lenOf, Zj hie, hies, hd1, goInt, storeCells]
     · refine A.H.upd hh p1 (fun k _ => rfl) rfl rfl rfl rfl ?_
       simp only [HpSat, Env.get]
       right
       exact ⟨en, arr, T, fz, p1, p7, fun _ => ⟨p8u, p8s, by simpa using p8c, p8b⟩, by rw [p8b]; simpa using p9⟩
   · have ho := p5 (.inl (by omega))
     rw [p8b, Nat.zero_add] at ho
     subst ho
     have hst := Yo (P := M.P) en.g (r * M.C.T.size e) T fz news 0 arr w p7 (by simpa using r1) p8u N.one
     simp only [Nat.add_zero] at hst
     have hsz' : (arr.toList.take (r * M.C.T.size e) ++ news ++ arr.toList.drop (r * M.C.T.size e + news.length)).toArray.size = arr.size := by
       simp only [List.size_toArray, List.length_append, List.length_take, List.length_drop, Array.length_toList]; omega
     refine ⟨_, w.setRow en.g (arr.toList.take (r * M.C.T.size e) ++ news ++ arr.toList.drop (r * M.C.T.size e + news.length)).toArray, η, fin ?_, List.prefix_rfl, A.H.upd hh p1 (fun k hk => setRow_other w en.g k _ hk) (setRow_size _ _ _) rfl rfl rfl ?_, rfl, fun h => by cases h⟩
     · simp [hdv', Builtin.copy_, Z4 hd, N.lenOf, Zj hie, hies, hmin, hd1, hst, goInt]
     · simp only [HpSat, Env.get]
       right
       refine ⟨en, _, T, fz, p1, setRow_heap w en.g arr _ T fz p7, fun _ => ⟨by rw [hsz']; exact p8u, by rw [hsz']; exact p8s, ?_, p8b⟩, by rw [p8b, ← q1]; exact r2⟩
       simp only [List.length_append, List.length_take, List.length_drop]; omega
theorem ZaL (A : At M η w O nx ρ lk) (args : Array Operand) (ts : Array TypeId) (hr : (opR M.C lk O nx (.call ⟨.builtin .clear, args, ts⟩)).ok O nx v O' nx') : ZO M η w ⟨dst, .call ⟨.builtin .clear, args, ts⟩, ty, pos, af, gd⟩ ρ v O' nx' := by
 simp only [opR, XU, Z9W] at hr
 split at hr
 case h_2 => exact hr.elim
 rename_i dd ha
 obtain rfl : args = #[dd] := by apply Array.ext'; simpa using ha
 split at hr
 case h_2 => exact hr.elim
 rename_i t htu
 obtain rfl : ts = #[t] := by apply Array.ext'; simpa using htu
 split at hr
 case h_2 => exact hr.elim
 rename_i e hst
 obtain ⟨d, hd, hm⟩ := A.T.und t (by rw [hst]; simp)
 rw [hst] at hm; simp only [ShM] at hm; subst hm
 split at hr
 · exact hr.elim
 rename_i c cs hz
 have hsh : M.C.T.sh e ≠ .other := A.T.zsh e (by rw [hz]; simp)
 obtain ⟨ie, z, h1, h2, h3, h4, h5, _⟩ := A.T.zero e hsh (by rw [hz]; simp)
 rw [hz] at h3 h5
 have h3 := DenL.mono (η' := η) List.nil_prefix h3
 have hzl : z.cells.toList.length = M.C.T.size e := by have := ZE h3; rw [h5] at this; exact this
 split at hr
 case h_2 => exact hr.elim
 rename_i i r es n lim hdv
 have hdd := A.L _ _ hdv
 split at hr
 case h_2 => exact hr.elim
 rename_i es' rs hh
 split at hr
 case h_2 => exact hr.elim
 rename_i g1
 have g1 := Zk g1
 subst g1
 split at hr
 case h_2 => exact hr.elim
 rename_i g2
 have g2 := Zk g2
 subst g2
 obtain ⟨q3, rfl, rfl, rfl⟩ := hr
 obtain ⟨hsat, _⟩ := A.H.own.1 i _ hh
 simp only [HpSat, Env.get] at hsat
 have fin : ∀ {w' : World}, (Builtin.clear_ #[t] ty #[ρ dd]).run M.P w = .ok (.tuple #[]) w' → UP M.P ⟨dst, .call ⟨.builtin .clear, #[dd], #[t]⟩, ty, pos, af, gd⟩ ρ w (.tuple #[]) w' := by
   intro w' h
   exact .inl (by simp [execOp, resolve, invoke, builtin, h])
 have hden : ∀ η, Den η (.tup []) (.tuple #[]) := fun η => by simp only [Den, DenL]; exact ⟨[], rfl, rfl⟩
 simp only [Den, Env.get] at hdd
 rcases hdd with ⟨p1, hdv', p3⟩ | ⟨en, o, p1, hdv', p3, p4, p5⟩
 · rcases hsat with ⟨p6, rfl⟩ | ⟨en', arr, T, fz, p6, _⟩
   case inr => rw [p1] at p6; cases p6
   subst p3
   refine ⟨_, w, η, fin ?_, List.prefix_rfl, ?_, hden _, fun h => by cases h⟩
   · simp [hdv', Builtin.clear_, Z4 hd]
   · refine { pre := A.H.pre, len := A.H.len, fr := A.H.fr, sok := A.H.sok, own := ⟨fun j g hj => ?_, fun j k g g' m hj hk hne f f' => ?_⟩ }
     · rw [ZN i _ O j (by rw [hh]; rfl)] at hj
       split at hj
       · rename_i e; subst e; injection hj with hj; subst hj
         exact ⟨Or.inl ⟨p1, by simp⟩, fun k f => (feet.none (b := .loc j) p1 f).elim⟩
       · exact A.H.own.1 j g hj
     · have aux : ∀ (j : Nat) (g : Hp) (m : Nat), feet η w (.loc j) g m → lkp j (setK i (.rows (M.C.T.size e) (List.take r [] ++ List.replicate 0 (c :: cs) ++ List.drop (r + 0) [])) O) = some g → lkp j O = some g := by
         intro j g m f hj
         rw [ZN i _ O j (by rw [hh]; rfl)] at hj
         split at hj
         · rename_i e; subst e; exact (feet.none (b := .loc j) p1 f).elim
         · exact hj
       exact A.H.own.2 j k g g' m (aux j g m f hj) (aux k g' m f' hk) hne f f'
 · rcases hsat with ⟨p6, _⟩ | ⟨en', arr, T, fz, p6, p7, p8, p9⟩
   · rw [p1] at p6; cases p6
   rw [p1] at p6; injection p6 with p6; injection p6 with p6; subst p6
   obtain ⟨p8u, p8s, p8c, p8b⟩ := p8 trivial
   rw [p8b] at p9
   have hLL := Z0h h3 hzl n
   have hone := Z0c h4 n
   have hxl : (List.replicate n (c :: cs)).length = n := List.length_replicate
   obtain ⟨r1, r2⟩ := U7 p8s (r := r) (xs := List.replicate n (c :: cs)) (by omega) (by omega) p9 hLL hone
   by_cases hn0 : n = 0
   · subst hn0
     refine ⟨_, w, η, fin ?_, List.prefix_rfl, ?_, hden _, fun h => by cases h⟩
     · simp [hdv', Builtin.clear_, Z4 hd]
     · refine A.H.upd hh p1 (fun k _ => rfl) rfl rfl rfl rfl ?_
       simp only [HpSat, Env.get]
       right
       exact ⟨en, arr, T, fz, p1, p7, fun _ => ⟨p8u, p8s, by simpa using p8c, p8b⟩, by rw [p8b]; simpa using p9⟩
   · have ho := p5 (.inl (by omega))
     rw [p8b, Nat.zero_add] at ho
     subst ho
     have hst := Yo (P := M.P) en.g (r * M.C.T.size e) T fz (YT z.cells.toList n) 0 arr w p7 (by simpa using r1) p8u hone
     simp only [Nat.add_zero] at hst
     have hzc : (Builtin.zeroCells z.cells n).toList = YT z.cells.toList n := by
       unfold Builtin.zeroCells
       exact Jx z.cells n _ (by simp [Nat.mul_comm])
     have hsz' : (arr.toList.take (r * M.C.T.size e) ++ YT z.cells.toList n ++ arr.toList.drop (r * M.C.T.size e + (YT z.cells.toList n).length)).toArray.size = arr.size := by
       simp only [List.size_toArray, List.length_append, List.length_take, List.length_drop, Array.length_toList]; omega
     refine ⟨_, w.setRow en.g (arr.toList.take (r * M.C.T.size e) ++ YT z.cells.toList n ++ arr.toList.drop (r * M.C.T.size e + (YT z.cells.toList n).length)).toArray, η, fin ?_, List.prefix_rfl, A.H.upd hh p1 (fun k hk => setRow_other w en.g k _ hk) (setRow_size _ _ _) rfl rfl rfl ?_, hden _, fun h => by cases h⟩
     · obtain ⟨n, rfl⟩ : ∃ m, n = m + 1 := ⟨n - 1, by omega⟩
       simp [hdv', Builtin.clear_, Z4 hd, YY h1 h2, hzc, hst]
     · simp only [HpSat, Env.get]
       right
       refine ⟨en, _, T, fz, p1, setRow_heap w en.g arr _ T fz p7, fun _ => ⟨by rw [hsz']; exact p8u, by rw [hsz']; exact p8s, ?_, p8b⟩, by rw [p8b]; rw [hxl] at r2; exact r2⟩
       simp only [List.length_append, List.length_take, List.length_drop, List.length_replicate]; omega
theorem Z27 (A : At M η w O nx ρ lk) (o : Oper) (hr : (opR M.C lk O nx o.op).ok O nx v O' nx') : ZO M η w o ρ v O' nx' := by
 obtain ⟨dst, op, ty, pos, af, gd⟩ := o
 cases op with
 | move x => exact ZbH A x hr
 | assign x => exact Z8K A x hr
 | pick c a b => exact ZbI A c a b hr
 | alloc e => exact ZaG A e hr
 | box e x => exact ZcI A e x hr
 | build t ps => exact ZaH A t ps hr
 | buildSlice t l ps => exact Z32 A t l ps hr
 | load t x => exact ZbK A t x hr
 | store t x y => exact ZaJ A t x y hr
 | nilCheck x => exact Z5H A x hr
 | binOp op t x y u => exact ZaD A op t u x y hr
 | unOp op t x => exact ZbJ A op t x hr
 | convert s d x => exact Z70 A s d x hr
 | makeInterface t x => exact Z05 A t x hr
 | makeFunc f a b => exact Z5I A f a b hr
 | makeSlice t l c => exact Z4b A t l c hr
 | slice t x lo hi mx => exact ZaE A t x lo hi mx hr
 | fieldAddr s x f => exact Z48 A s x f hr
 | field t x f => exact ZaB A t x f hr
 | indexAddr t x i => exact Z47 A t x i hr
 | index t x i => exact ZaC A t x i hr
 | makeMap t r => exact Z6U A t r hr
 | lookup t x i ok => exact Z8R A t x i ok hr
 | mapUpdate t m k x => exact Z0j A t m k x hr
 | insert t m k x => exact Z8S A t m k x hr
 | mapEntry t m k => exact Z5M A t m k hr
 | entryStore t m k x => exact Z38 A t m k x hr
 | range t x => exact ZaK A t x hr
 | next x b => exact ZbL A x b hr
 | extract x i => exact Z6M A x i hr
 | typeAssert x t u ok => exact Z8L A x t u ok hr
 | call c =>
   obtain ⟨callee, args, ts⟩ := c
   cases callee with
   | builtin b =>
     cases b with
     | len => exact ZcG A args ts hr
     | append => exact Z8Q A args ts hr
     | cap => exact ZcH A args ts hr
     | min => exact ZcJ A args ts hr
     | max => exact ZcK A args ts hr
     | copy => exact ZbM A args ts hr
     | clear => exact ZaL A args ts hr
     | _ => exact hr.elim
   | _ => exact hr.elim
 | _ => exact hr.elim
end
section
variable {M : Mx} {η : Env} {w : World} {O : Hps} {nx : Nat}
theorem FrOK.mono {η η' : Env} {a : Act} {fr : Fr} (h : η <+: η') (k : FrOK η a fr) : FrOK η' a fr := fun t sv ht => (k t sv ht).mono h
theorem Z51 {a : Act} {d : Nat} {u : Value} (h : d < a.tmps.size) : (a.put (some d) u).tmps.getD d undef = u := by
 simp [Act.put, Array.getD, h]
theorem Z0m {a : Act} {d t : Nat} {u : Value} (h : t ≠ d) : (a.put (some d) u).tmps.getD t undef = a.tmps.getD t undef := by
 simp only [Act.put, Array.getD_eq_getD_getElem?]
 rw [Array.getElem?_setIfInBounds, if_neg (Ne.symm h)]
theorem Z28 {a : Act} {d : Option Tmp} {u : Value} : (a.put d u).tmps.size = a.tmps.size := by
 cases d <;> simp [Act.put]
theorem put_defers {a : Act} {d : Option Tmp} {u : Value} : (a.put d u).defers = a.defers := by
 cases d <;> simp [Act.put]
theorem FrOK.put {a : Act} {fr : Fr} {d : Nat} {u : Value} {v : SV} (k : FrOK η a fr) (hd : d < a.tmps.size) (hv : Den η v u) : FrOK η (a.put (some d) u) ((d, v) :: fr) := by
 intro t sv ht
 rw [Z7] at ht
 split at ht
 · rename_i e; subst e; injection ht with ht; subst ht
   rw [Z51 hd]; exact hv
 · rename_i e; rw [Z0m e]; exact k t sv ht
theorem FrOK.know {a : Act} {fr : Fr} {d : Nat} {v : SV} (k : FrOK η a fr) (hv : Den η v (a.tmps.getD d undef)) : FrOK η a ((d, v) :: fr) := by
 intro t sv ht
 rw [Z7] at ht
 split at ht
 · rename_i e; subst e; injection ht with ht; subst ht; exact hv
 · exact k t sv ht
theorem Z29 {N : Nat} {d : Nat} (h : Jg N (some d) = true) : d < N := by
 simpa [Jg] using h
def Z71 : SV → Bool
 | .dfs _ => false
 | _ => true
theorem DfOK.other {η : Env} {ds : List Deferred} {v : SV} (h : Z71 v = true) : DfOK η ds (some v) ↔ ds = [] := by
 cases v <;> first | exact Iff.rfl | cases h
theorem Models.know {fr : Fr} {a : Act} (K : Models M η fr O nx a w) {s : Nat} {u v : SV} (hs : lkp s fr = some u) (hu : Z71 u = true) (hv : Z71 v = true) (hd : Den η v (a.tmps.getD s undef)) : Models M η ((s, v) :: fr) O nx a w := by
 refine ⟨K.heap, K.size, K.nds, ?_, K.ro, K.frame.know hd⟩
 have h := K.defers
 rw [Z7]
 split
 · rename_i e
   rw [e, hs, DfOK.other hu] at h
   rw [DfOK.other hv]; exact h
 · exact h
theorem Za8 {N d : Nat} {v : SV} {fr : Fr} (hd : Jg N (some d) = true) (hN : N ≤ DS) : lkp DS ((d, v) :: fr) = lkp DS fr := by
 have h1 := Z29 hd
 have h2 : DS ≠ d := fun e => Nat.lt_irrefl _ (Nat.lt_of_lt_of_le (e ▸ h1) hN)
 rw [Z7, if_neg h2]
theorem VO {η η' : Env} (hp : η <+: η') (h : ∀ l j, M.C.ro = some (l, j) → ∃ e, η[j]? = some (some e) ∧ e.g = l) : ∀ l j, M.C.ro = some (l, j) → ∃ e, η'[j]? = some (some e) ∧ e.g = l := fun l j hj =>
 let ⟨e, h1, h2⟩ := h l j hj; ⟨e, Env.get_mono (b := .loc j) hp h1, h2⟩
theorem Models.put {fr : Fr} {a : Act} (K : Models M η fr O nx a w) {η' : Env} {O' : Hps} {nx' : Nat} {w' : World} {d : Option Tmp} {u : Value} {v : SV} (hd : Jg M.C.N d = true) (hp : η <+: η') (hH : HeapOK M η' w' O' nx') (hv : Den η' v u) {Kp : Fr → Prop} (hk : putK d v fr Kp) :
   ∃ fr', Kp fr' ∧ Models M η' fr' O' nx' (a.put d u) w' := by
 cases d with
 | none => exact ⟨fr, hk, hH, by rw [Z28]; exact K.size, K.nds, by rw [put_defers]; exact K.defers.mono hp, VO hp K.ro, K.frame.mono hp⟩
 | some d =>
   refine ⟨(d, v) :: fr, hk, hH, by rw [Z28]; exact K.size, K.nds, by rw [put_defers, Za8 hd K.nds]; exact K.defers.mono hp, VO hp K.ro, (K.frame.mono hp).put ?_ hv⟩
   rw [K.size]; exact Z29 hd
theorem Wi {P : Program} {o : Oper} {ρ : Operand → Value} {w w' : World} {u : Value} (h : UP P o ρ w u w') : ∀ c, o.op ≠ .defer c := by
 intro c hc
 have key : ∀ (n : Next) (w' : World), (∀ d, n ≠ .defer d) → (execOp ρ o).run P w ≠ .ok n w' := by
   intro n w' hn he
   simp only [execOp, hc, Sem.run_bind] at he
   cases hr : (resolve ρ c o.type).run P w with
   | ok d w1 =>
     rw [hr] at he
     simp only [Result.andThen, Sem.run_pure] at he
     injection he with he _
     exact hn d he.symm
   | halt x w1 => rw [hr] at he; simp only [Result.andThen] at he; cases he
 rcases h with h | ⟨h, _⟩
 · exact key _ _ (fun d e => by cases e) h
 · exact key _ _ (fun d e => by cases e) h
theorem Z1u {ro : Option Nat} {ρ : Operand → Value} {o : Oper} {c : Call} (h : o.op = .call c) : o.semAt ro ρ = execOp ρ o := Oper.semAt_eq _ _ _ fun c' hc => by rw [h] at hc; cases hc
theorem Z0n {P : Program} {o : Oper} {a : Act} {w w' : World} {u : Value} {next : Act → World → Prop} {Q : Exit → Act → World → Prop} {F : Fence} (hF : ∀ f, F.fn f) (h : UP P o a.eval w u w') (hn : next (a.put o.dst u) w') : o.wpIn F 0 P a w next Q := by
 refine ⟨fun f _ => hF f, ?_⟩
 rw [Oper.semAt_eq _ _ _ (Wi h)]
 rcases h with h | ⟨h, rfl⟩
 · rw [h]; exact hn
 · rw [h]; exact hn
theorem Z0o {lk : Operand → Option SV} {ρ : Operand → Value} {xs : List Operand} {svs : List SV} (hl : ∀ x sv, lk x = some sv → Den η sv (ρ x)) (h : optAll lk xs = some svs) : DenL η svs (xs.map ρ) := UA hl h
theorem Z72 {o : Oper} {a : Act} {c : Call} {lk : Operand → Option SV} {f : FuncId} {args : List SV} {K : SV → Hps → Nat → Prop} {next : Act → World → Prop} {Q : Exit → Act → World → Prop} (ho : o.op = .call c) (H : HeapOK M η w O nx) (hl : ∀ x sv, lk x = some sv → Den η sv (a.eval x))
   (hc : Wo lk c = some (f, args)) (hC : CALL M f args O nx K) (hn : ∀ v r O' nx' η' w', η <+: η' → HeapOK M η' w' O' nx' → Den η' r v → K r O' nx' → next (a.put o.dst v) w') : o.wpIn M.fence 0 M.P a w next Q := by
 unfold Wo at hc
 split at hc
 case h_2 => cases hc
 rename_i ff hcal
 split at hc
 case h_2 => cases hc
 rename_i f' first cap args' hf hargs
 simp only [Option.some.injEq, Prod.mk.injEq] at hc
 obtain ⟨rfl, rfl⟩ := hc
 have hfd := hl _ _ hf
 simp only [Den] at hfd
 obtain ⟨us, vs, hfv, h1, h2⟩ := hfd
 have hall := YM (YM h1 (Z0o hl hargs)) h2
 have hexec : (execOp a.eval o).run M.P w = (callFunc f' ⟨us ++ c.args.toList.map a.eval ++ vs⟩).run M.P w := by
   have : (⟨us⟩ ++ c.args.map a.eval ++ ⟨vs⟩ : Array Value) = ⟨us ++ c.args.toList.map a.eval ++ vs⟩ := by apply Array.ext'; simp
   rw [← this]
   simp [execOp, ho, resolve, hcal, hfv, Deferred.ofValue, invoke]
 refine ⟨fun f _ => M.all f, ?_⟩
 rw [Z1u ho, hexec]
 rcases hC.out η w _ H hall with ⟨g, hg, hcalls⟩ | ⟨v, w', hv, r, O', nx', η', h3, h4, h5, h6⟩
 · rw [hg]
   refine ⟨(fun h => by cases h), ?_⟩
   have hcalls : CallsIn M.fence (0 - 1) M.P g _ w _ := callsIn_wide.2 hcalls
   refine hcalls.mono fun e w' he => ?_
   obtain ⟨v, rfl, r, O', nx', η', h3, h4, h5, h6⟩ := he
   exact hn v r O' nx' η' w' h3 h4 h5 h6
 · rw [hv]
   exact hn v r O' nx' η' w' h3 h4 h5 h6
theorem Z8T {o : Oper} {a : Act} {c : Call} {lk : Operand → Option SV} {j : Nat} {args : List SV} {K : SV → Hps → Nat → Prop} {next : Act → World → Prop} {Q : Exit → Act → World → Prop} (ho : o.op = .call c) (H : HeapOK M η w O nx) (hl : ∀ x sv, lk x = some sv → Den η sv (a.eval x))
   (hc : WY lk c = some (j, args)) (hC : YIELD M j args O nx K) (hn : ∀ v r O' nx' η' w', η <+: η' → HeapOK M η' w' O' nx' → Den η' r v → K r O' nx' → next (a.put o.dst v) w') : o.wpIn M.fence 0 M.P a w next Q := by
 unfold WY at hc
 split at hc
 case h_2 => cases hc
 rename_i ff hcal
 split at hc
 case h_2 => cases hc
 rename_i j' args' hf hargs
 simp only [Option.some.injEq, Prod.mk.injEq] at hc
 obtain ⟨rfl, rfl⟩ := hc
 have hfd := hl _ _ hf
 simp only [Den] at hfd
 obtain ⟨e, he, hfv⟩ := hfd
 have hall := Z0o hl hargs
 obtain ⟨fn, tmps, asg, body, hy, hr⟩ := hC.out η w _ e H hall he
 have hexec : (execOp a.eval o).run M.P w = (Instr.yield e.g ⟨c.args.toList.map a.eval⟩).run M.P w := by
   have : (#[] ++ c.args.map a.eval : Array Value) = ⟨c.args.toList.map a.eval⟩ := by apply Array.ext'; simp
   rw [← this]
   simp [execOp, ho, resolve, hcal, hfv, Deferred.ofValue, invoke]
 refine ⟨fun f _ => M.all f, ?_⟩
 rw [Z1u ho, hexec, hy]
 refine ⟨(fun h => by cases h), ?_⟩
 have hr : RoundIn M.fence (0 - 1) M.P e.g fn tmps asg body w _ := hr
 refine hr.mono fun en w' he => ?_
 obtain ⟨v, rfl, r, O', nx', η', h3, h4, h5, h6⟩ := he
 exact hn v r O' nx' η' w' h3 h4 h5 h6
theorem Ua (hT : TabOK M.P M.C.T) {fr : Fr} {a : Act} (K : Models M η fr O nx a w) {o : Oper} {lk : Operand → Option SV} (hl : ∀ x sv, lk x = some sv → Den η sv (a.eval x)) {K' : SV → Hps → Nat → Prop} (h : WZ M o lk O nx K') {next : Act → World → Prop} {Q : Exit → Act → World → Prop}
   (hn : ∀ u v O' nx' η' w', Jg M.C.N o.dst = true → η <+: η' → HeapOK M η' w' O' nx' → Den η' v u → K' v O' nx' → next (a.put o.dst u) w') : o.wpIn M.fence 0 M.P a w next Q := by
 unfold WZ at h
 split at h
 · exact h.out.elim
 rename_i hd
 have main : ∀ {op : Op}, o.op = op → (opR M.C lk O nx op).go O nx K' → o.wpIn M.fence 0 M.P a w next Q := by
   intro op ho h
   subst ho
   obtain ⟨v, O', nx', h1, h2⟩ := Res.go_ok h
   obtain ⟨u, w', η', h3, h4, h5, h6, _⟩ := Z27 ⟨K.heap, hT, hl⟩ o h1
   exact Z0n M.all h3 (hn u v O' nx' η' w' hd h4 h5 h6 h2)
 split at h
 · rename_i c ho
   split at h
   · exact main ho h
   · split at h
     · rename_i f args hc
       rw [XF] at h
       refine Z72 ho K.heap hl hc h fun v r O' nx' η' w' h1 h2 h3 h4 => ?_
       rw [Yl, Vi] at h4
       exact hn v r O' nx' η' w' hd h1 h2 h3 h4
     · split at h
       · rename_i j args hc
         rw [XF] at h
         refine Z8T ho K.heap hl hc h fun v r O' nx' η' w' h1 h2 h3 h4 => ?_
         rw [Yl, Vi] at h4
         exact hn v r O' nx' η' w' hd h1 h2 h3 h4
       · exact h.out.elim
 · exact main rfl h
theorem Vo {ops : Array Oper} {a : Act} {j s : Nat} (h : JY ops.toList j = some s) {b : Bool} (hb : a.tmps.getD s undef = .bool b) : yielded ops a.tmps j = some b := by
 unfold JY at h
 rw [J7] at h
 unfold yielded
 cases ho : ops.toList[j]? with
 | none => rw [ho] at h; cases h
 | some o =>
   rw [ho] at h
   simp only at h
   have ho' : ops[j]? = some o := by simpa using ho
   have hs : s < a.tmps.size := by
     rcases Nat.lt_or_ge s a.tmps.size with hlt | hge
     · exact hlt
     · rw [Array.getD_eq_getD_getElem?, Array.getElem?_eq_none hge] at hb; cases hb
   rw [Array.getD_eq_getD_getElem?, Array.getElem?_eq_getElem hs] at hb
   simp only [Option.getD_some] at hb
   simp [ho', h, Array.getElem?_eq_getElem hs, hb]
theorem Jz {ops : Array Oper} {a : Act} {j s : Nat} (h : JY ops.toList j = some s) {want : Bool} (hb : a.tmps.getD s undef ≠ .bool want) : yielded ops a.tmps j ≠ some want := by
 unfold JY at h
 rw [J7] at h
 unfold yielded
 cases ho : ops.toList[j]? with
 | none => rw [ho] at h; cases h
 | some o =>
   rw [ho] at h
   simp only at h
   have ho' : ops[j]? = some o := by simpa using ho
   simp only [ho', Option.bind_some, h]
   intro hy
   split at hy
   · rename_i b hq
     injection hy with hy
     subst hy
     apply hb
     rw [Array.getD_eq_getD_getElem?, hq]; rfl
   · cases hy
theorem XJ {P : Program} {ops : Array Oper} {Q : Exit → Act → World → Prop} {a : Act} {w : World} {rest : List Oper} {o : Oper} (hw : Region.wanted o (yielded ops a.tmps) = true) {F : Fence} (h : o.wpIn F 0 P a w (wpListIn F 0 P ops Q rest) Q) : wpListIn F 0 P ops Q (o :: rest) a w := by
 unfold wpListIn; rw [if_pos hw]; exact h
theorem XY {P : Program} {ops : Array Oper} {Q : Exit → Act → World → Prop} {a : Act} {w : World} {rest : List Oper} {o : Oper} (hw : ¬ Region.wanted o (yielded ops a.tmps) = true) {F : Fence} (hF : ∀ f, F.fn f) (h : wpListIn F 0 P ops Q rest (a.put o.dst undef) w) : wpListIn F 0 P ops Q (o :: rest) a w := by
 unfold wpListIn; rw [if_neg hw]; exact ⟨fun f _ => hF f, h⟩
theorem JA {o : Oper} {y : Nat → Option Bool} (h : o.guard = none) : Region.wanted o y = true := by simp [Region.wanted, h]
theorem Zs {o : Oper} {y : Nat → Option Bool} {j : Nat} {b : Bool} (h : o.guard = some (j, b)) : Region.wanted o y = true ↔ y j = some b := by simp [Region.wanted, h]
theorem UE (hT : TabOK M.P M.C.T) {ops : Array Oper} {Q : Exit → Act → World → Prop} : ∀ (rest : List Oper) {fr : Fr} {O : Hps} {nx : Nat} {K : Fr → Hps → Nat → Prop}, runS M ops.toList rest fr O nx K →
   ∀ {η : Env} {a : Act} {w : World}, Models M η fr O nx a w → (∀ η fr O nx a w, Models M η fr O nx a w → K fr O nx → Q .normal a w) → wpListIn M.fence 0 M.P ops Q rest a w
 | [], fr, O, nx, K, h, η, a, w, hm, hq => hq η fr O nx a w hm h
 | o :: rest, fr, O, nx, K, h, η, a, w, hm, hq => by
   replace h : Zax M ops.toList o rest (runS M ops.toList rest) fr O nx K := h
   unfold Zax at h
   have step : ∀ {fr' : Fr}, Models M η fr' O nx a w → WZ M o (Jw fr') O nx (fun v O nx => putK o.dst v fr' fun fr => runS M ops.toList rest fr O nx K) → o.wpIn M.fence 0 M.P a w (wpListIn M.fence 0 M.P ops Q rest) Q := by
     intro fr' hm' h
     refine Ua hT hm' (fun x sv hx => Y3 hm'.frame hx) h fun u v O' nx' η' w' hd hp hH hv hk => ?_
     obtain ⟨fr2, h1, h2⟩ := hm'.put hd hp hH hv hk
     exact UE hT rest h1 h2 hq
   have skip : ∀ {fr' : Fr}, Models M η fr' O nx a w → (match Jg M.C.N o.dst with | true => putK o.dst YE fr' fun fr => runS M ops.toList rest fr O nx K | false => STOP "slot") → wpListIn M.fence 0 M.P ops Q rest (a.put o.dst undef) w := by
     intro fr' hm' h
     split at h
     · rename_i hd
       obtain ⟨fr2, h1, h2⟩ := hm'.put hd List.prefix_rfl hm'.heap (J9 η) h
       exact UE hT rest h1 h2 hq
     · exact h.out.elim
   split at h
   · rename_i hg
     exact XJ (JA hg) (step hm h)
   · rename_i j want hg
     split at h
     · exact h.out.elim
     rename_i s hs
     split at h
     · rename_i b hb
       have hbv := Yp (hm.frame s _ hb)
       have hy := Vo hs hbv
       cases b with
       | true =>
         have h := h.t rfl
         have hm' : Models M η ((s, .bool true) :: fr) O nx a w := hm.know hb rfl rfl hbv
         cases want with
         | true => exact XJ ((Zs hg).2 hy) (step hm' h)
         | false => exact XY (hF := M.all) (fun hw => by rw [Zs hg, hy] at hw; cases hw) (skip hm' h)
       | false =>
         have h := h.f rfl
         have hm' : Models M η ((s, .bool false) :: fr) O nx a w := hm.know hb rfl rfl hbv
         cases want with
         | false => exact XJ ((Zs hg).2 hy) (step hm' h)
         | true => exact XY (hF := M.all) (fun hw => by rw [Zs hg, hy] at hw; cases hw) (skip hm' h)
     · rename_i hb
       have hbv := hm.frame s _ hb
       simp only [Den, DenL] at hbv
       obtain ⟨vs, hbv, rfl⟩ := hbv
       exact XY (hF := M.all) (fun hw => by rw [Zs hg] at hw; exact Jz hs (by rw [hbv]; simp) hw) (skip hm h)
     · exact h.out.elim
end
section
variable {M : Mx} {η : Env} {w : World} {O : Hps} {nx : Nat}
theorem PathOK.sub {a : Act} : ∀ {p q : List (Nat × Bool)}, Z1Y p q = true → PathOK a q → PathOK a p
 | [], q, _, _ => fun x hx => by cases hx
 | (s, b) :: p, q, h, hq => by
   simp only [Z1Y, Bool.and_eq_true, List.any_eq_true] at h
   obtain ⟨⟨x, hx, h1⟩, h2⟩ := h
   have h3 := Zk h1.1
   have h4 : x.2 = b := by simpa using h1.2
   intro y hy
   rcases List.mem_cons.1 hy with rfl | hy
   · have := hq x hx; rw [h3, h4] at this; exact this
   · exact PathOK.sub h2 hq y hy
theorem V3 {a : Act} {fr : Fr} {gs : Gs} {path : List (Nat × Bool)} (hf : FrOK η a fr) (hg : GsOK η a gs) (hp : PathOK a path) {x : Operand} {sv : SV} (hx : Z1Z fr gs path x = some sv) : Den η sv (a.eval x) := by
 cases x with
 | tmp t =>
   simp only [Z1Z] at hx
   split at hx
   · rename_i q v hq
     split at hx
     · rename_i hs
       injection hx with hx
       subst hx
       exact (hg t q v hq).1 (PathOK.sub hs hp)
     · cases hx
   · exact hf t sv hx
 | const v => exact Y3 hf hx
 | global g => exact Y3 hf hx
 | func f => exact Y3 hf hx
theorem Ub {a : Act} {fr : Fr} {gs : Gs} (hf : FrOK η a fr) (hg : GsOK η a gs) : ∀ {path : List (Nat × Bool)} {g : Bool}, U2 fr gs path = some g → PathOK a path → g = true
 | [], g, h, _ => by simp only [U2, Option.some.injEq] at h; exact h.symm
 | (s, want) :: r, g, h, hp => by
   have hpr : PathOK a r := fun x hx => hp x (List.mem_cons_of_mem _ hx)
   simp only [U2] at h
   split at h
   case h_2 => cases h
   rename_i b hb
   have hbv := Yp (V3 hf hg hpr hb)
   have hsv := hp (s, want) (List.mem_cons_self ..)
   simp only [Act.eval] at hbv
   rw [hbv] at hsv
   injection hsv with hsv
   simp only at hsv
   split at h
   case h_2 => cases h
   rename_i x hx
   have hxt := Ub hf hg hx hpr
   subst hxt hsv
   cases b <;> simp at h <;> exact h
theorem Z8U {a : Act} {gs : Gs} (hg : GsOK η a gs) {s : Nat} {want : Bool} (h : a.tmps.getD s undef = .bool want) : PathOK a (Z20 gs s want) := by
 intro x hx
 unfold Z20 at hx
 rcases List.mem_cons.1 hx with rfl | hx
 · exact h
 · split at hx
   · rename_i q v hq
     by_cases hp : PathOK a q
     · exact hp x hx
     · have := (hg s q v hq).2 hp
       rw [h] at this; cases this
   · cases hx
theorem PathOK.put {a : Act} {d : Nat} {u : Value} {p : List (Nat × Bool)} (h : Z6I d p = true) : PathOK (a.put (some d) u) p ↔ PathOK a p := by
 unfold Z6I at h
 have key : ∀ x ∈ p, (a.put (some d) u).tmps.getD x.1 undef = a.tmps.getD x.1 undef := by
   intro x hx
   have := (List.all_eq_true.1 h) x hx
   have hne : x.1 ≠ d := Xl (by simpa using this)
   exact Z0m hne
 exact ⟨fun k x hx => by rw [← key x hx]; exact k x hx, fun k x hx => by rw [key x hx]; exact k x hx⟩
theorem V4 {α : Type} : ∀ {l : List (Nat × α)} {t : Nat} {v : α}, lkp t l = some v → (t, v) ∈ l
 | [], t, v, h => by simp [lkp] at h
 | (d, u) :: r, t, v, h => by
   rw [Z7] at h
   split at h
   · rename_i e; subst e; injection h with h; subst h; exact List.mem_cons_self ..
   · exact List.mem_cons_of_mem _ (V4 h)
theorem GsOK.put {a : Act} {gs : Gs} (hg : GsOK η a gs) {η' : Env} (hp : η <+: η') {d : Option Tmp} {u : Value} (hd : Za5 d gs = true) : GsOK η' (a.put d u) gs := by
 cases d with
 | none => exact fun t p sv h => ⟨fun k => ((hg t p sv h).1 k).mono hp, (hg t p sv h).2⟩
 | some d =>
   intro t p sv h
   have hm := V4 h
   have := (List.all_eq_true.1 hd) _ hm
   simp only [Bool.and_eq_true] at this
   have hne : t ≠ d := Xl (by simpa using this.1)
   have hn : Z6I d p = true := this.2
   rw [PathOK.put hn, Z0m hne]
   exact ⟨fun k => ((hg t p sv h).1 k).mono hp, (hg t p sv h).2⟩
theorem Res.gg_ok {g : Prop} : ∀ {r : Res} {K : SV → Prop}, r.gg g K → ∃ v, (g → ∀ O nx, r.ok O nx v O nx) ∧ K v
 | .val v, K, h => by simp only [Res.gg, Z8I, Yl] at h; exact ⟨v, fun _ _ _ => ⟨rfl, rfl, rfl⟩, h⟩
 | .need p k, K, h => by
   simp only [Res.gg, Za4] at h
   obtain ⟨v, h1, h2⟩ := Res.gg_ok h.k
   exact ⟨v, fun hg O nx => ⟨h.p hg, h1 hg O nx⟩, h2⟩
 | .get rs i f, K, h => by
   simp only [Res.gg, ZbA, XA] at h
   obtain ⟨row, hr, h⟩ := h.out
   obtain ⟨v, h1, h2⟩ := Res.gg_ok h
   exact ⟨v, fun hg O nx => ⟨row, hr hg, h1 hg O nx⟩, h2⟩
 | .new _ _, _, h => h.out.elim
 | .upd _ _ _, _, h => h.out.elim
 | .repl _ _ _, _, h => h.out.elim
 | .ite _ _ _, _, h => h.out.elim
 | .fail, _, h => h.out.elim
theorem Z39 (hT : TabOK M.P M.C.T) {a : Act} {fr : Fr} {gs : Gs} {path : List (Nat × Bool)} (H : HeapOK M η w O nx) (hf : FrOK η a fr) (hg : GsOK η a gs) (hp : PathOK a path) (o : Oper) {v : SV} {O' : Hps} {nx' : Nat} (hr : (opG M.C fr gs path O nx o.op).ok O nx v O' nx') : ZO M η w o a.eval v O' nx' := by
 have A : At M η w O nx a.eval (Z1Z fr gs path) := ⟨H, hT, fun x sv hx => V3 hf hg hp hx⟩
 obtain ⟨dst, op, ty, pos, af, gd⟩ := o
 cases op with
 | pick c x y =>
   simp only [opG, ZbB] at hr
   split at hr
   case h_2 => exact hr.elim
   rename_i s
   split at hr
   case h_2 => exact hr.elim
   rename_i b hb
   have hbv := Yp (A.L _ _ hb)
   split at hr
   case h_2 => exact hr.elim
   rename_i p q hx hy
   refine A.val hr ⟨.bool (bif b then p else q), .inl ?_, rfl⟩
   cases b with
   | true =>
     have h2 := Yp (V3 hf hg (path := (s, true) :: path) (fun z hz => by
       rcases List.mem_cons.1 hz with rfl | hz
       · exact hbv
       · exact hp z hz) hx)
     simp [execOp, hbv, h2, asBool]
   | false =>
     have h2 := Yp (V3 hf hg (path := (s, false) :: path) (fun z hz => by
       rcases List.mem_cons.1 hz with rfl | hz
       · exact hbv
       · exact hp z hz) hy)
     simp [execOp, hbv, h2, asBool]
 | _ => exact Z27 A _ hr
theorem Vp (hT : TabOK M.P M.C.T) {ops : Array Oper} {Q : Exit → Act → World → Prop} : ∀ (rest : List Oper) {fr : Fr} {gs : Gs} {O : Hps} {nx : Nat} {K : Fr → Hps → Nat → Prop}, runG M ops.toList rest fr gs O nx K →
   ∀ {η : Env} {a : Act} {w : World}, Models M η fr O nx a w → GsOK η a gs → (∀ η fr O nx a w, Models M η fr O nx a w → K fr O nx → Q .normal a w) → wpListIn M.fence 0 M.P ops Q rest a w
 | [], fr, gs, O, nx, K, h, η, a, w, hm, hg, hq => hq η fr O nx a w hm h
 | o :: rest, fr, gs, O, nx, K, h, η, a, w, hm, hg, hq => by
   replace h : Zaz M ops.toList o rest (runG M ops.toList rest) fr gs O nx K := h
   unfold Zaz at h
   split at h
   · exact h.out.elim
   rename_i hd
   split at h
   · exact h.out.elim
   rename_i hfresh
   split at h
   · rename_i hgu
     refine XJ (JA hgu) ?_
     have main : ∀ {op : Op}, o.op = op → ((opG M.C fr gs [] O nx op).go O nx fun v O nx => putK o.dst v fr fun fr => runG M ops.toList rest fr gs O nx K) → o.wpIn M.fence 0 M.P a w (wpListIn M.fence 0 M.P ops Q rest) Q := by
       intro op ho h
       subst ho
       obtain ⟨v, O', nx', h1, h2⟩ := Res.go_ok h
       obtain ⟨u, w', η', h3, h4, h5, h6, _⟩ := Z39 hT hm.heap hm.frame hg (fun x hx => by cases hx) o h1
       obtain ⟨fr2, h7, h8⟩ := hm.put hd h4 h5 h6 h2
       exact Z0n M.all h3 (Vp hT rest h7 h8 (hg.put h4 hfresh) hq)
     split at h
     · rename_i c ho
       split at h
       · exact main ho h
       · split at h
         · rename_i f args hc
           rw [XF] at h
           refine Z72 ho hm.heap (fun x sv hx => V3 hm.frame hg (fun x hx => by cases hx) hx) hc h fun v r O' nx' η' w' h1 h2 h3 h4 => ?_
           rw [Yl, Vi] at h4
           obtain ⟨fr2, h7, h8⟩ := hm.put hd h1 h2 h3 h4
           exact Vp hT rest h7 h8 (hg.put h1 hfresh) hq
         · exact h.out.elim
     · exact main rfl h
   · rename_i j want hgu
     split at h
     · exact h.out.elim
     rename_i s hs
     split at h
     · exact h.out.elim
     rename_i d hdd
     split at h
     · exact h.out.elim
     rename_i hnot
     split at h
     · exact h.out.elim
     rename_i g hgb
     obtain ⟨v, h1, h2⟩ := Res.gg_ok h
     rw [hdd] at hd hfresh
     have hlt : d < a.tmps.size := by rw [hm.size]; exact Z29 hd
     have next : ∀ {η' : Env} {u : Value} {w' : World}, η <+: η' → HeapOK M η' w' O nx → (PathOK a (Z20 gs s want) → Den η' v u) → (¬ PathOK a (Z20 gs s want) → u = undef) → wpListIn M.fence 0 M.P ops Q rest (a.put o.dst u) w' := by
       intro η' u w' hp hH hv hn
       rw [hdd]
       refine Vp hT rest h2 ⟨hH, by rw [Z28]; exact hm.size, hm.nds, by rw [put_defers, Za8 hd hm.nds]; exact hm.defers.mono hp, VO hp hm.ro, (hm.frame.mono hp).put hlt (by simp only [Den])⟩ ?_ hq
       intro t p sv ht
       rw [Z7] at ht
       split at ht
       · rename_i e
         subst e
         injection ht with ht
         injection ht with ht1 ht2
         subst ht1 ht2
         rw [PathOK.put hnot, Z51 hlt]
         exact ⟨hv, hn⟩
       · exact (hg.put (u := u) hp hfresh) t p sv ht
     by_cases hw : a.tmps.getD s undef = .bool want
     · have hp := Z8U hg hw
       have hgt := Ub hm.frame hg hgb hp
       obtain ⟨u, w', η', h3, h4, h5, h6, _⟩ := Z39 hT hm.heap hm.frame hg hp o (h1 hgt O nx)
       exact XJ ((Zs hgu).2 (Vo hs hw)) (Z0n M.all h3 (next h4 h5 (fun _ => h6) (fun h => absurd hp h)))
     · have hnp : ¬ PathOK a (Z20 gs s want) := fun hp => hw (hp (s, want) (List.mem_cons_self ..))
       exact XY (hF := M.all) (fun hh => by rw [Zs hgu] at hh; exact Jz hs hw hh) (next List.prefix_rfl hm.heap (fun h => absurd h hnp) (fun _ => rfl))
theorem Wj {F : Fence} {P : Program} {Q : Exit → Act → World → Prop} {a : Act} {w : World} {c : Code} (h : c.wpIn F 0 P (Exit.noGoto Q) a w) : (Code.scope c).wpIn F 0 P Q a w := by
 have s1 : ∀ {b : Frame} {a : Act} {k : List Item} {cs : List Frame} {w : World}, step P (lone (b.atR a (.code (.scope c) :: k)) cs w) = .next (lone (b.atR a (.code c :: .inScope c :: k)) cs w) := step_lone_go (by simp [stepG, stepG.exec, Frame.atR])
 have s2 : ∀ {b : Frame} {a : Act} {k : List Item} {cs : List Frame} {w : World}, step P (lone (b.atR a (.inScope c :: k)) cs w) = .next (lone (b.atR a k) cs w) := step_lone_go (by simp [stepG, stepG.exec, Frame.atR])
 intro b k cs hro hb hr
 have h0 : (lone (b.atR a (.code (.scope c) :: k)) cs w).fenced P F := fenced_calm hb hr rfl
 obtain ⟨e, a₁, w₁, hq, harr⟩ := h b (.inScope c :: k) cs hro hb hr
 cases e with
 | normal => exact ⟨.normal, a₁, w₁, hq, .head h0 s1 (StepsIn.trans harr (.one (fenced_calm hb hr rfl) s2))⟩
 | exit id =>
   have hx : exitTo id (.inScope c :: k) = exitTo id k := by simp [exitTo]
   exact ⟨.exit id, a₁, w₁, hq, fun k' hk => .head h0 s1 (harr.1 k' (by rw [hx]; exact hk)), fun hr' hk => let ⟨k₁, h1, h2⟩ := harr.2 hr' (by rw [hx]; exact hk); ⟨k₁, h1, .head h0 s1 h2⟩⟩
 | goto l => exact hq.elim
 | ret => exact ⟨_, a₁, w₁, hq, .of_steps (.one h0 s1) harr⟩
 | panic ch => exact ⟨_, a₁, w₁, hq, .of_steps (.one h0 s1) harr⟩
 | outgrown => exact ⟨_, a₁, w₁, hq, .of_steps (.one h0 s1) harr⟩
theorem Z3a (hT : TabOK M.P M.C.T) {id : Nat} {ops : Array Oper} {fr : Fr} {K : Fr → Hps → Nat → Prop} {Q : Exit → Act → World → Prop}
   (h : match guarded ops.toList && !(Za6 ops.toList) with | true => runG M ops.toList ops.toList fr [] O nx K | false => runS M ops.toList ops.toList fr O nx K) {a : Act} (hm : Models M η fr O nx a w) (hq : ∀ η fr O nx a w, Models M η fr O nx a w → K fr O nx → Q .normal a w) :
   (Code.region id ops false).wpIn M.fence 0 M.P Q a w := by
 refine wpIn_region_list ?_
 split at h
 · exact Vp hT _ h hm (fun t p sv ht => by simp [lkp] at ht) hq
 · exact UE hT _ h hm hq
theorem ZT (hT : TabOK M.P M.C.T) : ∀ (c : Code) {fr : Fr} {O : Hps} {nx : Nat} {Q : Post}, run M c fr O nx Q → Walk M c fr O nx Q
 | .skip, fr, O, nx, Q, h => fun η a w hm => wpIn_skip ⟨η, fr, O, nx, hm, h⟩
 | .label l, fr, O, nx, Q, h => fun η a w hm => wpIn_label ⟨η, fr, O, nx, hm, h⟩
 | .ret, fr, O, nx, Q, h => fun η a w hm => wpIn_ret ⟨η, fr, O, nx, hm, h⟩
 | .exit id, fr, O, nx, Q, h => fun η a w hm => wpIn_exit ⟨η, fr, O, nx, hm, h⟩
 | .region id ops draw, fr, O, nx, Q, h => by
   simp only [run, Z6K] at h
   cases draw with
   | true => exact h.out
   | false => exact fun η a w hm => Z3a hT h hm fun η fr O nx a w hm hk => ⟨η, fr, O, nx, hm, hk⟩
 | .seq x y, fr, O, nx, Q, h => fun η a w hm => by
   refine wpIn_seq (Code.wpIn_mono ?_ (ZT hT x h η a w hm))
   intro e a w hq
   cases e with
   | normal => obtain ⟨η, fr, O, nx, hm, hq⟩ := hq; exact ZT hT y hq η a w hm
   | exit id => exact hq
   | ret => exact hq
   | goto l => exact hq
   | panic ch => exact hq
   | outgrown => exact hq
 | .cond c x y, fr, O, nx, Q, h => fun η a w hm => by
   simp only [run, ZbD] at h
   split at h
   case h_3 => exact h.out.elim
   case h_2 n hb =>
     have hbv := Y3 hm.frame hb
     simp only [Den] at hbv
     obtain ⟨b, hbv, h0⟩ := hbv
     split at h
     case h_2 => exact h.out.elim
     rename_i t
     refine wpIn_cond_split hbv (fun e => ?_) (fun e => ?_)
     · subst e
       exact ZT hT x (h.t (h0 rfl)) η a w (hm.know (s := t) (show lkp t fr = _ from hb) rfl rfl hbv)
     · subst e
       exact ZT hT y h.f η a w (hm.know (s := t) (show lkp t fr = _ from hb) rfl rfl hbv)
   rename_i b hb
   have hbv := Yp (Y3 hm.frame hb)
   split at h
   · rename_i t
     refine wpIn_cond_split hbv (fun e => ?_) (fun e => ?_)
     · subst e
       exact ZT hT x (h.t rfl) η a w (hm.know (s := t) (show lkp t fr = _ from hb) rfl rfl hbv)
     · subst e
       exact ZT hT y (h.f rfl) η a w (hm.know (s := t) (show lkp t fr = _ from hb) rfl rfl hbv)
   · refine wpIn_cond_split hbv (fun e => ?_) (fun e => ?_)
     · subst e; exact ZT hT x (h.t rfl) η a w hm
     · subst e; exact ZT hT y (h.f rfl) η a w hm
 | .block id body, fr, O, nx, Q, h => fun η a w hm => by
   refine wpIn_block (Code.wpIn_mono ?_ (ZT hT body h η a w hm))
   intro e a w hq
   cases e with
   | normal => exact hq
   | exit i =>
     obtain ⟨η, fr, O, nx, hm, hq⟩ := hq
     simp only [Exit.inBlock]
     simp only at hq
     split at hq
     · rename_i e
       have e := Zk e
       subst e
       rw [if_pos rfl]
       exact ⟨η, fr, O, nx, hm, hq⟩
     · rename_i e
       rw [if_neg (Xl e)]
       exact ⟨η, fr, O, nx, hm, hq⟩
   | ret => exact hq
   | goto l => exact hq
   | panic ch => exact hq
   | outgrown => exact hq
 | .loop body, fr, O, nx, Q, h => fun η a w hm b k cs hro hb hr =>
   let ⟨e, a', w', hq, harr⟩ := h.out η a w hm b k cs hro
   ⟨e, a', w', hq, .of_steps (.one (fenced_calm hb hr rfl) stepR_loop) harr⟩
 | .scope body, fr, O, nx, Q, h => fun η a w hm => by
   refine Wj (Code.wpIn_mono ?_ (ZT hT body h η a w hm))
   intro e a w hq
   cases e <;> exact hq
 | .rangeFunc f ps asg body, fr, O, nx, Q, h => h.out
 | .goto _, fr, O, nx, Q, h => h.out.elim
 | .refuse _, fr, O, nx, Q, h => h.out.elim
structure GOES (M : Mx) (fr : Fr) (O : Hps) (nx : Nat) (fr' : Fr) (O' : Hps) (nx' : Nat) : Prop where
 out : ∀ η a w, Models M η fr O nx a w → ∃ η', Models M η' fr' O' nx' a w
theorem LOOP.inv {body : Code} {fr : Fr} {Q : Post} (hT : TabOK M.P M.C.T) {X : Type} (P : X → Prop) (I : X → Fr × Hps × Nat) (μ : X → Nat) (x0 : X) (hP : P x0) (h0 : GOES M fr O nx (I x0).1 (I x0).2.1 (I x0).2.2)
   (hr : ∀ x, P x → run M body (I x).1 (I x).2.1 (I x).2.2 fun e fr O nx => match e with
     | .normal => ∃ x', P x' ∧ μ x' < μ x ∧ GOES M fr O nx (I x').1 (I x').2.1 (I x').2.2
     | e => Q e fr O nx) : LOOP M body fr O nx Q := by
 refine ⟨fun η a w hm => ?_⟩
 obtain ⟨η', hm0⟩ := h0.out η a w hm
 intro b k cs hro
 have hb : M.fence.fn b.fn := M.all _
 have hrm : M.fence.room (cs.length + 1 + 0) := M.room _
 have key : ∀ n x η a w, P x → μ x = n → Models M η (I x).1 (I x).2.1 (I x).2.2 a w →
     ∃ e a' w', Z6G M Q e a' w' ∧ ArrivesIn (Machine.fenced M.P M.fence) M.P (lone (b.atR a (.code body :: .inLoop body :: k)) cs w) b k cs e a' w' := by
   intro n
   induction n using Nat.strongRecOn with
   | _ n ih =>
     intro x η a w hx hn hm
     obtain ⟨e, a', w', hq, harr⟩ := ZT hT body (hr x hx) η a w hm b (.inLoop body :: k) cs hro hb hrm
     cases e with
     | normal =>
       obtain ⟨η1, fr1, O1, nx1, hm1, x', hx', hlt, hnext⟩ := hq
       obtain ⟨η2, hm2⟩ := hnext.out η1 a' w' hm1
       obtain ⟨e2, a2, w2, hq2, harr2⟩ := ih (μ x') (hn ▸ hlt) x' η2 a' w' hx' rfl hm2
       exact ⟨e2, a2, w2, hq2, .of_steps (StepsIn.trans harr (.one (fenced_calm hb hrm rfl) stepR_inLoop)) harr2⟩
     | exit id =>
       obtain ⟨η1, fr1, O1, nx1, hm1, hq⟩ := hq
       exact ⟨.exit id, a', w', ⟨η1, fr1, O1, nx1, hm1, hq⟩, .pass (x := .inLoop body) rfl (fun _ _ => .inl (by simp)) harr⟩
     | ret =>
       obtain ⟨η1, fr1, O1, nx1, hm1, hq⟩ := hq
       exact ⟨.ret, a', w', ⟨η1, fr1, O1, nx1, hm1, hq⟩, .pass (x := .inLoop body) rfl (fun _ _ => .inl (by simp)) harr⟩
     | goto l => exact hq.elim
     | panic ch => exact hq.elim
     | outgrown => exact hq.elim
 exact key _ x0 η' a w hP rfl hm0
theorem LOOP.once {body : Code} {fr : Fr} {Q : Post} (hT : TabOK M.P M.C.T)
   (hr : run M body fr O nx fun e fr O nx => match e with
     | .normal => LOOP M body fr O nx Q
     | e => Q e fr O nx) : LOOP M body fr O nx Q := by
 refine ⟨fun η a w hm => ?_⟩
 intro b k cs hro
 have hb : M.fence.fn b.fn := M.all _
 have hrm : M.fence.room (cs.length + 1 + 0) := M.room _
 obtain ⟨e, a', w', hq, harr⟩ := ZT hT body hr η a w hm b (.inLoop body :: k) cs hro hb hrm
 cases e with
 | normal =>
   obtain ⟨η1, fr1, O1, nx1, hm1, hq⟩ := hq
   obtain ⟨e2, a2, w2, hq2, harr2⟩ := hq.out η1 a' w' hm1 b k cs hro
   exact ⟨e2, a2, w2, hq2, .of_steps (StepsIn.trans harr (.one (fenced_calm hb hrm rfl) stepR_inLoop)) harr2⟩
 | exit id =>
   obtain ⟨η1, fr1, O1, nx1, hm1, hq⟩ := hq
   exact ⟨.exit id, a', w', ⟨η1, fr1, O1, nx1, hm1, hq⟩, (.pass (x := .inLoop body) rfl (fun _ _ => .inl (by simp)) harr)⟩
 | ret =>
   obtain ⟨η1, fr1, O1, nx1, hm1, hq⟩ := hq
   exact ⟨.ret, a', w', ⟨η1, fr1, O1, nx1, hm1, hq⟩, (.pass (x := .inLoop body) rfl (fun _ _ => .inl (by simp)) harr)⟩
 | goto l => exact hq.elim
 | panic ch => exact hq.elim
 | outgrown => exact hq.elim
end
end Go.Sx
