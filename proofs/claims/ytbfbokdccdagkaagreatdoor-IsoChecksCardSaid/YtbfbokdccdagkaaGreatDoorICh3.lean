/- Part 3: SxOpsM, SxDeep, SxOpsN, SxOpsP, SxOpsQ. Conditions: as each part says. -/
import Derived.Test.YtbfbokdccdagkaaGreatDoorICh1
set_option linter.unusedVariables false
namespace Go.Sx
open Go
def Z0m : CK → SV → SV → Option Bool
 | .int k, .int k1 a, .int k2 b => match XO k k1 && XO k k2 with | true => some (a == b) | false => none
 | .str, .str a, .str b => some (a == b)
 | .bool, .bool a, .bool b => some (a == b)
 | _, _, _ => none
def both : Option Bool → Option Bool → Option Bool
 | some a, some b => some (a && b)
 | _, _ => none
theorem Z8p {a b : Option Bool} : (both a b).isSome = true ↔ a.isSome = true ∧ b.isSome = true := by cases a <;> cases b <;> simp [both]
theorem Z8q {a b : Option Bool} : both a b = some true ↔ a = some true ∧ b = some true := by cases a <;> cases b <;> simp [both]
theorem Z01 {k : CK} {ks : List CK} {x y : SV} {xs ys : List SV} : Zn (k :: ks) (x :: xs) (y :: ys) = both (Z0m k x y) (Zn ks xs ys) := by
 cases k with
 | int k =>
   cases x with
   | int k1 a =>
     cases y with
     | int k2 b =>
       simp only [Zn, Z0m]
       cases XO k k1 && XO k k2 <;> cases Zn ks xs ys <;> rfl
     | _ => rfl
   | _ => rfl
 | str =>
   cases x with
   | str a =>
     cases y with
     | str b => simp only [Zn, Z0m]; cases Zn ks xs ys <;> rfl
     | _ => rfl
   | _ => rfl
 | bool =>
   cases x with
   | bool a =>
     cases y with
     | bool b => simp only [Zn, Z0m]; cases Zn ks xs ys <;> rfl
     | _ => rfl
   | _ => rfl
theorem Z9X {k : CK} {x y : SV} (h1 : (Z0m k x x).isSome = true) (h2 : (Z0m k y y).isSome = true) : (Z0m k x y).isSome = true := by
 cases k with
 | int k =>
   cases x with
   | int k1 a =>
     cases y with
     | int k2 b =>
       simp only [Z0m] at h1 h2 ⊢
       cases e1 : XO k k1 <;> cases e2 : XO k k2 <;> simp_all
     | _ => cases h2
   | _ => cases h1
 | str =>
   cases x with
   | str a => cases y with
     | str b => rfl
     | _ => cases h2
   | _ => cases h1
 | bool =>
   cases x with
   | bool a => cases y with
     | bool b => rfl
     | _ => cases h2
   | _ => cases h1
theorem Z7m {η : Env} {k : CK} {x y : SV} {u v : Value} (h : Z0m k x y = some true) (h1 : Den η x u) (h2 : Den η y v) : u = v ∧ ∀ n, Instr.sameBits n u u = true := by
 cases k with
 | int k =>
   cases x with
   | int k1 a =>
     cases y with
     | int k2 b =>
       simp only [Z0m] at h
       split at h
       · rename_i hk
         simp only [Bool.and_eq_true, kindEq_iff] at hk
         simp only [Option.some.injEq, beq_iff_eq] at h
         simp only [Den] at h1 h2
         obtain ⟨e1, e2⟩ := hk
         subst h1; subst h2; subst h; subst e1; subst e2
         exact ⟨rfl, fun n => by cases n <;> simp [Instr.sameBits]⟩
       · cases h
     | _ => cases h
   | _ => cases h
 | str =>
   cases x with
   | str a => cases y with
     | str b =>
       simp only [Z0m, Option.some.injEq, beq_iff_eq] at h
       simp only [Den] at h1 h2
       subst h1; subst h2; subst h
       exact ⟨rfl, fun n => by cases n <;> (show (a.toArray == a.toArray) = true; simp)⟩
     | _ => cases h
   | _ => cases h
 | bool =>
   cases x with
   | bool a => cases y with
     | bool b =>
       simp only [Z0m, Option.some.injEq, beq_iff_eq] at h
       simp only [Den] at h1 h2
       subst h1; subst h2; subst h
       exact ⟨rfl, fun n => by cases n <;> simp [Instr.sameBits]⟩
     | _ => cases h
   | _ => cases h
theorem Z2Q : ∀ {ks : List CK} {xs ys : List SV}, (Zn ks xs xs).isSome = true → (Zn ks ys ys).isSome = true → (Zn ks xs ys).isSome = true
 | [], xs, ys, h1, h2 => by cases xs <;> cases ys <;> simp_all [Zn]
 | k :: ks, [], ys, h1, h2 => by cases k <;> simp [Zn] at h1
 | k :: ks, x :: xs, [], h1, h2 => by cases k <;> simp [Zn] at h2
 | k :: ks, x :: xs, y :: ys, h1, h2 => by
   rw [Z01, Z8p] at h1 h2 ⊢
   exact ⟨Z9X h1.1 h2.1, Z2Q h1.2 h2.2⟩
theorem VG {η : Env} : ∀ {ks : List CK} {xs ys : List SV} {us vs : List Value}, Zn ks xs ys = some true → DenL η xs us → DenL η ys vs → us = vs ∧ ∀ u ∈ us, ∀ n, Instr.sameBits n u u = true
 | [], [], [], us, vs, h, h1, h2 => by
   simp only [DenL] at h1 h2
   subst h1; subst h2; simp
 | [], _ :: _, _, us, vs, h, h1, h2 => by simp [Zn] at h
 | [], [], _ :: _, us, vs, h, h1, h2 => by simp [Zn] at h
 | k :: ks, [], ys, us, vs, h, h1, h2 => by cases k <;> simp [Zn] at h
 | k :: ks, x :: xs, [], us, vs, h, h1, h2 => by cases k <;> simp [Zn] at h
 | k :: ks, x :: xs, y :: ys, us, vs, h, h1, h2 => by
   rw [Z01, Z8q] at h
   simp only [DenL] at h1 h2
   obtain ⟨u, us, rfl, a1, a2⟩ := h1
   obtain ⟨v, vs, rfl, b1, b2⟩ := h2
   obtain ⟨e1, s1⟩ := Z7m h.1 a1 b1
   obtain ⟨e2, s2⟩ := VG h.2 a2 b2
   subst e1; subst e2
   exact ⟨rfl, fun w hw => by rcases List.mem_cons.1 hw with rfl | hw; exact s1; exact s2 w hw⟩
theorem Z02 {p : Nat → Value → Value → Bool} {n : Nat} : ∀ {l : List Value}, (∀ u ∈ l, p n u u = true) → ((l.zip l).all fun (x, y) => p n x y) = true
 | [], _ => rfl
 | u :: us, h => by simp only [List.zip_cons_cons, List.all_cons, Bool.and_eq_true]; exact ⟨h u (by simp), Z02 fun w hw => h w (by simp [hw])⟩
theorem Z0C {η : Env} {ks : Bool × List CK} {a b : SV} {u v : Value} (h : W1 ks a b = true) (h1 : Den η a u) (h2 : Den η b v) : u = v ∧ Instr.sameBits 10000 u u = true := by
 obtain ⟨f, ks⟩ := ks
 have hq : JS (f, ks) a b = some true := by
   unfold W1 at h
   cases hq : JS (f, ks) a b with
   | none => rw [hq] at h; cases h
   | some r => rw [hq] at h; exact congrArg some h
 cases f with
 | false =>
   simp only [JS, ZR] at hq
   obtain ⟨e, s⟩ := VG hq (show DenL η [a] [u] from by simp only [DenL]; exact ⟨u, [], rfl, h1, rfl⟩) (show DenL η [b] [v] from by simp only [DenL]; exact ⟨v, [], rfl, h2, rfl⟩)
   exact ⟨by simpa using e, s u (by simp) _⟩
 | true =>
   cases a with
   | agg xs =>
     cases b with
     | agg ys =>
       simp only [JS, ZR] at hq
       simp only [Den] at h1 h2
       obtain ⟨us, rfl, h1, _⟩ := h1
       obtain ⟨vs, rfl, h2, _⟩ := h2
       obtain ⟨e, s⟩ := VG hq h1 h2
       subst e
       refine ⟨rfl, ?_⟩
       show (us.toArray.size == us.toArray.size && (us.toArray.toList.zip us.toArray.toList).all fun (x, y) => Instr.sameBits 9999 x y) = true
       simp only [beq_self_eq_true, Bool.true_and]
       exact Z02 fun w hw => s w (by simpa using hw) _
     | _ => simp [JS, ZR] at hq
   | _ => simp [JS, ZR] at hq
theorem Z7n {ks : Bool × List CK} {a b : SV} (h1 : J8 ks a = true) (h2 : J8 ks b = true) : ∃ r, JS ks a b = some r := by
 obtain ⟨f, ks⟩ := ks
 simp only [J8, JS] at h1 h2 ⊢
 cases ha : ZR f a with
 | none => rw [ha] at h1; cases h1
 | some xs =>
   cases hb : ZR f b with
   | none => rw [hb] at h2; cases h2
   | some ys =>
     rw [ha] at h1; rw [hb] at h2
     exact Option.isSome_iff_exists.1 (Z2Q h1 h2)
def MapL (η : Env) : List (List SV) → List MapEntry → Prop
 | [], [] => True
 | r :: rs, e :: es => DenL η r [e.key, e.val] ∧ MapL η rs es
 | _, _ => False
theorem UL {η : Env} : ∀ {rs : List (List SV)} {es : List MapEntry} {i : Nat}, es.length = rs.length → (∀ j row, rs[j]? = some row → ∃ en : MapEntry, es[j]? = some en ∧ en.born = i + j ∧ DenL η row [en.key, en.val]) → MapL η rs es
 | [], [], _, _, _ => trivial
 | [], _ :: _, _, h, _ => by simp at h
 | _ :: _, [], _, h, _ => by simp at h
 | r :: rs, e :: es, i, hl, h => by
   obtain ⟨en, h1, _, h3⟩ := h 0 r rfl
   simp at h1; subst h1
   exact ⟨h3, UL (i := i + 1) (by simpa using hl) fun j row hr => by
     obtain ⟨en, g1, g2, g3⟩ := h (j + 1) row (by simpa using hr)
     exact ⟨en, by simpa using g1, by omega, g3⟩⟩
def Hit (η : Env) : Option (Nat × SV) → Option (Nat × Value) → Prop
 | none, f => f = none
 | some (j, v), f => ∃ x, f = some (j, x) ∧ Den η v x
theorem Z6A {P : Program} {T : Tab} (hT : TabOK P T) {t : TypeId} {ks : Bool × List CK} (ht : T.key t = some ks) {η : Env} {w : World} {key : SV} {u : Value} (hk : J8 ks key = true) (hu : Den η key u) :
   ∀ {rs : List (List SV)} {es : List MapEntry} {i : Nat}, Vy ks rs → MapL η rs es → ∃ f, (Instr.findAsking t u es i).run P w = .ok f w ∧ (∀ d, P.underlying t = some d → Instr.findNow d u es i = none ∨ Instr.findNow d u es i = some f) ∧ Hit η (YP ks key i rs) f ∧ ∀ j x, f = some (j, x) → i ≤ j ∧ ∃ e, es[j - i]? = some e ∧ e.val = x
 | [], [], i, _, _ => ⟨none, by simp [Instr.findAsking], fun d _ => .inr rfl, rfl, fun _ _ h => by cases h⟩
 | [], _ :: _, _, _, h => h.elim
 | _ :: _, [], _, _, h => h.elim
 | r :: rs, e :: es, i, ho, h => by
   obtain ⟨k, v, rfl, hko⟩ := ho r (by simp)
   obtain ⟨hd, hr⟩ := h
   simp only [DenL] at hd
   obtain ⟨_, _, e1, hdk, _, _, e2, hdv, e3⟩ := hd
   cases e1; cases e2
   obtain ⟨b, hb⟩ := Z7n hk hko
   obtain ⟨g1, g2⟩ := (hT.key t ks ht).2.1 w η key k u e.key b hb hu hdk
   have his : W1 ks key k = b := by simp only [W1, hb]
   cases b with
   | true =>
     refine ⟨some (i, e.val), by simp [Instr.findAsking, g1], fun d hd => ?_, ?_, fun j x h => ?_⟩
     · rcases g2 d hd with h | h <;> simp [Instr.findNow, h]
     · simp only [YP, his]; exact ⟨_, rfl, hdv⟩
     · simp only [Option.some.injEq, Prod.mk.injEq] at h
       obtain ⟨rfl, rfl⟩ := h
       exact ⟨Nat.le_refl _, e, by simp, rfl⟩
   | false =>
     obtain ⟨f, f1, f2, f3, f4⟩ := Z6A hT ht hk hu (i := i + 1) (rs := rs) (es := es) (fun r hr => ho r (by simp [hr])) hr
     refine ⟨f, by simp [Instr.findAsking, g1]; exact f1, fun d hd => ?_, ?_, fun j x h => ?_⟩
     · rcases g2 d hd with h | h
       · simp [Instr.findNow, h]
       · simp only [Instr.findNow, h]; exact f2 d hd
     · simp only [YP, his]; exact f3
     · obtain ⟨h1, e', h2, h3⟩ := f4 j x h
       refine ⟨by omega, e', ?_, h3⟩
       rw [show j - i = (j - (i + 1)) + 1 by omega]
       simpa using h2
theorem JI {P : Program} {T : Tab} (hT : TabOK P T) {t : TypeId} {ks : Bool × List CK} (ht : T.key t = some ks) {η : Env} {w : World} {key : SV} {u : Value} (hk : J8 ks key = true) (hu : Den η key u)
   {rs : List (List SV)} {es : List MapEntry} (ho : Vy ks rs) (hm : MapL η rs es) : ∃ f, (Instr.findKey t u es).run P w = .ok f w ∧ Hit η (YP ks key 0 rs) f ∧ ∀ j x, f = some (j, x) → ∃ e, es[j]? = some e ∧ e.val = x := by
 obtain ⟨f, f1, f2, f3, f4⟩ := Z6A hT ht hk hu (i := 0) (w := w) ho hm
 obtain ⟨d, hd⟩ := (hT.key t ks ht).2.2
 refine ⟨f, ?_, f3, fun j x h => by simpa using (f4 j x h).2⟩
 rcases f2 d hd with h | h
 · simp [Instr.findKey, Ze hd, h, f1]
 · simp [Instr.findKey, Ze hd, h]
theorem Vh {P : Program} {T : Tab} (hT : TabOK P T) {t : TypeId} {ks : Bool × List CK} (ht : T.key t = some ks) {η : Env} {w : World} {key : SV} {u : Value} (hk : J8 ks key = true) (hu : Den η key u)
   {rs : List (List SV)} {es : List MapEntry} (ho : Vy ks rs) (hm : MapL η rs es) : ∃ f, (Instr.findKey t u es).run P w = .ok f w ∧ Hit η (YP ks key 0 rs) f :=
 let ⟨f, h1, h2, _⟩ := JI hT ht hk hu ho hm; ⟨f, h1, h2⟩
theorem U4 {ks : Bool × List CK} {key : SV} : ∀ {rs : List (List DC)} {i : Nat}, YP ks key i (Yd rs) = (findD ks key i rs).map fun p => (p.1, Xg p.2)
 | [], _ => rfl
 | r :: rs, i => by
   have ih := U4 (ks := ks) (key := key) (rs := rs) (i := i + 1)
   unfold Yd at ih ⊢
   match r with
   | [] => rfl
   | [a] => rfl
   | a :: b :: c :: l => rfl
   | [k, v] =>
     simp only [List.map_cons, List.map_nil, YP, findD]
     cases W1 ks key (Xg k)
     · exact ih
     · rfl
theorem Z0D {ks : Bool × List CK} {key : SV} : ∀ {rs : List (List DC)} {i j : Nat} {v : DC}, findD ks key i rs = some (j, v) → ∃ k, i ≤ j ∧ rs[j - i]? = some [k, v] ∧ W1 ks key (Xg k) = true
 | [], i, j, v, h => by simp [findD] at h
 | r :: rs, i, j, v, h => by
   unfold findD at h
   split at h
   · rename_i k u
     split at h
     · rename_i hk
       simp only [Option.some.injEq, Prod.mk.injEq] at h
       obtain ⟨rfl, rfl⟩ := h
       exact ⟨k, Nat.le_refl _, by simp, hk⟩
     · obtain ⟨k', h1, h2, h3⟩ := Z0D h
       refine ⟨k', by omega, ?_, h3⟩
       have : j - i = (j - (i + 1)) + 1 := by omega
       rw [this]; simpa using h2
   · cases h
end Go.Sx
set_option linter.unusedSimpArgs false
namespace Go.Sx
open Go
def setC (rs : List (List DC)) (r c : Nat) (d : DC) : List (List DC) := rs.modify r fun row => row.set c d
theorem Xj {rs : List (List DC)} {r c : Nat} {d : DC} (i : Nat) : (setC rs r c d)[i]? = if i = r then (rs[i]?).map (fun row => row.set c d) else rs[i]? := by
 unfold setC
 rw [List.getElem?_modify]
 by_cases h : r = i
 · subst h; simp
 · rw [if_neg (fun e => h e.symm)]; simp [h]
theorem kidAt_some {rs : List (List DC)} {i j es : Nat} {rows : List (List SV)} : X6 rs i j = some (es, rows) ↔ ∃ row, rs[i]? = some row ∧ row[j]? = some (.kid es rows) := by
 unfold X6
 constructor
 · intro h
   split at h
   · rename_i row hr
     split at h
     · rename_i es' rows' hc
       simp only [Option.some.injEq, Prod.mk.injEq] at h
       obtain ⟨rfl, rfl⟩ := h
       exact ⟨row, hr, hc⟩
     · cases h
   · cases h
 · rintro ⟨row, hr, hc⟩
   rw [hr]; simp only [hc]
theorem X9 {rs : List (List DC)} {r c : Nat} {d : DC} {i j : Nat} {x : Nat × List (List SV)} (h : X6 (setC rs r c d) i j = some x) : X6 rs i j = some x ∨ (i = r ∧ j = c ∧ d = .kid x.1 x.2) := by
 obtain ⟨es, rows⟩ := x
 obtain ⟨row, hr, hc⟩ := kidAt_some.1 h
 rw [Xj] at hr
 by_cases hi : i = r
 · subst hi
   rw [if_pos rfl] at hr
   obtain ⟨row0, h0, rfl⟩ := Option.map_eq_some_iff.1 hr
   rw [List.getElem?_set] at hc
   by_cases hj : c = j
   · subst hj
     rw [if_pos rfl] at hc
     split at hc
     · injection hc with hc
       exact .inr ⟨rfl, rfl, hc⟩
     · cases hc
   · rw [if_neg hj] at hc
     exact .inl (kidAt_some.2 ⟨row0, h0, hc⟩)
 · rw [if_neg hi] at hr
   exact .inl (kidAt_some.2 ⟨row, hr, hc⟩)
theorem V7 {rs : List (List DC)} {r c : Nat} {sv : SV} {i j : Nat} {x : Nat × List (List SV)} (h : X6 (setC rs r c (.v sv)) i j = some x) : X6 rs i j = some x ∧ ¬ (i = r ∧ j = c) := by
 refine ⟨(X9 h).elim id (fun h => by cases h.2.2), ?_⟩
 rintro ⟨rfl, rfl⟩
 obtain ⟨es, rows⟩ := x
 obtain ⟨row, hr, hc⟩ := kidAt_some.1 h
 rw [Xj, if_pos rfl] at hr
 obtain ⟨row0, h0, rfl⟩ := Option.map_eq_some_iff.1 hr
 rw [List.getElem?_set, if_pos rfl] at hc
 split at hc
 · cases hc
 · cases hc
theorem Jh {rs : List (List DC)} {i : Nat} : (Yd rs)[i]? = (rs[i]?).map fun r => r.map Xg := by unfold Yd; rw [List.getElem?_map]
theorem Xk {rs : List (List DC)} : (Yd rs).length = rs.length := by unfold Yd; rw [List.length_map]
theorem Wz {rs : List (List DC)} {r c : Nat} {d : DC} (i : Nat) : (Yd (setC rs r c d))[i]? = if i = r then ((Yd rs)[i]?).map (fun row => row.set c (Xg d)) else (Yd rs)[i]? := by
 rw [Jh, Xj, Jh]
 split
 · cases rs[i]? <;> simp [List.map_set]
 · rfl
theorem Z3q {rs : List (List DC)} {r c : Nat} {d : DC} : (setC rs r c d).length = rs.length := by unfold setC; rw [List.length_modify]
section
variable {M : Mx} {η : Env} {w w' : World} {O : Hps} {nx : Nat}
def Z8r (η : Env) (w : World) (own : Bool) (b : Blk) (mp : Bool) (es : Nat) (fs : List (List SV)) : Prop := match mp with | true => MpSat η w b fs | false => RowsSat η w own b es fs
theorem VH {own : Bool} {b : Blk} {mp : Bool} {es : Nat} {rs : List (List DC)} (d : HpSat η w own b (.deep mp es rs)) {r c : Nat} {row : List DC} {dc : DC} (hr : rs[r]? = some row) (hc : row[c]? = some dc) :
   ∃ e o v, η.get b = some (some e) ∧ w.heap[e.g]? = some o ∧ YG o es r c = some v ∧ Den η (Xg dc) v ∧ KidsOK η w e.g o es rs := by
 have hfr : (Yd rs)[r]? = some (row.map Xg) := by rw [Jh, hr]; rfl
 have hfc : (row.map Xg)[c]? = some (Xg dc) := by rw [List.getElem?_map, hc]; rfl
 cases mp
 · simp only [HpSat] at d
   obtain ⟨d1, d2⟩ := d
   rcases d1 with ⟨_, h2⟩ | ⟨e, arr, T, fz, h1, h2, h3, h4⟩
   · rw [h2] at hfr; cases hfr
   obtain ⟨h5, h6⟩ := d2 e h1
   obtain ⟨v, h7, _, h8⟩ := (h4 r _ hfr).2 c _ hfc
   rw [h5, Nat.zero_add] at h7
   exact ⟨e, _, v, h1, h2, h7, h8, h6 _ h2⟩
 · simp only [HpSat] at d
   obtain ⟨⟨d1, d0⟩, d2⟩ := d
   obtain ⟨e, ens, h1, h2, h3, h4, h5⟩ := d1
   obtain ⟨_, h6⟩ := d2 e h1
   obtain ⟨en, g1, _, g3⟩ := h5 r _ hfr
   obtain ⟨v, hv, hd⟩ := X4 g3 hfc
   refine ⟨e, _, v, h1, h3, ?_, hd, h6 _ h3⟩
   simp only [YG, g1, Option.map_some]
   match c, hv with
   | 0, hv => simpa using hv
   | 1, hv => simpa using hv
   | c + 2, hv => simp at hv
theorem WA {own : Bool} {b : Blk} {mp : Bool} {es : Nat} {rs : List (List DC)} (d : HpSat η w own b (.deep mp es rs)) {η' : Env} (hp : η <+: η') {r c : Nat} {dc : DC}
   (hv : ∀ e o v, η.get b = some (some e) → w.heap[e.g]? = some o → YG o es r c = some v → Den η' (Xg dc) v) :
   Z8r η' w own b mp es (Yd (setC rs r c dc)) := by
 cases mp
 · simp only [HpSat] at d
   obtain ⟨d1, d2⟩ := d
   rcases d1 with ⟨h1, h2⟩ | ⟨e, arr, T, fz, h1, h2, h3, h4⟩
   · refine .inl ⟨Env.get_mono hp h1, ?_⟩
     apply List.length_eq_zero_iff.1
     rw [Xk, Z3q, ← Xk, h2]; rfl
   · refine .inr ⟨e, arr, T, fz, Env.get_mono hp h1, h2, by rw [Xk, Z3q, ← Xk]; exact h3, fun i row hr => ?_⟩
     rw [Wz] at hr
     obtain ⟨h5, _⟩ := d2 e h1
     split at hr
     · rename_i hi; subst hi
       obtain ⟨row0, h0, rfl⟩ := Option.map_eq_some_iff.1 hr
       obtain ⟨g1, g2⟩ := h4 i row0 h0
       refine ⟨by rw [List.length_set]; exact g1, fun j sv hj => ?_⟩
       rw [List.getElem?_set] at hj
       split at hj
       · rename_i hcj; subst hcj
         split at hj
         · rename_i hlt
           injection hj with hj; subst hj
           obtain ⟨v, k1, k2, _⟩ := g2 c _ (List.getElem?_eq_getElem hlt)
           refine ⟨v, k1, k2, hv e _ v h1 h2 ?_⟩
           rw [h5, Nat.zero_add] at k1
           exact k1
         · cases hj
       · obtain ⟨v, k1, k2, k3⟩ := g2 j sv hj
         exact ⟨v, k1, k2, k3.mono hp⟩
     · exact ⟨(h4 i row hr).1, (h4 i row hr).2.mono hp⟩
 · simp only [HpSat] at d
   obtain ⟨⟨d1, d0⟩, d2⟩ := d
   obtain ⟨e, ens, h1, h2, h3, h4, h5⟩ := d1
   refine ⟨e, ens, Env.get_mono hp h1, h2, h3, by rw [Xk, Z3q, ← Xk]; exact h4, fun i row hr => ?_⟩
   rw [Wz] at hr
   split at hr
   · rename_i hi; subst hi
     obtain ⟨row0, h0, rfl⟩ := Option.map_eq_some_iff.1 hr
     obtain ⟨en, g1, g2, g3⟩ := h5 i row0 h0
     refine ⟨en, g1, g2, ?_⟩
     have hvc := fun v (hc : YG (.map ens ens.size) es i c = some v) => hv e _ v h1 h3 hc
     simp only [YG, g1, Option.map_some, Option.some.injEq] at hvc
     have g3 := g3.mono hp
     match row0, c, hvc, g3 with
     | [], c, _, g3 => simpa using g3
     | [a], 0, hvc, g3 => simp [DenL] at g3
     | a :: b :: l, 0, hvc, g3 =>
       simp only [List.set_cons_zero, DenL] at g3 ⊢
       obtain ⟨u, us, q1, q2, q3⟩ := g3
       injection q1 with q1 q1'; subst q1 q1'
       exact ⟨_, _, rfl, hvc _ rfl, q3⟩
     | [a], c + 1, hvc, g3 => simp [DenL] at g3
     | a :: b :: l, 1, hvc, g3 =>
       simp only [List.set_cons_succ, List.set_cons_zero, DenL] at g3 ⊢
       obtain ⟨u, us, q1, q2, u', us', q3, q4, q5⟩ := g3
       injection q1 with q1 q1'; subst q1 q1'
       injection q3 with q3 q3'; subst q3 q3'
       exact ⟨_, _, rfl, q2, _, _, rfl, hvc _ rfl, q5⟩
     | a :: b :: l, c + 2, hvc, g3 =>
       have : (a :: b :: l).set (c + 2) (Xg dc) = a :: b :: l := by
         simp only [DenL] at g3
         obtain ⟨u, us, q1, q2, u', us', q3, q4, q5⟩ := g3
         injection q1 with q1 q1'; subst q1 q1'
         injection q3 with q3 q3'; subst q3 q3'
         cases l with
         | nil => rfl
         | cons x l => simp [DenL] at q5
       rw [this]; exact g3
   · obtain ⟨en, g1, g2, g3⟩ := h5 i row hr
     exact ⟨en, g1, g2, g3.mono hp⟩
theorem HpSat.deep_ent {own : Bool} {b : Blk} {mp : Bool} {es : Nat} {rs : List (List DC)} (d : HpSat η w own b (.deep mp es rs)) : (∃ x, η.get b = some x) ∧ DeepSat η w b es rs ∧ (mp = true → es = 2) := by
 cases mp
 · simp only [HpSat] at d
   exact ⟨let ⟨x, h, _⟩ := d.1.ent; ⟨x, h⟩, d.2, fun h => by cases h⟩
 · simp only [HpSat] at d
   exact ⟨let ⟨x, h, _⟩ := d.1.1.ent; ⟨x, h⟩, d.2, fun _ => d.1.2⟩
theorem HpSat.deep_of {own : Bool} {b : Blk} {mp : Bool} {es : Nat} {rs : List (List DC)} (h : Z8r η w own b mp es (Yd rs)) (h0 : mp = true → es = 2) (h2 : DeepSat η w b es rs) : HpSat η w own b (.deep mp es rs) := by
 cases mp
 · simp only [HpSat]; exact ⟨h, h2⟩
 · simp only [HpSat]; exact ⟨⟨h, h0 rfl⟩, h2⟩
theorem HeapOK.take (H : HeapOK M η w O nx) {i : Nat} {mp : Bool} {es : Nat} {rs : List (List DC)} (hi : lkp i O = some (.deep mp es rs)) {r c es' : Nat} {row : List DC} {rows : List (List SV)} (hr : rs[r]? = some row) (hc : row[c]? = some (.kid es' rows)) :
   ∃ x, HeapOK M (η ++ [x]) w ((nx, .rows es' rows) :: setK i (.deep mp es (setC rs r c (.v (.sl (.loc nx) 0 es' rows.length none)))) O) (nx + 1) := by
 obtain ⟨hsat, hF⟩ := H.own.1 i _ hi
 obtain ⟨e, o, v, he, ho, hv, _, hK⟩ := VH hsat hr hc
 have hkid : X6 rs r c = some (es', rows) := kidAt_some.2 ⟨row, hr, hc⟩
 obtain ⟨v', hv', hks, hvg⟩ := hK.sat r c es' rows hkid
 rw [hv] at hv'; injection hv' with hv'; subst hv'
 have fkid : ∀ k, v.ownBlock = some k → feet η w (.loc i) (.deep mp es rs) k := fun k hk => ⟨e, he, .inr (by simp only [kid]; exact ⟨o, r, c, _, v, ho, hkid, hv, hk⟩)⟩
 obtain ⟨_, hD, h0⟩ := hsat.deep_ent
 have hsome : (lkp i O).isSome := by rw [hi]; rfl
 obtain ⟨x, hx, hxe, hnew, hden⟩ : ∃ x : Option Ent, (∀ e', x = some e' → v.ownBlock = some e'.g) ∧ (∀ e', x = some e' → e'.g < w.heap.size) ∧ HpSat (η ++ [x]) w true (.loc nx) (.rows es' rows) ∧ Den (η ++ [x]) (.sl (.loc nx) 0 es' rows.length none) v := by
   rcases hks with ⟨rfl, rfl⟩ | ⟨g, cap, arr, T, fz, rfl, k2, k3, k4, k5, k6⟩
   · refine ⟨none, (fun e' h => by cases h), (fun e' h => by cases h), ?_, ?_⟩
     · simp only [HpSat]; exact .inl ⟨ZV H.len _, trivial⟩
     · simp only [Den]; exact .inl ⟨ZV H.len _, trivial, rfl⟩
   · refine ⟨some ⟨g, 0, cap⟩, fun e' h => by injection h with h; subst h; rfl, fun e' h => by injection h with h; subst h; exact (Array.getElem?_eq_some_iff.1 k2).1, ?_, ?_⟩
     · simp only [HpSat]
       exact .inr ⟨_, arr, T, fz, ZV H.len _, k2, fun _ => ⟨k3, k4, k5, rfl⟩, fun j row hj => ⟨(k6 j row hj).1, (k6 j row hj).2.mono (List.prefix_append _ _)⟩⟩
     · simp only [Den]
       exact .inr ⟨_, 0, ZV H.len _, by simp, by simpa using k5, by simp, fun _ => by simp⟩
 have hp : η <+: η ++ [x] := List.prefix_append _ _
 have hgi : (η ++ [x]).get (.loc i) = some (some e) := Env.get_mono hp he
 have hsi : HpSat (η ++ [x]) w true (.loc i) (.deep mp es (setC rs r c (.v (.sl (.loc nx) 0 es' rows.length none)))) := by
   refine HpSat.deep_of (WA hsat hp fun e' o' v' h1 h2 h3 => ?_) h0 fun e' h1 => ?_
   · rw [he] at h1; injection h1 with h1; injection h1 with h1; subst h1
     rw [ho] at h2; injection h2 with h2; subst h2
     rw [hv] at h3; injection h3 with h3; subst h3
     exact hden
   · rw [hgi] at h1; injection h1 with h1; injection h1 with h1; subst h1
     refine ⟨(hD e he).1, fun o' h2 => ?_⟩
     rw [ho] at h2; injection h2 with h2; subst h2
     have hK := hK.mono hp
     exact ⟨fun a b es'' rows'' hk => hK.sat a b es'' rows'' (V7 hk).1, fun a b a' b' y y' u u' k h1 h2 => hK.ne a b a' b' y y' u u' k (V7 h1).1 (V7 h2).1⟩
 have back : ∀ j g, lkp j O = some g → ∀ k, feet (η ++ [x]) w (.loc j) g k → feet η w (.loc j) g k := fun j g hj k f => H.stands hp hj (fun _ _ => rfl) f
 have backi : ∀ k, feet (η ++ [x]) w (.loc i) (.deep mp es (setC rs r c (.v (.sl (.loc nx) 0 es' rows.length none)))) k → feet η w (.loc i) (.deep mp es rs) k ∧ v.ownBlock ≠ some k := by
   intro k f
   rcases f.of hgi with rfl | f
   · exact ⟨feet.own he, hvg⟩
   · simp only [kid] at f
     obtain ⟨o', a, b, y, u, f1, f2, f3, f4⟩ := f
     rw [ho] at f1; injection f1 with f1; subst f1
     obtain ⟨f5, f6⟩ := V7 f2
     refine ⟨⟨e, he, .inr (by simp only [kid]; exact ⟨o, a, b, y, u, ho, f5, f3, f4⟩)⟩, fun hk => f6 ?_⟩
     exact hK.ne a b r c y _ u v k f5 hkid f3 hv f4 hk
 have fnew : ∀ k, feet (η ++ [x]) w (.loc nx) (.rows es' rows) k → v.ownBlock = some k := by
   intro k f
   obtain ⟨e', f1, f2⟩ := f
   rw [ZV H.len] at f1; injection f1 with f1; subst f1
   rcases f2 with rfl | f2
   · exact hx _ rfl
   · exact f2.elim
 refine ⟨x, { pre := H.pre.trans hp, len := by simp [H.len], sok := H.sok, fr := H.fr, own := ⟨?_, ?_⟩ }⟩
 · intro j g hj
   rw [Zk] at hj
   split at hj
   · rename_i hq; subst hq; injection hj with hj; subst hj
     exact ⟨hnew, fun k f => hF k (fkid k (fnew k f))⟩
   · rw [Y4 i _ O j hsome] at hj
     split at hj
     · rename_i hq; subst hq; injection hj with hj; subst hj
       exact ⟨hsi, fun k f => hF k (backi k f).1⟩
     · exact ⟨(H.own.1 j g hj).1.mono hp, fun k f => (H.own.1 j g hj).2 k (back j g hj k f)⟩
 · intro j k g g' m hj hk hne f f'
   rw [Zk] at hj hk
   rw [Y4 i _ O _ hsome] at hj hk
   split at hj
   · rename_i hq; subst hq; injection hj with hj; subst hj
     rw [if_neg (Ne.symm hne)] at hk
     have f := fnew m f
     split at hk
     · rename_i hq; subst hq; injection hk with hk; subst hk
       exact (backi m f').2 f
     · rename_i hki
       exact H.own.2 i k _ g' m hi hk (Ne.symm hki) (fkid m f) (back k g' hk m f')
   · split at hk
     · rename_i hq; subst hq; injection hk with hk; subst hk
       have f' := fnew m f'
       split at hj
       · rename_i hq; subst hq; injection hj with hj; subst hj
         exact (backi m f).2 f'
       · rename_i hji
         exact H.own.2 i j _ g m hi hj (Ne.symm hji) (fkid m f') (back j g hj m f)
     · split at hj
       · rename_i hq; subst hq; injection hj with hj; subst hj
         rw [if_neg (Ne.symm hne)] at hk
         exact H.own.2 j k _ g' m hi hk hne (backi m f).1 (back k g' hk m f')
       · split at hk
         · rename_i hq; subst hq; injection hk with hk; subst hk
           exact H.own.2 j k g _ m hj hi hne (back j g hj m f) (backi m f').1
         · exact H.own.2 j k g g' m hj hk hne (back j g hj m f) (back k g' hk m f')
theorem HeapOK.putk (H : HeapOK M η w O nx) {i : Nat} {mp : Bool} {es : Nat} {rs : List (List DC)} (hi : lkp i O = some (.deep mp es rs)) {r c k es' n : Nat} {row : List DC} {rows : List (List SV)} (hr : rs[r]? = some row) (hc : row[c]? = some (.v (.sl (.loc k) 0 es' n none)))
   (hk : lkp k O = some (.rows es' rows)) (hn : n ≤ rows.length) (hki : k ≠ i) : HeapOK M η w (delK k (setK i (.deep mp es (setC rs r c (.kid es' (rows.take n)))) O)) nx := by
 obtain ⟨hsat, hF⟩ := H.own.1 i _ hi
 obtain ⟨hsk, hFk⟩ := H.own.1 k _ hk
 obtain ⟨e, o, v, he, ho, hv, hdv, hK⟩ := VH hsat hr hc
 obtain ⟨_, hD, h0⟩ := hsat.deep_ent
 have hsome : (lkp i O).isSome := by rw [hi]; rfl
 have hks : KidSat η w v es' (rows.take n) ∧ ∀ g, v.ownBlock = some g → feet η w (.loc k) (.rows es' rows) g := by
   simp only [Xg, Den] at hdv
   simp only [HpSat] at hsk
   rcases hdv with ⟨h1, rfl, rfl⟩ | ⟨en, q, h1, rfl, h3, h4, h5⟩
   · exact ⟨.inl ⟨rfl, by simp⟩, fun g h => by cases h⟩
   · rcases hsk with ⟨h6, _⟩ | ⟨en', arr, T, fz, h6, h7, h8, h9⟩
     · rw [h1] at h6; cases h6
     rw [h1] at h6; injection h6 with h6; injection h6 with h6; subst h6
     obtain ⟨g1, g2, g3, g4⟩ := h8 trivial
     have hq := h5 (.inr trivial)
     rw [g4] at hq h9
     simp only [Nat.zero_mul, Nat.add_zero] at hq
     subst hq
     have hl : (rows.take n).length = n := by rw [List.length_take]; omega
     refine ⟨.inr ⟨en.g, en.cap, arr, T, fz, by rw [hl]; simp, h7, g1, g2, by rw [hl]; omega, fun j q hj => ?_⟩, fun g h => ?_⟩
     · rw [List.getElem?_take] at hj
       split at hj
       · exact h9 j q hj
       · cases hj
     · simp only [Value.ownBlock, Option.some.injEq] at h
       subst h
       exact feet.own h1
 obtain ⟨hks, hvf⟩ := hks
 have hnokid : X6 rs r c = none := by
   cases hq : X6 rs r c with
   | none => rfl
   | some x =>
     obtain ⟨a, b⟩ := x
     obtain ⟨row', q1, q2⟩ := kidAt_some.1 hq
     rw [hr] at q1; injection q1 with q1; subst q1
     rw [hc] at q2; cases q2
 have foot : ∀ a b y u g, X6 rs a b = some y → YG o es a b = some u → u.ownBlock = some g → feet η w (.loc i) (.deep mp es rs) g := fun a b y u g h1 h2 h3 => ⟨e, he, .inr (by simp only [kid]; exact ⟨o, a, b, y, u, ho, h1, h2, h3⟩)⟩
 have hvg : v.ownBlock ≠ some e.g := fun h => H.own.2 k i _ _ e.g hk hi hki (hvf _ h) (feet.own he)
 have hsi : HpSat η w true (.loc i) (.deep mp es (setC rs r c (.kid es' (rows.take n)))) := by
   refine HpSat.deep_of (WA (dc := .kid es' (rows.take n)) hsat List.prefix_rfl fun _ _ _ _ _ _ => trivial) h0 fun e' h1 => ?_
   rw [he] at h1; injection h1 with h1; injection h1 with h1; subst h1
   refine ⟨(hD e he).1, fun o' h2 => ?_⟩
   rw [ho] at h2; injection h2 with h2; subst h2
   refine ⟨fun a b es'' rows'' hkd => ?_, fun a b a' b' y y' u u' g h1 h2 h3 h4 h5 h6 => ?_⟩
   · rcases X9 hkd with h | ⟨rfl, rfl, h⟩
     · exact hK.sat a b _ _ h
     · injection h with q1 q2
       subst q1 q2
       exact ⟨v, hv, hks, hvg⟩
   · rcases X9 h1 with q | ⟨rfl, rfl, q⟩
     · rcases X9 h2 with q' | ⟨rfl, rfl, q'⟩
       · exact hK.ne a b a' b' y y' u u' g q q' h3 h4 h5 h6
       · rw [hv] at h4; injection h4 with h4; subst h4
         exact (H.own.2 k i _ _ g hk hi hki (hvf _ h6) (foot a b y u g q h3 h5)).elim
     · rcases X9 h2 with q' | ⟨rfl, rfl, q'⟩
       · rw [hv] at h3; injection h3 with h3; subst h3
         exact (H.own.2 k i _ _ g hk hi hki (hvf _ h5) (foot a' b' y' u' g q' h4 h6)).elim
       · exact ⟨rfl, rfl⟩
 have backi : ∀ m, feet η w (.loc i) (.deep mp es (setC rs r c (.kid es' (rows.take n)))) m → feet η w (.loc i) (.deep mp es rs) m ∨ feet η w (.loc k) (.rows es' rows) m := by
   intro m f
   rcases f.of he with rfl | f
   · exact .inl (feet.own he)
   · simp only [kid] at f
     obtain ⟨o', a, b, y, u, f1, f2, f3, f4⟩ := f
     rw [ho] at f1; injection f1 with f1; subst f1
     rcases X9 f2 with q | ⟨rfl, rfl, q⟩
     · exact .inl (foot a b y u m q f3 f4)
     · rw [hv] at f3; injection f3 with f3; subst f3
       exact .inr (hvf m f4)
 have aux : ∀ (j : Nat) (g : Hp), lkp j (delK k (setK i (.deep mp es (setC rs r c (.kid es' (rows.take n)))) O)) = some g → j ≠ k ∧ lkp j (setK i (.deep mp es (setC rs r c (.kid es' (rows.take n)))) O) = some g := fun j g h => by
   by_cases hj : j = k
   · subst hj; rw [Yx] at h; cases h
   · exact ⟨hj, by rwa [Ve k _ j hj] at h⟩
 refine { pre := H.pre, len := H.len, sok := H.sok, fr := H.fr, own := ⟨?_, ?_⟩ }
 · intro j g hj
   replace hj := (aux j g hj).2
   rw [Y4 i _ O j hsome] at hj
   split at hj
   · rename_i hq; subst hq; injection hj with hj; subst hj
     exact ⟨hsi, fun m f => (backi m f).elim (hF m) (hFk m)⟩
   · exact H.own.1 j g hj
 · intro j j' g g' m hj hj' hne f f'
   have hjk := (aux j g hj).1
   have hjk' := (aux j' g' hj').1
   replace hj := (aux j g hj).2
   replace hj' := (aux j' g' hj').2
   rw [Y4 i _ O _ hsome] at hj hj'
   split at hj
   · rename_i hq; subst hq; injection hj with hj; subst hj
     rw [if_neg (Ne.symm hne)] at hj'
     rcases backi m f with f | f
     · exact H.own.2 j j' _ g' m hi hj' hne f f'
     · exact H.own.2 k j' _ g' m hk hj' (Ne.symm hjk') f f'
   · split at hj'
     · rename_i hq; subst hq; injection hj' with hj'; subst hj'
       rcases backi m f' with f' | f'
       · exact H.own.2 j j' g _ m hj hi hne f f'
       · exact H.own.2 j k g _ m hj hk hjk f f'
     · exact H.own.2 j j' g g' m hj hj' hne f f'
theorem HeapOK.nilk (H : HeapOK M η w O nx) {i : Nat} {mp : Bool} {es : Nat} {rs : List (List DC)} (hi : lkp i O = some (.deep mp es rs)) {r c es' : Nat} {row : List DC} (hr : rs[r]? = some row) (hc : row[c]? = some (.v (.val (.slice none 0 0)))) :
   HeapOK M η w (setK i (.deep mp es (setC rs r c (.kid es' []))) O) nx := by
 obtain ⟨hsat, hF⟩ := H.own.1 i _ hi
 obtain ⟨e, o, v, he, ho, hv, hdv, hK⟩ := VH hsat hr hc
 obtain ⟨_, hD, h0⟩ := hsat.deep_ent
 have hv0 : v = .slice none 0 0 := hdv.1
 subst hv0
 have back : ∀ {a b y u g}, X6 (setC rs r c (.kid es' [])) a b = some y → YG o es a b = some u → u.ownBlock = some g → X6 rs a b = some y := by
   intro a b y u g h1 h2 h3
   rcases X9 h1 with q | ⟨rfl, rfl, q⟩
   · exact q
   · rw [hv] at h2; injection h2 with h2; subst h2; cases h3
 refine H.updF hi he (fun _ _ => rfl) rfl rfl rfl rfl ?_ (Nat.le_refl _) fun m f => ?_
 · refine HpSat.deep_of (WA (dc := .kid es' []) hsat List.prefix_rfl fun _ _ _ _ _ _ => trivial) h0 fun e' h1 => ?_
   rw [he] at h1; injection h1 with h1; injection h1 with h1; subst h1
   refine ⟨(hD e he).1, fun o' h2 => ?_⟩
   rw [ho] at h2; injection h2 with h2; subst h2
   refine ⟨fun a b es'' rows'' hkd => ?_, fun a b a' b' y y' u u' g h1 h2 h3 h4 h5 h6 => hK.ne a b a' b' y y' u u' g (back h1 h3 h5) (back h2 h4 h6) h3 h4 h5 h6⟩
   rcases X9 hkd with h | ⟨rfl, rfl, h⟩
   · exact hK.sat a b _ _ h
   · injection h with q1 q2
     subst q1 q2
     exact ⟨_, hv, .inl ⟨rfl, rfl⟩, by simp [Value.ownBlock]⟩
 · rcases f.of he with rfl | f
   · exact feet.own he
   · simp only [kid] at f
     obtain ⟨o', a, b, y, u, f1, f2, f3, f4⟩ := f
     rw [ho] at f1; injection f1 with f1; subst f1
     exact ⟨e, he, .inr (by simp only [kid]; exact ⟨o, a, b, y, u, ho, back f2 f3 f4, f3, f4⟩)⟩
theorem Z4v {T : Tab} {et : TypeId} {i : Nat} {h : DC → Hp} {sv : SV} {v' : SV} {O' : Hps} {nx' : Nat} (hr : (Z0W T et O i h sv).ok O nx v' O' nx') {mp : Bool} {es : Nat} {rsv : List (List DC)} {r c : Nat} {row : List DC}
   (hh : ∀ d, h d = .deep mp es (setC rsv r c d)) (hv : h (.v sv) = .deep mp es rsv) (hrow : rsv[r]? = some row) (hcell : row[c]? = some (.v sv)) (hi : (lkp i O).isSome)
   (H : HeapOK M η w (setK i (h (.v sv)) O) nx) : HeapOK M η w O' nx ∧ v' = .tup [] ∧ nx' = nx := by
 have plainCase : (Res.upd i (h (.v sv)) (.tup [])).ok O nx v' O' nx' → HeapOK M η w O' nx ∧ v' = .tup [] ∧ nx' = nx := by
   rintro ⟨rfl, rfl, rfl⟩
   exact ⟨H, rfl, rfl⟩
 have hlk : lkp i (setK i (h (.v sv)) O) = some (.deep mp es rsv) := by rw [Y4 i _ O i hi, if_pos rfl, hv]
 have set2 : ∀ (a b : Hp) (O : Hps), setK i a (setK i b O) = setK i a O := by
   intro a b O
   induction O with
   | nil => rfl
   | cons p O ih =>
     obtain ⟨d, u⟩ := p
     unfold setK
     cases hb : Nat.beq i d
     · simp only [setK, hb, ih]
     · simp only [setK, hb]
 unfold Z0W at hr
 split at hr
 · rename_i k r' es' n lim
   split at hr
   · split at hr
     · rename_i es'' rows hk
       split at hr
       case h_2 => exact hr.elim
       rename_i h1
       have h1 := Zy h1
       subst h1
       split at hr
       case h_2 => exact hr.elim
       rename_i h2
       have hki := XQ h2
       obtain ⟨hn, rfl, rfl, rfl⟩ := hr
       have hk' : lkp k (setK i (h (.v (.sl (.loc k) 0 es' n none))) O) = some (.rows es' rows) := by rw [Y4 i _ O k hi, if_neg hki]; exact hk
       have := H.putk hlk hrow hcell hk' hn hki
       rw [set2, ← hh] at this
       exact ⟨this, rfl, rfl⟩
     · exact plainCase hr
   · exact plainCase hr
 · split at hr
   · rename_i e hs
     obtain ⟨rfl, rfl, rfl⟩ := hr
     have := H.nilk (es' := T.size e) hlk hrow hcell
     rw [set2, ← hh] at this
     exact ⟨this, rfl, rfl⟩
   · exact plainCase hr
 · exact plainCase hr
end
end Go.Sx
namespace Go.Sx
open Go
section
variable {M : Mx} {η : Env} {w : World} {O : Hps} {nx : Nat} {ρ : Operand → Value} {lk : Operand → Option SV} {v : SV} {O' : Hps} {nx' : Nat} {dst : Option Tmp} {ty : TypeId} {pos : String} {af : Array Edge} {gd : Option (Nat × Bool)}
theorem Zbi (H : HeapOK M η w O nx) : HeapOK M (η ++ [some ⟨w.heap.size, 0, 0⟩]) (YH w (.map #[] 0)) ((nx, .mp []) :: O) (nx + 1) := by
 refine H.alloc (w' := YH w (.map #[] 0)) rfl rfl rfl rfl 0 0 ?_
 simp only [HpSat]
 exact ⟨_, #[], ZV H.len _, rfl, Yv (w := w) (w' := YH w (.map #[] 0)) rfl, rfl, fun i row h => by simp at h⟩
theorem Z8s (A : At M η w O nx ρ lk) (t : TypeId) (r : Option Operand) (hr : (opR M.C lk O nx (.makeMap t r)).ok O nx v O' nx') : Y5 M η w ⟨dst, .makeMap t r, ty, pos, af, gd⟩ ρ v O' nx' := by
 have fin : (Res.new (.mp (.loc nx)) (.mp [])).ok O nx v O' nx' → (Instr.makeMap t (r.map ρ)).run M.P w = .ok (.map (some w.heap.size)) (YH w (.map #[] 0)) → Y5 M η w ⟨dst, .makeMap t r, ty, pos, af, gd⟩ ρ v O' nx' := by
   rintro ⟨rfl, rfl, rfl⟩ hrun
   exact ⟨_, _, _, .inl (by simp [execOp, hrun]; rfl), List.prefix_append _ _, Zbi A.H, by simp only [Den]; exact ⟨_, ZV A.H.len _, rfl⟩, fun _ h => absurd h (by simp)⟩
 simp only [opR, Z6v] at hr
 cases r with
 | none => exact fin hr (by simp [Instr.makeMap, newObj]; rfl)
 | some x =>
   simp only at hr
   split at hr
   case h_2 => exact hr.elim
   rename_i kt et hs
   split at hr
   case h_2 => exact hr.elim
   rename_i k n hx
   obtain ⟨d, hd, hm⟩ := A.T.und t (by rw [hs]; simp)
   rw [hs] at hm; simp only [ShM] at hm; subst hm
   have hxv : ρ x = .int k n := A.L _ _ hx
   exact fin hr (by simp [Instr.makeMap, newObj, Ze hd, hxv, asInt]; rfl)
theorem W7 (A : At M η w O nx ρ lk) {t : TypeId} {f : SV → Res} (hr : (Z4h M.C.T t f).ok O nx v O' nx') : ∃ z zv, (zeroValue t).run M.P w = .ok zv w ∧ Den η z zv ∧ (f z).ok O nx v O' nx' := by
 unfold Z4h at hr
 split at hr
 · exact hr.elim
 rename_i c cs hz
 split at hr
 case h_2 => exact hr.elim
 rename_i z ho
 have hsh : M.C.T.sh t ≠ .other := by intro h; simp [YD, h] at ho
 obtain ⟨i, zv, h1, h2, h3⟩ := UK A.T hsh (by rw [hz]; simp) (by rw [hz]; exact ho) η
 exact ⟨z, zv, Xi h1 h2 w, h3, hr⟩
theorem V8 {z : SV} {zv : Value} {ok b : Bool} (h : Den η z zv) : Den η (WV ok z b) (if ok = true then .tuple #[zv, .bool b] else zv) := by
 cases ok with
 | false => exact h
 | true => simp only [WV, Den, DenL]; exact ⟨[zv, .bool b], rfl, zv, _, rfl, h, _, [], rfl, rfl, rfl⟩
theorem U5 {rs : List (List DC)} {j : Nat} {k v d : DC} (h : rs[j]? = some [k, v]) : rs.modify j (putD d) = setC rs j 1 d := by
 unfold setC
 apply List.ext_getElem?
 intro i
 rw [List.getElem?_modify, List.getElem?_modify]
 by_cases hi : j = i
 · subst hi; rw [h]; rfl
 · simp [hi]
theorem Z3r (A : At M η w O nx ρ lk) {kt et : TypeId} {ks : Bool × List CK} {key : SV} {ok : Bool} {b : Blk} {u : Value} {e : Ent} (hks : M.C.T.key kt = some ks) (hdk : Den η key u) (he : η.get b = some (some e))
   (hr : (Z5E M.C O nx ks et key ok b).ok O nx v O' nx') : ∃ es r η', w.heap[e.g]? = some (.map es es.size) ∧ (Instr.checkKey es.isEmpty 10000 kt u).run M.P w = .ok () w ∧
     (do let (v, ok') ← match ← Instr.findKey kt u es.toList with
           | some (_, v) => pure (v, true)
           | none => pure (← zeroValue et, false)
         pure (if ok = true then .tuple #[v, .bool ok'] else v) : Sem Value).run M.P w = .ok r w ∧ η <+: η' ∧ HeapOK M η' w O' nx' ∧ Den η' v r := by
 unfold Z5E at hr
 split at hr
 case h_2 => exact hr.elim
 rename_i i
 split at hr
 case h_2 => exact hr.elim
 rename_i es rs hb
 obtain ⟨⟨hko, hro⟩, hr⟩ := hr
 have hsat := (A.H.own.1 i _ hb).1
 have hsat' := hsat
 simp only [HpSat] at hsat'
 obtain ⟨⟨⟨e', ens, h1, h2, h3, h4, h5⟩, _⟩, _⟩ := hsat'
 rw [he] at h1; injection h1 with h1; injection h1 with h1; subst h1
 obtain ⟨f, hf, hhit, hval⟩ := JI A.T hks hko hdk (w := w) hro (UL (es := ens.toList) (i := 0) (by simpa using h4) fun j row hj => by
   obtain ⟨en, g1, g2, g3⟩ := h5 j row hj
   exact ⟨en, by simpa using g1, by omega, g3⟩)
 have hck := (A.T.key kt ks hks).1 w η ens.isEmpty key u hko hdk
 rw [U4] at hhit
 cases hm : findD ks key 0 rs with
 | none =>
   rw [hm] at hr hhit
   obtain ⟨z, zv, hz, hdz, hr⟩ := W7 A hr
   have hhit : f = none := hhit
   subst hhit
   obtain ⟨rfl, rfl, rfl⟩ := hr
   exact ⟨ens, _, η, h3, hck, by simp [hf, hz], List.prefix_rfl, A.H, V8 hdz⟩
 | some p =>
   obtain ⟨j, d⟩ := p
   rw [hm] at hr hhit
   simp only [Option.map_some] at hhit
   obtain ⟨xv, rfl, hdx⟩ := hhit
   obtain ⟨en, hen, hxv⟩ := hval j xv rfl
   obtain ⟨k0, _, hrow, _⟩ := Z0D hm
   rw [Nat.sub_zero] at hrow
   simp only [Zc0] at hr
   cases d with
   | v s =>
     obtain ⟨rfl, rfl, rfl⟩ := hr
     exact ⟨ens, _, η, h3, hck, by simp [hf], List.prefix_rfl, A.H, V8 hdx⟩
   | kid es' rows =>
     obtain ⟨rfl, rfl, rfl⟩ := hr
     obtain ⟨x, hH⟩ := A.H.take hb hrow (c := 1) rfl
     rw [U5 hrow]
     have hsome : (lkp i O).isSome := by rw [hb]; rfl
     have hinx : i ≠ nx := fun h => by have := A.H.lt hb; omega
     have hs2 := (hH.own.1 i (.deep true es (setC rs j 1 (.v (.sl (.loc nx) 0 es' rows.length none)))) (by rw [Zk, if_neg hinx, Y4 i _ O i hsome, if_pos rfl])).1
     obtain ⟨e2, o2, v2, q1, q2, q3, q4, _⟩ := VH hs2 (r := j) (c := 1) (row := [k0, .v (.sl (.loc nx) 0 es' rows.length none)]) (by rw [Xj, if_pos rfl, hrow]; rfl) rfl
     have hget : (η ++ [x]).get (.loc i) = some (some e) := Env.get_mono (List.prefix_append _ _) he
     rw [hget] at q1; injection q1 with q1; injection q1 with q1; subst q1
     rw [h3] at q2; injection q2 with q2; subst q2
     have hen' : ens[j]? = some en := by simpa using hen
     simp only [YG, hen', Option.map_some, Option.some.injEq] at q3
     subst q3 hxv
     exact ⟨ens, _, _, h3, hck, by simp [hf], List.prefix_append _ _, hH, V8 q4⟩
theorem Z9Y (A : At M η w O nx ρ lk) (t : TypeId) (x i : Operand) (ok : Bool) (hr : (opR M.C lk O nx (.lookup t x i ok)).ok O nx v O' nx') : Y5 M η w ⟨dst, .lookup t x i ok, ty, pos, af, gd⟩ ρ v O' nx' := by
 simp only [opR, Z8f] at hr
 split at hr
 case h_2 => exact hr.elim
 rename_i kt et hs
 obtain ⟨d, hd, hm⟩ := A.T.und t (by rw [hs]; simp)
 rw [hs] at hm; simp only [ShM] at hm; subst hm
 split at hr
 case h_2 => exact hr.elim
 rename_i ks hks
 split at hr
 case h_2 => exact hr.elim
 rename_i key hi
 split at hr
 · rename_i b hx
   split at hr
   case h_2 =>
     have hxv := A.L _ _ hx
     simp only [Den] at hxv
     obtain ⟨e, he, hv⟩ := hxv
     obtain ⟨es, r, η', g1, g2, g3, g4, g5, g6⟩ := Z3r A hks (A.L _ _ hi) he hr
     have hrun : (Instr.lookup t (ρ x) (ρ i) ok).run M.P w = .ok r w := by
       rw [← g3]
       simp [Instr.lookup, Ze hd, hv, J1 g1, g2]
       rfl
     exact ⟨r, w, η', .inl (by simp [execOp, hrun]), g4, g5, g6, fun _ _ => rfl⟩
   rename_i rs hb
   obtain ⟨⟨hko, hro⟩, hr⟩ := hr
   have hxv := A.L _ _ hx
   simp only [Den] at hxv
   obtain ⟨e, he, hv⟩ := hxv
   have hsat := A.H.look hb
   simp only [HpSat] at hsat
   obtain ⟨e', es, h1, h2, h3, h4, h5⟩ := hsat
   rw [he] at h1; cases h1
   obtain ⟨f, hf, hhit⟩ := Vh A.T hks hko (A.L _ _ hi) (w := w) hro (UL (es := es.toList) (i := 0) (by simpa using h4) fun j row hj => by
     obtain ⟨en, g1, g2, g3⟩ := h5 j row hj
     exact ⟨en, by simpa using g1, by omega, g3⟩)
   have hck := (A.T.key kt ks hks).1 w η es.isEmpty key (ρ i) hko (A.L _ _ hi)
   cases hm : YP ks key 0 rs with
   | some p =>
     obtain ⟨j, u⟩ := p
     rw [hm] at hr hhit
     obtain ⟨xv, rfl, hdx⟩ := hhit
     exact A.val hr ⟨_, .inl (by simp [execOp, Instr.lookup, Ze hd, hv, J1 h3, hck, hf]), V8 hdx⟩
   | none =>
     rw [hm] at hr hhit
     obtain ⟨z, zv, hz, hdz, hr⟩ := W7 A hr
     have hhit : f = none := hhit
     subst hhit
     exact A.val hr ⟨_, .inl (by simp [execOp, Instr.lookup, Ze hd, hv, J1 h3, hck, hf, hz]), V8 hdz⟩
 · rename_i hx
   obtain ⟨hko, hr⟩ := hr
   have hv : ρ x = .map none := (A.L _ _ hx).1
   have hck := (A.T.key kt ks hks).1 w η true key (ρ i) hko (A.L _ _ hi)
   obtain ⟨f, hf, hhit⟩ := Vh A.T hks hko (A.L _ _ hi) (w := w) (rs := []) (es := []) (fun r h => by simp at h) trivial
   have hhit : f = none := hhit
   subst hhit
   obtain ⟨z, zv, hz, hdz, hr⟩ := W7 A hr
   exact A.val hr ⟨_, .inl (by simp [execOp, Instr.lookup, Ze hd, hv, hck, hf, hz]), V8 hdz⟩
 · exact hr.elim
end
theorem Z3s {ks : Bool × List CK} {key : SV} : ∀ {rs : List (List SV)} {i j : Nat} {v : SV}, YP ks key i rs = some (j, v) → ∃ k, i ≤ j ∧ rs[j - i]? = some [k, v] ∧ W1 ks key k = true
 | [], i, j, v, h => by simp [YP] at h
 | r :: rs, i, j, v, h => by
   unfold YP at h
   split at h
   · rename_i k u
     split at h
     · rename_i hk
       simp only [Option.some.injEq, Prod.mk.injEq] at h
       obtain ⟨rfl, rfl⟩ := h
       exact ⟨k, Nat.le_refl _, by simp, hk⟩
     · obtain ⟨k', h1, h2, h3⟩ := Z3s h
       refine ⟨k', by omega, ?_, h3⟩
       have : j - i = (j - (i + 1)) + 1 := by omega
       rw [this]; simpa using h2
   · cases h
section
variable {M : Mx} {η : Env} {w : World} {O : Hps} {nx : Nat} {ρ : Operand → Value} {lk : Operand → Option SV} {v : SV} {O' : Hps} {nx' : Nat} {dst : Option Tmp} {ty : TypeId} {pos : String} {af : Array Edge} {gd : Option (Nat × Bool)}
def YI (w : World) (g : Nat) (es : Array MapEntry) : World := { w with heap := w.heap.setIfInBounds g (.map es es.size) }
def VD (η : Env) (rs : List (List SV)) (es : Array MapEntry) : Prop := es.size = rs.length ∧ ∀ j row, rs[j]? = some row → ∃ e : MapEntry, es[j]? = some e ∧ e.born = j ∧ DenL η row [e.key, e.val]
theorem map_set (H : HeapOK M η w O nx) {i : Nat} {rs rs' : List (List SV)} {en : Ent} {es es' : Array MapEntry} (hh : lkp i O = some (.mp rs)) (hb : η[i]? = some (some en)) (h0 : en.base = 0) (h3 : w.heap[en.g]? = some (.map es es.size)) (hm : VD η rs' es') :
   (setObj en.g (.map es' es'.size)).run M.P w = .ok () (YI w en.g es') ∧ HeapOK M η (YI w en.g es') (setK i (.mp rs') O) nx := by
 have hlt : en.g < w.heap.size := (Array.getElem?_eq_some_iff.1 h3).1
 refine ⟨by simp [setObj, Sem.run, h3, YI], ?_⟩
 refine H.upd hh hb (fun k hk => ?_) (by simp [YI]) rfl rfl rfl ?_
 · simp [YI, Array.getElem?_setIfInBounds, Ne.symm hk]
 · simp only [HpSat, Env.get]
   exact ⟨en, es', hb, h0, by simp [YI, hlt], hm.1, hm.2⟩
theorem Z1j {rs : List (List SV)} {es : Array MapEntry} (hm : VD η rs es) {j : Nat} {k v0 v : SV} {u x : Value} (hj : rs[j]? = some [k, v0]) (hk : Den η k u) (hv : Den η v x) : VD η (rs.modify j (putV v)) (es.modify j fun e => { e with key := u, val := x }) := by
 refine ⟨by rw [Array.size_modify, List.length_modify]; exact hm.1, fun a row ha => ?_⟩
 rw [List.getElem?_modify] at ha
 cases hr : rs[a]? with
 | none => rw [hr] at ha; cases ha
 | some r0 =>
   rw [hr] at ha
   obtain ⟨e, e1, e2, e3⟩ := hm.2 a r0 hr
   rw [Array.getElem?_modify, e1]
   by_cases hja : j = a
   · subst hja
     rw [hj] at hr; cases hr
     simp only [if_true, Option.map_eq_map, Option.map_some, Option.some.injEq, putV] at ha
     subst ha
     refine ⟨{ e with key := u, val := x }, by simp, e2, ?_⟩
     simp only [DenL]
     exact ⟨_, _, rfl, hk, _, _, rfl, hv, rfl⟩
   · simp only [if_neg hja, Option.map_eq_map, Option.map_some, Option.some.injEq, id] at ha
     subst ha
     exact ⟨e, by simp [hja], e2, e3⟩
theorem WB {rs : List (List SV)} {es : Array MapEntry} (hm : VD η rs es) {k v : SV} {u x : Value} (hk : Den η k u) (hv : Den η v x) : VD η (rs ++ [[k, v]]) (es.push ⟨u, x, es.size⟩) := by
 refine ⟨by simp [hm.1], fun a row ha => ?_⟩
 rw [Array.getElem?_push]
 by_cases hl : a < rs.length
 · rw [List.getElem?_append_left hl] at ha
   obtain ⟨e, e1, e2, e3⟩ := hm.2 a row ha
   exact ⟨e, by rw [if_neg (by rw [hm.1]; omega)]; exact e1, e2, e3⟩
 · rw [List.getElem?_append_right (by omega)] at ha
   have : a - rs.length = 0 := by
     cases hq : a - rs.length with
     | zero => rfl
     | succ n => rw [hq] at ha; simp at ha
   rw [this] at ha
   simp only [List.getElem?_cons_zero, Option.some.injEq] at ha
   subst ha
   have : a = es.size := by rw [hm.1]; omega
   subst this
   refine ⟨⟨u, x, es.size⟩, by simp, rfl, ?_⟩
   simp only [DenL]
   exact ⟨_, _, rfl, hk, _, _, rfl, hv, rfl⟩
theorem Z0E {u : Value} (h : Instr.sameBits 10000 u u = true) (w : World) : (Instr.keyThatStays u u).run M.P w = .ok u w := by simp [Instr.keyThatStays, h]
theorem setC_setC {rs : List (List DC)} {r c : Nat} {d d' : DC} : setC (setC rs r c d) r c d' = setC rs r c d' := by
 apply List.ext_getElem?
 intro a
 rw [Xj, Xj, Xj]
 by_cases ha : a = r
 · subst ha
   cases rs[a]? <;> simp
 · simp [ha]
theorem Z8t {rs : List (List DC)} {k d d' : DC} : rs ++ [[k, d']] = setC (rs ++ [[k, d]]) rs.length 1 d' := by
 apply List.ext_getElem?
 intro a
 rw [Xj]
 by_cases ha : a = rs.length
 · subst ha; simp
 · rw [if_neg ha]
   by_cases hlt' : a < rs.length
   · rw [List.getElem?_append_left hlt', List.getElem?_append_left hlt']
   · rw [List.getElem?_eq_none (by simp; omega), List.getElem?_eq_none (by simp; omega)]
theorem Z3t (H : HeapOK M η w O nx) {i es : Nat} {rs rsv : List (List DC)} {e : Ent} {ens ens' : Array MapEntry} (hb : lkp i O = some (.deep true es rs)) (he : η[i]? = some (some e)) (h3 : w.heap[e.g]? = some (.map ens ens.size)) (hm' : VD η (Yd rsv) ens')
   (hkid : ∀ a b y, X6 rsv a b = some y → X6 rs a b = some y ∧ YG (.map ens' ens'.size) es a b = YG (.map ens ens.size) es a b) : HeapOK M η (YI w e.g ens') (setK i (.deep true es rsv) O) nx := by
 have hsat := (H.own.1 i _ hb).1
 obtain ⟨_, hD, hes⟩ := hsat.deep_ent
 have h2 := (hD e he).1
 have hK := (hD e he).2 _ h3
 have hlt : e.g < w.heap.size := (Array.getElem?_eq_some_iff.1 h3).1
 have hother : ∀ k, k ≠ e.g → (YI w e.g ens').heap[k]? = w.heap[k]? := fun k hk => by simp [YI, Array.getElem?_setIfInBounds, Ne.symm hk]
 have hself : (YI w e.g ens').heap[e.g]? = some (.map ens' ens'.size) := by simp [YI, hlt]
 refine H.updF hb he hother (by simp [YI]) rfl rfl rfl ?_ (Nat.le_refl _) fun m fm => ?_
 · refine HpSat.deep_of (⟨e, ens', show η.get (.loc i) = some (some e) from he, h2, hself, hm'.1, hm'.2⟩ : MpSat η (YI w e.g ens') (.loc i) (Yd rsv)) hes fun e' h1 => ?_
   rw [show η.get (.loc i) = some (some e) from he] at h1; injection h1 with h1; injection h1 with h1; subst h1
   refine ⟨h2, fun o' ho => ?_⟩
   rw [hself] at ho; injection ho with ho; subst ho
   refine ⟨fun a b es'' rows'' hk => ?_, fun a b a' b' y y' z z' k h1 h2 h3 h4 h5 h6 => ?_⟩
   · obtain ⟨q1, q2⟩ := hkid a b _ hk
     obtain ⟨z, q3, q4, q5⟩ := hK.sat a b _ _ q1
     refine ⟨z, q2.trans q3, q4.keep fun k hz => hother k fun e => ?_, q5⟩
     subst e; exact q5 hz
   · obtain ⟨q1, q2⟩ := hkid a b _ h1
     obtain ⟨q1', q2'⟩ := hkid a' b' _ h2
     exact hK.ne a b a' b' y y' z z' k q1 q1' (q2 ▸ h3) (q2' ▸ h4) h5 h6
 · rcases fm.of (e := e) (show η.get (.loc i) = some (some e) from he) with rfl | fm
   · exact feet.own he
   · simp only [kid] at fm
     obtain ⟨o', a, b, y, z, f1, f2, f3, f4⟩ := fm
     rw [hself] at f1; injection f1 with f1; subst f1
     obtain ⟨q1, q2⟩ := hkid a b _ f2
     exact ⟨e, he, .inr (by simp only [kid]; exact ⟨_, a, b, y, z, h3, q1, q2 ▸ f3, f4⟩)⟩
theorem Z8u {rs : List (List DC)} {es j : Nat} {k0 d0 : DC} {sv : SV} {ens : Array MapEntry} {en : MapEntry} {x : Value} (hm : VD η (Yd rs) ens) (k2 : rs[j]? = some [k0, d0]) (n1 : ens[j]? = some en) (hdk0 : Den η (Xg k0) en.key) (hdx : Den η sv x) :
   VD η (Yd (setC rs j 1 (.v sv))) (ens.modify j fun e => { e with key := en.key, val := x }) ∧
   ∀ a b y, X6 (setC rs j 1 (.v sv)) a b = some y → X6 rs a b = some y ∧ YG (.map (ens.modify j fun e => { e with key := en.key, val := x }) (ens.modify j fun e => { e with key := en.key, val := x }).size) es a b = YG (.map ens ens.size) es a b := by
 have hfr : (Yd rs)[j]? = some [Xg k0, Xg d0] := by rw [Jh, k2]; rfl
 refine ⟨?_, fun a b y hk => ?_⟩
 · have : Yd (setC rs j 1 (.v sv)) = (Yd rs).modify j (putV sv) := by
     apply List.ext_getElem?
     intro a
     rw [Wz, List.getElem?_modify]
     by_cases ha : a = j
     · subst ha; rw [if_pos rfl, hfr]; simp [putV, Xg]
     · have hja : ¬ j = a := fun h => ha h.symm
       rw [if_neg ha]; simp [hja]
   rw [this]
   exact Z1j hm hfr hdk0 hdx
 · obtain ⟨q1, q2⟩ := V7 hk
   refine ⟨q1, ?_⟩
   simp only [YG]
   rw [Array.getElem?_modify]
   by_cases ha : j = a
   · subst ha
     rw [if_pos rfl, n1]
     obtain ⟨y1, y2⟩ := y
     obtain ⟨row, r1, r2⟩ := kidAt_some.1 q1
     rw [k2] at r1; injection r1 with r1; subst r1
     match b, r2, q2 with
     | 0, _, _ => rfl
     | 1, _, q2 => exact (q2 ⟨rfl, rfl⟩).elim
     | b + 2, r2, _ => simp at r2
   · rw [if_neg ha]
theorem Z8v {rs : List (List DC)} {es : Nat} {key sv : SV} {ens : Array MapEntry} {u x : Value} (hm : VD η (Yd rs) ens) (hdk : Den η key u) (hdx : Den η sv x) :
   VD η (Yd (rs ++ [[.v key, .v sv]])) (ens.push ⟨u, x, ens.size⟩) ∧
   ∀ a b y, X6 (rs ++ [[.v key, .v sv]]) a b = some y → X6 rs a b = some y ∧ YG (.map (ens.push ⟨u, x, ens.size⟩) (ens.push ⟨u, x, ens.size⟩).size) es a b = YG (.map ens ens.size) es a b := by
 refine ⟨?_, fun a b y hk => ?_⟩
 · have : Yd (rs ++ [[.v key, .v sv]]) = Yd rs ++ [[key, sv]] := by simp [Yd, Xg]
   rw [this]
   exact WB hm hdk hdx
 · obtain ⟨y1, y2⟩ := y
   obtain ⟨row, k1, k2⟩ := kidAt_some.1 hk
   by_cases hlt' : a < rs.length
   · rw [List.getElem?_append_left hlt'] at k1
     refine ⟨kidAt_some.2 ⟨row, k1, k2⟩, ?_⟩
     simp only [YG]
     rw [Array.getElem?_push, if_neg (by have := hm.1; rw [Xk] at this; omega)]
   · rw [List.getElem?_append_right (by omega)] at k1
     cases hz : a - rs.length with
     | succ n => rw [hz] at k1; simp at k1
     | zero =>
       rw [hz] at k1
       simp at k1
       subst k1
       match b, k2 with
       | 0, k2 => cases k2
       | 1, k2 => cases k2
       | b + 2, k2 => simp at k2
theorem Z0n (A : At M η w O nx ρ lk) {kt et : TypeId} {ks : Bool × List CK} {key sv : SV} {i es : Nat} {rs : List (List DC)} {u x : Value} {e : Ent} (hks : M.C.T.key kt = some ks) (hdk : Den η key u) (hdx : Den η sv x) (he : η[i]? = some (some e))
   (hb : lkp i O = some (.deep true es rs)) (hr : (Res.need (J8 ks key = true ∧ Vy ks (Yd rs)) (Z0W M.C.T et O i (fun d => .deep true es (setD ks key d rs)) sv)).ok O nx v O' nx') :
   ∃ ens w', w.heap[e.g]? = some (.map ens ens.size) ∧ (Instr.checkKey false 10000 kt u).run M.P w = .ok () w ∧
     (do match ← Instr.findKey kt u ens.toList with
           | some (k, _) => do
             let k' ← Instr.keyThatStays (((ens[k]?).map (·.key)).getD u) u
             setObj e.g (.map (ens.modify k fun e' => { e' with key := k', val := x }) ens.size)
           | none => setObj e.g (.map (ens.push { key := u, val := x, born := ens.size }) (ens.size + 1)) : Sem Unit).run M.P w = .ok () w' ∧ HeapOK M η w' O' nx' ∧ v = .tup [] := by
 obtain ⟨⟨hko, hro⟩, hr⟩ := hr
 have hsat := (A.H.own.1 i _ hb).1
 obtain ⟨_, hD, hes⟩ := hsat.deep_ent
 have hsat' := hsat
 simp only [HpSat, Env.get] at hsat'
 obtain ⟨⟨⟨e', ens, h1, h2, h3, h4, h5⟩, _⟩, _⟩ := hsat'
 rw [show η.get (.loc i) = some (some e) from he] at h1; injection h1 with h1; injection h1 with h1; subst h1
 have hm : VD η (Yd rs) ens := ⟨h4, h5⟩
 have hK := (hD e he).2 _ h3
 have hlt : e.g < w.heap.size := (Array.getElem?_eq_some_iff.1 h3).1
 have hsome : (lkp i O).isSome := by rw [hb]; rfl
 obtain ⟨f, hf, hhit, hval⟩ := JI A.T hks hko hdk (w := w) hro (UL (es := ens.toList) (i := 0) (by simpa using hm.1) fun j row hj => by
   obtain ⟨en, g1, g2, g3⟩ := hm.2 j row hj
   exact ⟨en, by simpa using g1, by omega, g3⟩)
 have hck := (A.T.key kt ks hks).1 w η false key u hko hdk
 rw [U4] at hhit
 have fin : ∀ {ens' : Array MapEntry} {r : Nat} {k0 : DC}, (setD ks key (.v sv) rs)[r]? = some [k0, .v sv] → (∀ d, setD ks key d rs = setC (setD ks key (.v sv) rs) r 1 d) → VD η (Yd (setD ks key (.v sv) rs)) ens' →
     (∀ a b y, X6 (setD ks key (.v sv) rs) a b = some y → X6 rs a b = some y ∧ YG (.map ens' ens'.size) es a b = YG (.map ens ens.size) es a b) →
     (setObj e.g (.map ens' ens'.size)).run M.P w = .ok () (YI w e.g ens') ∧ HeapOK M η (YI w e.g ens') O' nx' ∧ v = .tup [] := by
   intro ens' r k0 hrow hset hm' hkid
   obtain ⟨H2, rfl, rfl⟩ := Z4v hr (mp := true) (es := es) (rsv := setD ks key (.v sv) rs) (r := r) (c := 1) (fun d => by rw [hset d]) rfl hrow rfl hsome (Z3t A.H hb he h3 hm' hkid)
   exact ⟨by simp [setObj, Sem.run, h3, YI], H2, rfl⟩
 cases hq : findD ks key 0 rs with
 | none =>
   rw [hq] at hhit
   have hhit : f = none := hhit
   subst hhit
   have hs : ∀ d, setD ks key d rs = rs ++ [[.v key, d]] := fun d => by unfold setD; rw [hq]
   have hp := Z8v (es := es) hm hdk hdx
   rw [← hs] at hp
   obtain ⟨g1, g2, g3⟩ := fin (ens' := ens.push ⟨u, x, ens.size⟩) (r := rs.length) (k0 := .v key) (by rw [hs]; simp) (fun d => by
     rw [hs, hs]
     exact Z8t) hp.1 hp.2
   rw [Array.size_push] at g1
   exact ⟨ens, _, h3, hck, by simp [hf]; rw [g1], g2, g3⟩
 | some p =>
   obtain ⟨j, d0⟩ := p
   rw [hq] at hhit
   obtain ⟨xv, rfl, _⟩ := hhit
   obtain ⟨k0, _, k2, k3⟩ := Z0D hq
   rw [Nat.sub_zero] at k2
   have hfr : (Yd rs)[j]? = some [Xg k0, Xg d0] := by rw [Jh, k2]; rfl
   obtain ⟨en, n1, n2, n3⟩ := hm.2 j _ hfr
   simp only [DenL] at n3
   obtain ⟨_, _, e1, hdk0, _, _, e2, _, e3⟩ := n3
   cases e1; cases e2
   obtain ⟨heq, hsb⟩ := Z0C k3 hdk hdk0
   have hs : ∀ d, setD ks key d rs = setC rs j 1 d := fun d => by unfold setD; rw [hq]; exact U5 k2
   have hjl : j < rs.length := (List.getElem?_eq_some_iff.1 k2).1
   have hp := Z8u (es := es) hm k2 n1 hdk0 hdx
   rw [← hs] at hp
   obtain ⟨g1, g2, g3⟩ := fin (ens' := ens.modify j fun e => { e with key := en.key, val := x }) (r := j) (k0 := k0) (by rw [hs, Xj, if_pos rfl, k2]; rfl) (fun d => by
     rw [hs, hs]
     exact setC_setC.symm) hp.1 hp.2
   rw [Array.size_modify] at g1
   rw [← heq] at g1
   exact ⟨ens, _, h3, hck, by simp [hf, n1, ← heq, Z0E hsb]; rw [g1], heq ▸ g2, g3⟩
theorem Z1k (A : At M η w O nx ρ lk) (t : TypeId) (m k x : Operand) (hr : (opR M.C lk O nx (.mapUpdate t m k x)).ok O nx v O' nx') : Y5 M η w ⟨dst, .mapUpdate t m k x, ty, pos, af, gd⟩ ρ v O' nx' := by
 simp only [opR, Ww] at hr
 split at hr
 case h_2 => exact hr.elim
 rename_i kt et hs
 obtain ⟨d, hd, hm⟩ := A.T.und t (by rw [hs]; simp)
 rw [hs] at hm; simp only [ShM] at hm; subst hm
 split at hr
 case h_2 => exact hr.elim
 rename_i ks hks
 split at hr
 case h_2 => exact hr.elim
 rename_i key hi
 split at hr
 case h_2 => exact hr.elim
 rename_i sv hx
 split at hr
 case h_2 => exact hr.elim
 rename_i i hmv
 split at hr
 case h_3 => exact hr.elim
 case h_2 =>
   rename_i es rs hb
   have hxv := A.L _ _ hmv
   simp only [Den, Env.get] at hxv
   obtain ⟨e, he, hv⟩ := hxv
   obtain ⟨ens, w', g1, g2, g3, g4, rfl⟩ := Z0n A hks (A.L _ _ hi) (A.L _ _ hx) he hb hr
   have hrun : (Instr.mapUpdate t (ρ m) (ρ k) (ρ x)).run M.P w = .ok () w' := by
     rw [← g3]
     simp [Instr.mapUpdate, Ze hd, hv, J1 g1, g2]
     rfl
   exact ⟨undef, w', η, .inr ⟨by simp [execOp, hrun], rfl⟩, List.prefix_rfl, g4, Vg η, fun h => by cases h⟩
 rename_i rs hb
 obtain ⟨⟨hko, hro⟩, rfl, rfl, rfl⟩ := hr
 have hxv := A.L _ _ hmv
 simp only [Den, Env.get] at hxv
 obtain ⟨e, he, hv⟩ := hxv
 obtain ⟨hsat, _⟩ := A.H.own.1 i _ hb
 simp only [HpSat, Env.get] at hsat
 obtain ⟨e', es, h1, h2, h3, h4⟩ := hsat
 rw [he] at h1; cases h1
 have hm : VD η rs es := h4
 have hdk := A.L _ _ hi
 have hdx := A.L _ _ hx
 obtain ⟨f, hf, hhit⟩ := Vh A.T hks hko hdk (w := w) hro (UL (es := es.toList) (i := 0) (by simpa using hm.1) fun j row hj => by
   obtain ⟨en, g1, g2, g3⟩ := hm.2 j row hj
   exact ⟨en, by simpa using g1, by omega, g3⟩)
 have hck := (A.T.key kt ks hks).1 w η false key (ρ k) hko hdk
 unfold setM
 cases hq : YP ks key 0 rs with
 | none =>
   rw [hq] at hhit
   have hhit : f = none := hhit
   subst hhit
   obtain ⟨g1, g2⟩ := map_set A.H hb he h2 h3 (WB hm hdk hdx)
   rw [Array.size_push] at g1
   exact ⟨undef, _, η, .inr ⟨by simp [execOp, Instr.mapUpdate, Ze hd, hv, J1 h3, hck, hf]; rw [g1]; rfl, rfl⟩, List.prefix_rfl, g2, Vg η, fun h => by cases h⟩
 | some p =>
   obtain ⟨j, u⟩ := p
   rw [hq] at hhit
   obtain ⟨xv, rfl, _⟩ := hhit
   obtain ⟨k0, _, k2, k3⟩ := Z3s hq
   rw [Nat.sub_zero] at k2
   obtain ⟨en, n1, n2, n3⟩ := hm.2 j _ k2
   simp only [DenL] at n3
   obtain ⟨_, _, e1, hdk0, _, _, e2, _, e3⟩ := n3
   cases e1; cases e2
   obtain ⟨heq, hsb⟩ := Z0C k3 hdk hdk0
   obtain ⟨g1, g2⟩ := map_set A.H hb he h2 h3 (Z1j hm k2 (heq ▸ hdk0) hdx)
   rw [Array.size_modify] at g1
   exact ⟨undef, _, η, .inr ⟨by simp [execOp, Instr.mapUpdate, Ze hd, hv, J1 h3, hck, hf, n1, ← heq, Z0E hsb]; rw [g1]; rfl, rfl⟩, List.prefix_rfl, g2, Vg η, fun h => by cases h⟩
theorem Z9Z (A : At M η w O nx ρ lk) (t : TypeId) (m k x : Operand) (hr : (opR M.C lk O nx (.insert t m k x)).ok O nx v O' nx') : Y5 M η w ⟨dst, .insert t m k x, ty, pos, af, gd⟩ ρ v O' nx' := by
 obtain ⟨u, w', η', h1, h2, h3, h4, _⟩ := Z1k (dst := dst) (ty := ty) (pos := pos) (af := af) (gd := gd) A t m k x hr
 exact ⟨u, w', η', h1, h2, h3, h4, fun h => by cases h⟩
theorem Z1l {w : World} {g : Nat} {es : Array MapEntry} (h : w.heap[g]? = some (.map es es.size)) : YI w g es = w := by
 have hh : w.heap.setIfInBounds g (.map es es.size) = w.heap := by
   apply Array.ext_getElem?
   intro k
   rw [Array.getElem?_setIfInBounds]
   split
   · rename_i e; subst e; rw [h]; simp [(Array.getElem?_eq_some_iff.1 h).1]
   · rfl
 unfold YI
 rw [hh]
theorem Z1m (A : At M η w O nx ρ lk) {kt et : TypeId} {ks : Bool × List CK} {key : SV} {i es : Nat} {rs : List (List DC)} {u : Value} {e : Ent} (hks : M.C.T.key kt = some ks) (hdk : Den η key u) (he : η[i]? = some (some e))
   (hb : lkp i O = some (.deep true es rs)) (hr : (Res.need (J8 ks key = true ∧ Vy ks (Yd rs)) (.findD (findD ks key 0 rs) (fun j d => Z8g nx i es rs j d)
     (Z4h M.C.T et fun z => .upd i (.deep true es (rs ++ [[.v key, .v z]])) (.tup [z, .int .i64 (rs.length : Int)])))).ok O nx v O' nx') :
   ∃ ens w' r η', w.heap[e.g]? = some (.map ens ens.size) ∧ (Instr.checkKey false 10000 kt u).run M.P w = .ok () w ∧
     (do match ← Instr.findKey kt u ens.toList with
           | some (k, x) => do
             let k' ← Instr.keyThatStays (((ens[k]?).map (·.key)).getD u) u
             setObj e.g (.map (ens.modify k fun e' => { e' with key := k' }) ens.size)
             pure (.tuple #[x, goInt (((ens[k]?).map (·.born)).getD 0)])
           | none => do
             let z ← zeroValue et
             setObj e.g (.map (ens.push { key := u, val := z, born := ens.size }) (ens.size + 1))
             pure (.tuple #[z, goInt ens.size]) : Sem Value).run M.P w = .ok r w' ∧ η <+: η' ∧ HeapOK M η' w' O' nx' ∧ Den η' v r := by
 obtain ⟨⟨hko, hro⟩, hr⟩ := hr
 have hsat := (A.H.own.1 i _ hb).1
 have hsat' := hsat
 simp only [HpSat, Env.get] at hsat'
 obtain ⟨⟨⟨e', ens, h1, h2, h3, h4, h5⟩, _⟩, _⟩ := hsat'
 rw [show η.get (.loc i) = some (some e) from he] at h1; injection h1 with h1; injection h1 with h1; subst h1
 have hm : VD η (Yd rs) ens := ⟨h4, h5⟩
 obtain ⟨f, hf, hhit, hval⟩ := JI A.T hks hko hdk (w := w) hro (UL (es := ens.toList) (i := 0) (by simpa using hm.1) fun j row hj => by
   obtain ⟨en, g1, g2, g3⟩ := hm.2 j row hj
   exact ⟨en, by simpa using g1, by omega, g3⟩)
 have hck := (A.T.key kt ks hks).1 w η false key u hko hdk
 rw [U4] at hhit
 have hln : ens.size = rs.length := by rw [h4, Xk]
 cases hq : findD ks key 0 rs with
 | none =>
   rw [hq] at hhit hr
   have hhit : f = none := hhit
   subst hhit
   obtain ⟨z, zv, hz, hdz, hr⟩ := W7 A hr
   obtain ⟨rfl, rfl, rfl⟩ := hr
   have hp := Z8v (es := es) hm hdk hdz
   have g1 : (setObj e.g (.map (ens.push ⟨u, zv, ens.size⟩) (ens.size + 1))).run M.P w = .ok () (YI w e.g (ens.push ⟨u, zv, ens.size⟩)) := by
     simp [setObj, Sem.run, h3, YI]
   refine ⟨ens, _, .tuple #[zv, .int .i64 (rs.length : Int)], η, h3, hck, by simp [hf, hz, goInt]; rw [g1]; simp [hln], List.prefix_rfl, Z3t A.H hb he h3 hp.1 hp.2, ?_⟩
   simp only [Den, DenL]
   exact ⟨_, rfl, _, _, rfl, hdz, _, _, rfl, rfl, rfl⟩
 | some p =>
   obtain ⟨j, d⟩ := p
   rw [hq] at hhit hr
   obtain ⟨xv, rfl, hdx⟩ := hhit
   obtain ⟨en, hen, hxv⟩ := hval j xv rfl
   obtain ⟨k0, _, k2, k3⟩ := Z0D hq
   rw [Nat.sub_zero] at k2
   have hen' : ens[j]? = some en := by simpa using hen
   have hfr : (Yd rs)[j]? = some [Xg k0, Xg d] := by rw [Jh, k2]; rfl
   obtain ⟨en', n1, n2, n3⟩ := hm.2 j _ hfr
   rw [hen'] at n1; injection n1 with n1; subst n1
   simp only [DenL] at n3
   obtain ⟨_, _, e1, hdk0, _, _, e2, hdv, e3⟩ := n3
   cases e1; cases e2
   obtain ⟨heq, hsb⟩ := Z0C k3 hdk hdk0
   have hes : (ens.modify j fun e => { e with key := u }) = ens := by
     apply Array.ext_getElem?
     intro a
     rw [Array.getElem?_modify]
     split
     · rename_i hja; subst hja; rw [hen', heq]; rfl
     · rfl
   have g1 : (setObj e.g (.map ens ens.size)).run M.P w = .ok () w := by
     have : (setObj e.g (.map ens ens.size)).run M.P w = .ok () (YI w e.g ens) := by simp [setObj, Sem.run, h3, YI]
     rwa [Z1l h3] at this
   have hrun : (do match ← Instr.findKey kt u ens.toList with
           | some (k, x) => do
             let k' ← Instr.keyThatStays (((ens[k]?).map (·.key)).getD u) u
             setObj e.g (.map (ens.modify k fun e' => { e' with key := k' }) ens.size)
             pure (.tuple #[x, goInt (((ens[k]?).map (·.born)).getD 0)])
           | none => do
             let z ← zeroValue et
             setObj e.g (.map (ens.push { key := u, val := z, born := ens.size }) (ens.size + 1))
             pure (.tuple #[z, goInt ens.size]) : Sem Value).run M.P w = .ok (.tuple #[xv, .int .i64 (j : Int)]) w := by
     simp [hf, hen', ← heq, Z0E hsb, hes, g1, goInt, n2]
   simp only [Z8g] at hr
   cases d with
   | v s =>
     obtain ⟨rfl, rfl, rfl⟩ := hr
     refine ⟨ens, w, _, η, h3, hck, hrun, List.prefix_rfl, A.H, ?_⟩
     simp only [Den, DenL]
     exact ⟨_, rfl, _, _, rfl, hdx, _, _, rfl, rfl, rfl⟩
   | kid es' rows =>
     obtain ⟨rfl, rfl, rfl⟩ := hr
     obtain ⟨x, hH⟩ := A.H.take hb k2 (c := 1) rfl
     rw [U5 k2]
     have hsome : (lkp i O).isSome := by rw [hb]; rfl
     have hinx : i ≠ nx := fun h => by have := A.H.lt hb; omega
     have hs2 := (hH.own.1 i (.deep true es (setC rs j 1 (.v (.sl (.loc nx) 0 es' rows.length none)))) (by rw [Zk, if_neg hinx, Y4 i _ O i hsome, if_pos rfl])).1
     obtain ⟨e2, o2, v2, q1, q2, q3, q4, _⟩ := VH hs2 (r := j) (c := 1) (row := [k0, .v (.sl (.loc nx) 0 es' rows.length none)]) (by rw [Xj, if_pos rfl, k2]; rfl) rfl
     have hget : (η ++ [x]).get (.loc i) = some (some e) := Env.get_mono (List.prefix_append _ _) he
     rw [hget] at q1; injection q1 with q1; injection q1 with q1; subst q1
     rw [h3] at q2; injection q2 with q2; subst q2
     simp only [YG, hen', Option.map_some, Option.some.injEq] at q3
     subst q3 hxv
     refine ⟨ens, w, _, _, h3, hck, hrun, List.prefix_append _ _, hH, ?_⟩
     rw [Den]
     simp only [DenL]
     exact ⟨_, rfl, _, _, rfl, q4, _, _, rfl, rfl, rfl⟩
theorem Z7o (A : At M η w O nx ρ lk) (t : TypeId) (m k : Operand) (hr : (opR M.C lk O nx (.mapEntry t m k)).ok O nx v O' nx') : Y5 M η w ⟨dst, .mapEntry t m k, ty, pos, af, gd⟩ ρ v O' nx' := by
 simp only [opR, Z4i] at hr
 split at hr
 case h_2 => exact hr.elim
 rename_i kt et hs
 obtain ⟨d, hd, hm⟩ := A.T.und t (by rw [hs]; simp)
 rw [hs] at hm; simp only [ShM] at hm; subst hm
 split at hr
 case h_2 => exact hr.elim
 rename_i ks hks
 split at hr
 case h_2 => exact hr.elim
 rename_i key hi
 split at hr
 case h_2 => exact hr.elim
 rename_i i hmv
 split at hr
 case h_3 => exact hr.elim
 case h_2 =>
   rename_i es rs hb
   have hxv := A.L _ _ hmv
   simp only [Den, Env.get] at hxv
   obtain ⟨e, he, hv⟩ := hxv
   obtain ⟨ens, w', r, η', g1, g2, g3, g4, g5, g6⟩ := Z1m A hks (A.L _ _ hi) he hb hr
   have hrun : (Instr.mapEntry t (ρ m) (ρ k)).run M.P w = .ok r w' := by
     rw [← g3]
     simp [Instr.mapEntry, Ze hd, hv, J1 g1, g2]
     rfl
   exact ⟨r, w', η', .inl (by simp [execOp, hrun]), g4, g5, g6, fun h => by cases h⟩
 rename_i rs hb
 obtain ⟨⟨hko, hro⟩, hr⟩ := hr
 have hxv := A.L _ _ hmv
 simp only [Den, Env.get] at hxv
 obtain ⟨e, he, hv⟩ := hxv
 obtain ⟨hsat, _⟩ := A.H.own.1 i _ hb
 simp only [HpSat, Env.get] at hsat
 obtain ⟨e', es, h1, h2, h3, h4⟩ := hsat
 rw [he] at h1; cases h1
 have hm : VD η rs es := h4
 have hdk := A.L _ _ hi
 obtain ⟨f, hf, hhit⟩ := Vh A.T hks hko hdk (w := w) hro (UL (es := es.toList) (i := 0) (by simpa using hm.1) fun j row hj => by
   obtain ⟨en, g1, g2, g3⟩ := hm.2 j row hj
   exact ⟨en, by simpa using g1, by omega, g3⟩)
 have hck := (A.T.key kt ks hks).1 w η false key (ρ k) hko hdk
 cases hq : YP ks key 0 rs with
 | none =>
   rw [hq] at hhit hr
   have hhit : f = none := hhit
   subst hhit
   obtain ⟨z, zv, hz, hdz, hr⟩ := W7 A hr
   obtain ⟨rfl, rfl, rfl⟩ := hr
   obtain ⟨g1, g2⟩ := map_set A.H hb he h2 h3 (WB hm hdk hdz)
   rw [Array.size_push] at g1
   refine ⟨.tuple #[zv, .int .i64 (rs.length : Int)], _, η, .inl (by simp [execOp, Instr.mapEntry, Ze hd, hv, J1 h3, hck, hf, hz]; rw [g1]; simp [goInt, hm.1]), List.prefix_rfl, g2, ?_, fun h => by cases h⟩
   simp only [Den, DenL]
   exact ⟨_, rfl, _, _, rfl, hdz, _, _, rfl, rfl, rfl⟩
 | some p =>
   obtain ⟨j, u⟩ := p
   rw [hq] at hhit hr
   obtain ⟨xv, rfl, hdx⟩ := hhit
   obtain ⟨rfl, rfl, rfl⟩ := hr
   obtain ⟨k0, _, k2, k3⟩ := Z3s hq
   rw [Nat.sub_zero] at k2
   obtain ⟨en, n1, n2, n3⟩ := hm.2 j _ k2
   simp only [DenL] at n3
   obtain ⟨_, _, e1, hdk0, _, _, e2, _, e3⟩ := n3
   cases e1; cases e2
   obtain ⟨heq, hsb⟩ := Z0C k3 hdk hdk0
   have hes : (es.modify j fun e => { e with key := ρ k }) = es := by
     apply Array.ext_getElem?
     intro a
     rw [Array.getElem?_modify]
     split
     · rename_i hja; subst hja; rw [n1, heq]; rfl
     · rfl
   obtain ⟨g1, g2⟩ := map_set A.H hb he h2 h3 hm
   rw [Z1l h3] at g1
   refine ⟨.tuple #[xv, .int .i64 (j : Int)], w, η, .inl (by simp [execOp, Instr.mapEntry, Ze hd, hv, J1 h3, hck, hf, n1, ← heq, Z0E hsb, hes]; rw [g1]; simp [goInt, n2]), List.prefix_rfl, A.H, ?_, fun h => by cases h⟩
   simp only [Den, DenL]
   exact ⟨_, rfl, _, _, rfl, hdx, _, _, rfl, rfl, rfl⟩
end
section
variable {M : Mx} {η : Env} {w : World} {O : Hps} {nx : Nat} {ρ : Operand → Value} {lk : Operand → Option SV} {v : SV} {O' : Hps} {nx' : Nat} {dst : Option Tmp} {ty : TypeId} {pos : String} {af : Array Edge} {gd : Option (Nat × Bool)}
theorem Z8w {rs : List (List SV)} {es : Array MapEntry} (hm : VD η rs es) {n : Int} (h0 : 0 ≤ n) (h1 : n < (rs.length : Int)) : es.findIdx? (fun e => (e.born : Int) == n) = some n.toNat := by
 have at' : ∀ (j : Nat) (hj : j < es.size), es[j].born = j := fun j hj => by
   obtain ⟨e, e1, e2, _⟩ := hm.2 j _ (List.getElem?_eq_getElem (by rw [← hm.1]; exact hj))
   rw [Array.getElem?_eq_getElem hj] at e1
   injection e1 with e1
   rw [e1]; exact e2
 have hn : n.toNat < es.size := by rw [hm.1]; omega
 rw [Array.findIdx?_eq_some_iff_getElem]
 refine ⟨hn, ?_, fun j hj => ?_⟩
 · rw [at' _ hn]; simp; omega
 · rw [at' j (by omega)]; simp; omega
theorem Z4w (A : At M η w O nx ρ lk) (t : TypeId) (m k x : Operand) (hr : (opR M.C lk O nx (.entryStore t m k x)).ok O nx v O' nx') : Y5 M η w ⟨dst, .entryStore t m k x, ty, pos, af, gd⟩ ρ v O' nx' := by
 simp only [opR, Z10] at hr
 split at hr
 case h_2 => exact hr.elim
 rename_i kn n hi
 split at hr
 case h_2 => exact hr.elim
 rename_i sv hx
 split at hr
 case h_2 => exact hr.elim
 rename_i i hmv
 split at hr
 case h_3 => exact hr.elim
 case h_2 =>
   rename_i es rs hb
   split at hr
   case h_2 => exact hr.elim
   rename_i kt et hs
   obtain ⟨⟨hn0, hn1⟩, hr⟩ := hr
   have hxv := A.L _ _ hmv
   simp only [Den, Env.get] at hxv
   obtain ⟨e, he, hv⟩ := hxv
   have hsat := (A.H.own.1 i _ hb).1
   simp only [HpSat, Env.get] at hsat
   obtain ⟨⟨⟨e', ens, h1, h2, h3, h4, h5⟩, _⟩, _⟩ := hsat
   rw [show η.get (.loc i) = some (some e) from he] at h1; injection h1 with h1; injection h1 with h1; subst h1
   have hm : VD η (Yd rs) ens := ⟨h4, h5⟩
   have hsome : (lkp i O).isSome := by rw [hb]; rfl
   have hdk : ρ k = .int kn n := A.L _ _ hi
   have hdx := A.L _ _ hx
   have hlt : n.toNat < rs.length := by omega
   have hrow0 : rs[n.toNat]? = some rs[n.toNat] := List.getElem?_eq_getElem hlt
   have hfr0 : (Yd rs)[n.toNat]? = some (rs[n.toNat].map Xg) := by rw [Jh, hrow0]; rfl
   obtain ⟨en, n1, n2, n3⟩ := hm.2 _ _ hfr0
   obtain ⟨k0, d0, hkv, hdk0⟩ : ∃ k0 d0, rs[n.toNat] = [k0, d0] ∧ Den η (Xg k0) en.key := by
     cases hq : rs[n.toNat] with
     | nil => rw [hq] at n3; simp [DenL] at n3
     | cons a l =>
       rw [hq] at n3
       cases l with
       | nil => simp [DenL] at n3
       | cons b l =>
         cases l with
         | nil => simp only [List.map_cons, List.map_nil, DenL] at n3; obtain ⟨_, _, e1, d1, _⟩ := n3; cases e1; exact ⟨a, b, rfl, d1⟩
         | cons c l =>
           simp only [List.map_cons, DenL] at n3
           obtain ⟨_, _, e1, _, _, _, e2, _, _, _, e3, _⟩ := n3
           cases e1; cases e2; cases e3
   rw [hkv] at hrow0
   have hmod : (ens.modify n.toNat fun e => { e with key := en.key, val := ρ x }) = ens.modify n.toNat fun e => { e with val := ρ x } := by
     apply Array.ext_getElem?
     intro a
     rw [Array.getElem?_modify, Array.getElem?_modify]
     split
     · rename_i hja; subst hja; rw [n1]; rfl
     · rfl
   obtain ⟨hp1, hp2⟩ := Z8u (es := es) hm hrow0 n1 hdk0 hdx
   rw [hmod] at hp1 hp2
   obtain ⟨H2, rfl, rfl⟩ := Z4v hr (mp := true) (es := es) (rsv := setC rs n.toNat 1 (.v sv)) (r := n.toNat) (c := 1) (row := [k0, .v sv]) (fun d => by rw [U5 hrow0, setC_setC]) (by rw [U5 hrow0]) (by rw [Xj, if_pos rfl, hrow0]; rfl) rfl hsome (by rw [U5 hrow0]; exact Z3t A.H hb he h3 hp1 hp2)
   have g1 : (setObj e.g (.map (ens.modify n.toNat fun e => { e with val := ρ x }) ens.size)).run M.P w = .ok () (YI w e.g (ens.modify n.toNat fun e => { e with val := ρ x })) := by
     simp [setObj, Sem.run, h3, YI]
   exact ⟨undef, _, η, .inr ⟨by simp [execOp, Instr.entryStore, hv, J1 h3, hdk, asInt, asIntOf, Z8w hm hn0 (by rw [Xk]; exact hn1)]; rw [g1]; rfl, rfl⟩, List.prefix_rfl, H2, Vg η, fun h => by cases h⟩
 rename_i rs hb
 obtain ⟨⟨hn0, hn1⟩, rfl, rfl, rfl⟩ := hr
 have hxv := A.L _ _ hmv
 simp only [Den, Env.get] at hxv
 obtain ⟨e, he, hv⟩ := hxv
 obtain ⟨hsat, _⟩ := A.H.own.1 i _ hb
 simp only [HpSat, Env.get] at hsat
 obtain ⟨e', es, h1, h2, h3, h4⟩ := hsat
 rw [he] at h1; cases h1
 have hm : VD η rs es := h4
 have hdk : ρ k = .int kn n := A.L _ _ hi
 have hdx := A.L _ _ hx
 have hlt : n.toNat < rs.length := by omega
 have hrow : rs[n.toNat]? = some rs[n.toNat] := List.getElem?_eq_getElem hlt
 obtain ⟨en, n1, n2, n3⟩ := hm.2 _ _ hrow
 obtain ⟨k0, v0, hkv, hdk0⟩ : ∃ k0 v0, rs[n.toNat] = [k0, v0] ∧ Den η k0 en.key := by
   cases hq : rs[n.toNat] with
   | nil => rw [hq] at n3; simp [DenL] at n3
   | cons a l =>
     rw [hq] at n3
     cases l with
     | nil => simp [DenL] at n3
     | cons b l =>
       cases l with
       | nil => simp only [DenL] at n3; obtain ⟨_, _, e1, d1, _⟩ := n3; cases e1; exact ⟨a, b, rfl, d1⟩
       | cons c l =>
         simp only [DenL] at n3
         obtain ⟨_, _, e1, _, _, _, e2, _, _, _, e3, _⟩ := n3
         cases e1; cases e2; cases e3
 rw [hkv] at hrow
 have hmod : (es.modify n.toNat fun e => { e with key := en.key, val := ρ x }) = es.modify n.toNat fun e => { e with val := ρ x } := by
   apply Array.ext_getElem?
   intro a
   rw [Array.getElem?_modify, Array.getElem?_modify]
   split
   · rename_i hja; subst hja; rw [n1]; rfl
   · rfl
 have hput := Z1j hm hrow hdk0 hdx
 rw [hmod] at hput
 obtain ⟨g1, g2⟩ := map_set A.H hb he h2 h3 hput
 rw [Array.size_modify] at g1
 exact ⟨undef, _, η, .inr ⟨by simp [execOp, Instr.entryStore, hv, J1 h3, hdk, asInt, asIntOf, Z8w hm hn0 hn1]; rw [g1]; rfl, rfl⟩, List.prefix_rfl, g2, Vg η, fun h => by cases h⟩
end
end Go.Sx
