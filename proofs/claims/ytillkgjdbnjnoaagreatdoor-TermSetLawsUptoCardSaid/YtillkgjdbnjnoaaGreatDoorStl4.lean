/- Part 4 of the texts that the last one leans on: Build2, Esc1, UnescM, Build3, Err, Unesc1, Iri, Iri2, NamesM, Names1, PartM, Part1, SplitM, Split1, TagM, Tag1, Tag2. Conditions: as each part says. -/
import Derived.Lib.UnsafeStr
import Derived.Shelf.RegionOpenPlain
import Derived.Lib.FrozenHead2
import Derived.Test.YtillkgjdbnjnoaaGreatDoorStl3
/- strings.Builder: String. Conditions: none. -/
set_option linter.unusedVariables false
set_option linter.unusedSimpArgs false
set_option maxRecDepth 100000
namespace Go.Proofs.YtillkgjdbnjnoaaGreatDoor
open Go.Sx Go.RowKit
theorem Stays.of {b : Nat} {w w' : World} (os : w'.os = w.os) (tape : w'.tape = w.tape) (output : w'.output = w.output) (drawn : w.drawn ≤ w'.drawn) (size : w.heap.size ≤ w'.heap.size) (hb : w'.heap[b]? = w.heap[b]?)
    (block : ∀ k, k < w.heap.size → k ≠ b → ¬ kid w b (.bld TB TU []) k → w'.heap[k]? = w.heap[k]?) : Stays b w w' := ⟨os, tape, output, drawn, size, block, fun k f => .inl (f.keep hb)⟩
theorem stays_drew (b : Nat) (w : World) : Stays b w w.drew := .of rfl rfl rfl (Nat.le_succ _) (Nat.le_refl _) rfl fun _ _ _ _ => rfl
set_option maxHeartbeats 2000000 in
theorem st_some (b : Nat) (l : List UInt8) (w : World) (h : Lib.IsBuilderF TB TU 0 b (Lib.byteCells l) w) (h0 : l ≠ []) :
    Calls Tryz.prog 38 #[.pointer (some ⟨b, 0, none⟩)] w fun e w' => e = .returned (.string ⟨l.toArray⟩) ∧ Lib.IsBuilderF TB TU 0 b (Lib.byteCells l) w' ∧ Stays b w w' := by
  obtain ⟨p, hp, hB, v, hbk, hown, hne⟩ : ∃ p, (p = .pointer none ∨ p = .pointer (some ⟨b, 0, none⟩)) ∧ Lib.BuilderAtF TB TU 0 b p (Lib.byteCells l) w := by
    rcases h with h | h
    · exact ⟨_, .inl rfl, h⟩
    · exact ⟨_, .inr rfl, h⟩
  have hl0 : l.length ≠ 0 := by simpa using h0
  have hA : Lib.BuilderAtF TB TU 0 b p (Lib.byteCells l) w := ⟨hB, v, hbk, hown, hne⟩
  rw [Lib.byteCells_length] at hown
  rcases hown.2 with ⟨_, hz⟩ | ⟨g, cap, cur, fz, rfl, hbg, hg, hfz, hnc, hcm, hcs, htake⟩
  · exact absurd hz hl0
  have c1 : w.drew.cell? ⟨b, 1, none⟩ = some (.slice (some ⟨g, 0, none⟩) l.length cap) := by
    have : w.drew.heap[b]? = some (.cells #[p, .slice (some ⟨g, 0, none⟩) l.length cap] TB (0, 0)) := hbk
    rw [Lib.cell_of_heap this]; rfl
  have hSD : (Builtin.unsafeSliceData_ #[63] 91 #[.slice (some ⟨g, 0, none⟩) l.length cap]).run Tryz.prog w.drew = .ok (.pointer (some ⟨g, 0, none⟩)) w.drew :=
    Lib.run_unsafeSliceData_row _ _ _ _ _ _ (by omega)
  have hUS : (Builtin.unsafeString_ #[91, 3] 9 #[.pointer (some ⟨g, 0, none⟩), .int .i64 l.length]).run Tryz.prog w.drew = .ok (.string ⟨l.toArray⟩) (w.drew.freeze ⟨g, 0, none⟩ l.length) := by
    refine Lib.run_unsafeString_row w.drew 91 3 9 TU Tryz.underlying91 (by kernel_rfl) g cur.size (by have hg' : w.drew.heap[g]? = some (.cells cur TU fz) := hg; simp [World.shape?, hg']) l h0 (by omega) (by unfold maxLen at hcm; omega) ?_
    intro j x hx
    exact hown.cells (g := g) rfl j (.int .u8 x.toNat) (by simp [Lib.byteCells, hx])
  have hF := (hA.drew).froze (g := g) (cap := cap) (by rw [Lib.byteCells_length]; exact c1)
  rw [Lib.byteCells_length] at hF
  have hkeep : Lib.IsBuilderF TB TU 0 b (Lib.byteCells l) (w.drew.freeze ⟨g, 0, none⟩ l.length) := by
    rcases hp with rfl | rfl
    · exact .inl hF
    · exact .inr hF
  have hgb : g ≠ b := fun e => hne (by simp [Value.ownBlock, e])
  obtain ⟨fn, hfr⟩ : ∃ fn, w.drew.freeze ⟨g, 0, none⟩ l.length = { w.drew with heap := w.drew.heap.modify g fn } := ⟨_, by unfold World.freeze; rw [if_neg hl0]⟩
  have hfre : ∀ k, k ≠ g → (w.drew.freeze ⟨g, 0, none⟩ l.length).heap[k]? = w.heap[k]? := by
    intro k hk
    rw [hfr]
    show (w.heap.modify g fn)[k]? = w.heap[k]?
    rw [Array.getElem?_modify, if_neg (Ne.symm hk)]
  have hst : Stays b w (w.drew.freeze ⟨g, 0, none⟩ l.length) := by
    refine .of (by rw [hfr]; rfl) (by rw [hfr]; rfl) (by rw [hfr]; rfl) (by rw [hfr]; exact Nat.le_succ _) ?_ (hfre b (Ne.symm hgb)) fun k hk hkb hkk => hfre k fun e => hkk ?_
    · rw [hfr]
      show w.heap.size ≤ (w.heap.modify g fn).size
      rw [Array.size_modify]; exact Nat.le_refl _
    · subst e
      simp only [kid]
      exact ⟨_, _, _, _, hbk, rfl, rfl⟩
  clear hA hF hp hne hB hfr hfre
  have mixed : Tryz.prog.follows .mixedOrders = true := by kernel_rfl
  go_enter Tryz.func38, Tryz.ntmps38
  go_wp2
  go_region_o
  all_goals (go_wp2; go_ret; exact ⟨rfl, hkeep, hst⟩)
theorem us_none (W : World) (q : Option Addr) : (Builtin.unsafeString_ #[91, 3] 9 #[.pointer q, .int .i64 0]).run Tryz.prog W = .ok (.string .empty) W := Lib.run_unsafeString_none W _ _ _ q
set_option maxHeartbeats 2000000 in
theorem st_nil (b : Nat) (p : Value) (w : World) (hbk : w.heap[b]? = some (.cells #[p, .slice none 0 0] TB (0, 0))) (hA : Lib.BuilderAtF TB TU 0 b p [] w) :
    Calls Tryz.prog 38 #[.pointer (some ⟨b, 0, none⟩)] w fun e w' => e = .returned (.string ⟨#[]⟩) ∧ Lib.BuilderAtF TB TU 0 b p [] w' ∧ Stays b w w' := by
  have hUS := us_none
  have c1 : w.drew.cell? ⟨b, 1, none⟩ = some (.slice none 0 0) := by
    have : w.drew.heap[b]? = some (.cells #[p, .slice none 0 0] TB (0, 0)) := hbk
    rw [Lib.cell_of_heap this]; rfl
  have hSD : (Builtin.unsafeSliceData_ #[63] 91 #[.slice none 0 0]).run Tryz.prog w.drew = .ok (.pointer none) w.drew := rfl
  have hA' := hA.drew
  have hst := stays_drew b w
  have mixed : Tryz.prog.follows .mixedOrders = true := by kernel_rfl
  go_enter Tryz.func38, Tryz.ntmps38
  go_wp2
  go_region_o
  all_goals (go_wp2; go_ret; exact ⟨rfl, hA', hst⟩)
set_option maxHeartbeats 2000000 in
theorem st_noroom (b g : Nat) (p : Value) (cur : Array Value) (w : World) (hbk : w.heap[b]? = some (.cells #[p, .slice (some ⟨g, 0, none⟩) 0 0] TB (0, 0))) (fz : Nat × Nat) (hg : w.heap[g]? = some (.cells cur TU fz)) (hA : Lib.BuilderAtF TB TU 0 b p [] w) :
    Calls Tryz.prog 38 #[.pointer (some ⟨b, 0, none⟩)] w fun e w' => e = .returned (.string ⟨#[]⟩) ∧ Lib.BuilderAtF TB TU 0 b p [] w' ∧ Stays b w w' := by
  have hUS := us_none
  have hlt : b < w.heap.size := (Array.getElem?_eq_some_iff.1 hbk).1
  have c1 : w.drew.cell? ⟨b, 1, none⟩ = some (.slice (some ⟨g, 0, none⟩) 0 0) := by
    have : w.drew.heap[b]? = some (.cells #[p, .slice (some ⟨g, 0, none⟩) 0 0] TB (0, 0)) := hbk
    rw [Lib.cell_of_heap this]; rfl
  have hSD : (Builtin.unsafeSliceData_ #[63] 91 #[.slice (some ⟨g, 0, none⟩) 0 0]).run Tryz.prog w.drew = .ok (.pointer (some ⟨w.drew.heap.size, 0, none⟩)) (w.drew.alloc (.view ⟨g, 0, none⟩ TU)) :=
    Lib.run_unsafeSliceData_zero w.drew _ _ TU Tryz.underlying91 ⟨g, 0, none⟩ 0 (TU, cur.size) (by have hg' : w.drew.heap[g]? = some (.cells cur TU fz) := hg; simp [World.shape?, hg'])
  have c2 : (w.drew.alloc (.view ⟨g, 0, none⟩ TU)).cell? ⟨b, 1, none⟩ = some (.slice (some ⟨g, 0, none⟩) 0 0) := by
    have : (w.drew.alloc (.view ⟨g, 0, none⟩ TU)).heap[b]? = _ := (Lib.alloc_old w.drew _ b hlt).trans hbk
    rw [Lib.cell_of_heap this]; rfl
  have c3 : (w.alloc (.view ⟨g, 0, none⟩ TU)).drew.cell? ⟨b, 1, none⟩ = some (.slice (some ⟨g, 0, none⟩) 0 0) := c2
  have c0 : w.cell? ⟨b, 1, none⟩ = some (.slice (some ⟨g, 0, none⟩) 0 0) := c1
  have hA' := hA.drew.alloc (.view ⟨g, 0, none⟩ TU)
  have hst : Stays b w (w.drew.alloc (.view ⟨g, 0, none⟩ TU)) := .of rfl rfl rfl (Nat.le_succ _) (by simp) (Lib.alloc_old w.drew _ b hlt) fun k hk _ _ => Lib.alloc_old w.drew _ k hk
  have mixed : Tryz.prog.follows .mixedOrders = true := by kernel_rfl
  go_enter Tryz.func38, Tryz.ntmps38
  go_wp2
  go_region_o
  all_goals (go_wp2; go_ret; exact ⟨rfl, hA', hst⟩)
set_option maxHeartbeats 2000000 in
theorem st_room (b g cap : Nat) (p : Value) (w : World) (hc0 : cap ≠ 0) (hbk : w.heap[b]? = some (.cells #[p, .slice (some ⟨g, 0, none⟩) 0 cap] TB (0, 0))) (hA : Lib.BuilderAtF TB TU 0 b p [] w) :
    Calls Tryz.prog 38 #[.pointer (some ⟨b, 0, none⟩)] w fun e w' => e = .returned (.string ⟨#[]⟩) ∧ Lib.BuilderAtF TB TU 0 b p [] w' ∧ Stays b w w' := by
  have hUS := us_none
  have c1 : w.drew.cell? ⟨b, 1, none⟩ = some (.slice (some ⟨g, 0, none⟩) 0 cap) := by
    have : w.drew.heap[b]? = some (.cells #[p, .slice (some ⟨g, 0, none⟩) 0 cap] TB (0, 0)) := hbk
    rw [Lib.cell_of_heap this]; rfl
  have hSD : (Builtin.unsafeSliceData_ #[63] 91 #[.slice (some ⟨g, 0, none⟩) 0 cap]).run Tryz.prog w.drew = .ok (.pointer (some ⟨g, 0, none⟩)) w.drew :=
    Lib.run_unsafeSliceData_row _ _ _ _ _ _ hc0
  clear hc0
  have hA' := hA.drew
  have hst := stays_drew b w
  have mixed : Tryz.prog.follows .mixedOrders = true := by kernel_rfl
  go_enter Tryz.func38, Tryz.ntmps38
  go_wp2
  go_region_o
  all_goals (go_wp2; go_ret; exact ⟨rfl, hA', hst⟩)
theorem st_any (b : Nat) (l : List UInt8) (w : World) (h : Lib.IsBuilderF TB TU 0 b (Lib.byteCells l) w) :
    Calls Tryz.prog 38 #[.pointer (some ⟨b, 0, none⟩)] w fun e w' => e = .returned (.string ⟨l.toArray⟩) ∧ Lib.IsBuilderF TB TU 0 b (Lib.byteCells l) w' ∧ Stays b w w' := by
  by_cases h0 : l = []
  · subst h0
    have key : ∀ p, Lib.BuilderAtF TB TU 0 b p [] w → Calls Tryz.prog 38 #[.pointer (some ⟨b, 0, none⟩)] w fun e w' => e = .returned (.string ⟨#[]⟩) ∧ Lib.BuilderAtF TB TU 0 b p [] w' ∧ Stays b w w' := by
      intro p hA
      have hA0 := hA
      obtain ⟨hB, v, hbk, hown, hne⟩ := hA
      rcases hown.2 with ⟨rfl, _⟩ | ⟨g, cap, cur, fz, rfl, hbg, hg, _⟩
      · exact st_nil b p w hbk hA0
      · by_cases hc : cap = 0
        · subst hc; exact st_noroom b g p cur w hbk fz hg hA0
        · exact st_room b g cap p w hc hbk hA0
    rcases h with h | h
    · exact (key _ h).mono fun e w' ⟨h1, h2, h3⟩ => ⟨h1, .inl h2, h3⟩
    · exact (key _ h).mono fun e w' ⟨h1, h2, h3⟩ => ⟨h1, .inr h2, h3⟩
  · exact st_some b l w h h0
theorem string_does (l : List UInt8) : Does Tryz.prog tab 38 1 [.ptr (.loc 0) 0 0 0] [(0, .bld TB TU l)] [] fun r O nx => r = .str l ∧ O = [(0, .bld TB TU l)] ∧ nx = 1 := by
  refine bld_does Tryz.call38 fun η b vs w hd hB => ?_
  simp only [DenL] at hd
  subst hd
  refine (st_any b l w hB).mono fun e w' => ?_
  rintro ⟨rfl, h1, h2⟩
  exact ⟨_, rfl, by simp only [Den], h1, h2⟩
end Go.Proofs.YtillkgjdbnjnoaaGreatDoor
/- utf: what is written for a text, walked. Conditions: none. -/
set_option linter.unusedVariables false
set_option linter.unusedSimpArgs false
set_option maxRecDepth 20000
set_option maxHeartbeats 8000000
namespace Go.Proofs.YtillkgjdbnjnoaaGreatDoor
open Go.Sx Go.Our
theorem bytes_does (r : Int) (hr : 0 ≤ r ∧ r ≤ 1114111) : Does Tryz.prog tab 57 0 [.int .i32 r] [] [] (NewBytes 0 (encM r)) := by
  refine Does.enter tabOK (g := 57) (fn := Tryz.f57) Tryz.call57 Tryz.func57 rfl 57 rfl rfl [.tmp 2] rfl ?_
  intro w0 F η0 h0
  conv => whnf
  repeat' ((first | with_reducible refine IF.tt ?_ | with_reducible refine IF.ff ?_ | refine NEED.au ?_ | ((with_reducible apply GET.at); rfl) | ((with_reducible apply GETG.at); rfl) | ((with_reducible refine UNK.mk (fun h => ?_) ?_) <;> try (exfalso; omega)) | ((with_reducible refine IF.mk (fun h => ?_) (fun h => ?_)) <;> (try simp (disch := omega) only [hsB, hsC, lnB, wrap64, wrap32, simprocAttr] at h) <;> try (exfalso; omega))) <;> conv => whnf)
  all_goals
    refine FIN.rows h0 0 1 _ rfl rfl rfl rfl ?_
    unfold encM Go.Our.encI
    simp (disch := omega) only [↓if_pos, ↓if_neg, List.map_cons, List.map_nil, shr6, shr12, shr18, and63i, or192, or224, or240, or128, wrapu8]
    refine ⟨rfl, ?_, rfl⟩
    simp (disch := omega) only [List.map_cons, List.map_nil, ← bytesRow_of]
theorem needMk {l c : Int} {b : Nat} (B : Nat) (hb : Nat.ble b B = true) (h1 : 0 ≤ l) (h2 : l ≤ c) (h3 : c ≤ 9223372036854775807) (h4 : B * c ≤ 281474976710656) : 0 ≤ l ∧ l ≤ c ∧ c ≤ 9223372036854775807 ∧ (b : Int) * c ≤ 281474976710656 :=
  ⟨h1, h2, h3, Int.le_trans (Int.mul_le_mul_of_nonneg_right (by have := Nat.le_of_ble_eq_true hb; omega) (by omega)) h4⟩
theorem and15_lt (a : Int) : 0 ≤ iAnd .u64 a 15 ∧ iAnd .u64 a 15 < ((hexTab.length : Nat) : Int) := by
  unfold iAnd
  have h1 : (BitVec.ofInt IntKind.u64.bits a &&& BitVec.ofInt IntKind.u64.bits 15).toNat ≤ 15 := by
    rw [BitVec.toNat_and]
    exact Nat.and_le_right
  rw [IntWalk.u64_in _ ⟨by omega, by omega⟩]
  exact ⟨by omega, by show _ < (16 : Int); omega⟩
def hexN (n i : Int) : UInt8 := hexTab.getD (iAnd .u64 (iShr .u64 n i) 15).toNat 0
theorem needIdx {r : Int} (hr : (0 ≤ r ∧ r < 128) ∧ ¬ r = 39) (h : 0 ≤ Lib.indexByte [9, 8, 10, 13, 12, 34, 39, 92] (IntKind.u8.wrap r).toNat.toUInt8) :
    0 ≤ Lib.indexByte [9, 8, 10, 13, 12, 34, 39, 92] (IntKind.u8.wrap r).toNat.toUInt8 ∧ Lib.indexByte [9, 8, 10, 13, 12, 34, 39, 92] (IntKind.u8.wrap r).toNat.toUInt8 ≤ IntKind.i64.wrap (Lib.indexByte [9, 8, 10, 13, 12, 34, 39, 92] (IntKind.u8.wrap r).toNat.toUInt8 + 1) ∧
    IntKind.i64.wrap (Lib.indexByte [9, 8, 10, 13, 12, 34, 39, 92] (IntKind.u8.wrap r).toNat.toUInt8 + 1) ≤ ((lettersB.length : Nat) : Int) := by
  have h1 := (mIdx_in hr.1 hr.2 h).1
  have h1 : Lib.indexByte [9, 8, 10, 13, 12, 34, 39, 92] (IntKind.u8.wrap r).toNat.toUInt8 < 8 := h1
  rw [wrap64 (by omega) (by omega)]
  exact ⟨h, by omega, by show _ ≤ (8 : Int); omega⟩
theorem digits_does (n : Int) (hn : 0 ≤ n ∧ n < 256) : Does Tryz.prog tab 56 0 [.int .u64 (IntKind.u64.wrap n), .int .i64 4] [] [] (Val (.str (hex4 n))) := by
  rw [show IntKind.u64.wrap n = n from IntWalk.u64_in _ ⟨by omega, by omega⟩]
  refine Does.enter tabOK (g := 56) (fn := Tryz.f56) Tryz.call56 Tryz.func56 rfl 29 rfl rfl [.tmp 4] rfl ?_
  intro w0 F η0 h0
  conv => whnf
  repeat' ((first | with_reducible refine IF.tt ?_ | with_reducible refine IF.ff ?_ | (refine NEED.mk (needMk 256 rfl (by omega) (by omega) (by omega) (by omega)) ?_; conv => whnf) | (refine LOOP.once tabOK ?_; conv => whnf) | (refine NEED.mk (and15_lt _) ?_; conv => whnf) | refine NEED.au ?_ | ((with_reducible apply GET.at); rfl) | ((with_reducible apply GETG.at); rfl) | ((with_reducible refine UNK.mk (fun h => ?_) ?_) <;> try (exfalso; omega)) | ((with_reducible refine IF.mk (fun h => ?_) (fun h => ?_)) <;> (try simp (disch := omega) only [hsB, hsC, lnB, wrap64, wrap32, simprocAttr] at h) <;> try (exfalso; omega))) <;> conv => whnf)
  refine NEED.mk ⟨rfl, [hexN n 12, hexN n 8, hexN n 4, hexN n 0], rfl⟩ ?_
  conv => whnf
  exact FIN.value h0 rfl (congrArg SV.str (hexP hn))
theorem written_does (r way : Int) (hr : Scalar r) : Does Tryz.prog tab 37 0 [.int .i32 r, .int .i64 way] [] [] (Val (.str (writtenM way r))) := by
  obtain ⟨hr0, hr1, _⟩ := hr
  have h4 := hex4_len r
  refine Does.enter tabOK (g := 37) (fn := Tryz.f37) Tryz.call37 Tryz.func37 rfl 56 rfl rfl [.tmp 4] rfl ?_
  intro w0 F η0 h0
  conv => whnf
  repeat' ((first | with_reducible refine IF.tt ?_ | with_reducible refine IF.ff ?_ | refine CALL.value (indexByte_does _ _) rfl rfl ?_ | refine CALL.value (digits_does _ (by omega)) rfl rfl ?_ | (refine CALL.bytes (bytes_does _ (by omega)) rfl ?_; conv => whnf) | (refine NEED.mk (needText (by simp)) ?_; conv => whnf) | (refine NEED.mk (needIdx (by omega) h) ?_; conv => whnf) | refine NEED.au ?_ | ((with_reducible apply GET.at); rfl) | ((with_reducible apply GETG.at); rfl) | ((with_reducible refine UNK.mk (fun h => ?_) ?_) <;> try (exfalso; omega)) | ((with_reducible refine IF.mk (fun h => ?_) (fun h => ?_)) <;> (try simp (disch := omega) only [hsB, hsC, lnB, wrap64, wrap32, simprocAttr] at h) <;> try (exfalso; omega))) <;> conv => whnf)
  · refine FIN.value h0 rfl (congrArg SV.str ?_)
    unfold writtenM; rw [if_neg (by assumption), if_pos (by unfold Our.Barred; omega)]; try rfl
  · refine FIN.value h0 rfl (congrArg SV.str ?_)
    unfold writtenM; rw [if_neg (by assumption), if_pos ((bIdx_iff (by omega) (by omega)).1 h)]; try rfl
  · refine FIN.value h0 rfl (congrArg SV.str ?_)
    have hb : ¬ Our.Barred r := fun hb => by
      have h1 : 0 ≤ bIdx r := (bIdx_iff (by omega) (by omega)).2 hb
      have h2 : bIdx r < 0 := h
      omega
    rw [textAll]; unfold writtenM; rw [if_neg (by assumption), if_neg hb]
  · refine FIN.value h0 rfl (congrArg SV.str ?_)
    rw [textAll, written_high (by omega)]
  · have hm : mIdx r < 8 ∧ [92] ++ ((lettersB.drop (mIdx r).toNat).take 1) = writtenM 1 r := mIdx_in (by omega) (by omega) h
    have hw : IntKind.i64.wrap (mIdx r + 1) = mIdx r + 1 := wrap64 (by have : 0 ≤ mIdx r := h; omega) (by omega)
    have hi : 0 ≤ mIdx r := h
    refine FIN.value h0 rfl (congrArg SV.str ?_)
    rw [show way = 1 by assumption, ← hm.2, show 1 = (IntKind.i64.wrap (mIdx r + 1)).toNat - (mIdx r).toNat by omega]; try rfl
  · refine FIN.value h0 rfl (congrArg SV.str ?_)
    rw [show way = 1 by assumption, mIdx_out (by omega) (by assumption), if_pos h]; try rfl
  · refine FIN.value h0 rfl (congrArg SV.str ?_)
    rw [textAll, show way = 1 by assumption, mIdx_out (by omega) (by assumption), if_neg (by omega)]
  · refine FIN.value h0 rfl (congrArg SV.str ?_)
    rw [textAll]
    by_cases h9 : r = 39
    · subst h9; rw [show way = 1 by assumption]; rfl
    · rw [written_high (by omega)]
theorem escape_does (s : List UInt8) (way : Int) (hs : s.length ≤ 1099511627776) (hc : chk s 0 < 0) : Does Tryz.prog tab 21 0 [.str s, .int .i64 way] [] [] (Val (.tup [.str (escM way s), .val .nilIface])) := by
  refine Does.enter tabOK (g := 21) (fn := Tryz.f21) Tryz.call21 Tryz.func21 rfl 26 rfl rfl [.tmp 4, .tmp 5] rfl ?_
  intro w0 F η0 h0
  conv => whnf
  repeat' ((first | with_reducible refine IF.tt ?_ | with_reducible refine IF.ff ?_ | refine CALL.value (check_does _ (by omega)) rfl rfl ?_ | refine NEED.au ?_ | ((with_reducible apply GET.at); rfl) | ((with_reducible apply GETG.at); rfl) | ((with_reducible refine UNK.mk (fun h => ?_) ?_) <;> try (exfalso; omega)) | ((with_reducible refine IF.mk (fun h => ?_) (fun h => ?_)) <;> (try simp (disch := omega) only [hsB, hsC, lnB, wrap64, wrap32, simprocAttr] at h) <;> try (exfalso; omega))) <;> conv => whnf)
  have hc1 : chk s 0 = -1 := by have := chk_ge s 0; omega
  refine LOOP.go tabOK [1, 7, 17] (X := Nat × List UInt8) (fun x => x.1 ≤ s.length ∧ chk s x.1 = -1 ∧ x.2 ++ escFrom way s x.1 = escFrom way s 0 ∧ x.2.length ≤ 6 * x.1) (fun _ => []) (fun x => [(1, .siter s x.1), (0, .bld TB TU x.2)]) 2 (fun x => s.length - x.1) (0, []) ⟨by simp, hc1, by simp, by simp⟩ ?_
  conv => whnf
  refine ⟨by (refine GOES.cutting h0 rfl rfl rfl (by first | rfl | simp [belowO, belowH, plainLL_below, plainLL_map, plainL, plain]) ?_ ?_ <;> (repeat' (first | (with_reducible rfl) | (exact congrArg (fun n => SV.sl _ _ _ n _) (by simp)) | (exact congrArg (Hp.rows _) (by simp)) | (exact congrArg (SV.int _) (by first | omega | (simp (disch := omega) only [lnB, wrap64, wrap32] <;> omega) | (simp; done) | (simp <;> omega))) | ((conv => whnf); refine ⟨?_, ?_⟩) | exact trivial | (simp; done) | rfl))), ?_⟩
  rintro ⟨i, out⟩ ⟨hi, hch, hout, hol⟩
  dsimp only at hi hch hout hol
  conv => whnf
  refine ⟨fun h => ?_, fun h => ?_⟩
  · have h : i < s.length := by simpa using h
    have hnx := chk_next h hch
    have hd := deco_next h hnx
    have hsc := nextAt_scalar h hnx
    have hn := nextAt_n s i
    have hwl := written_len way (nextAt s i).1
    have hds : Scalar ((deco s i).1 : Int) := deco_scalar s i
    have hwr := writeString_does out (writtenM way ((deco s i).1 : Int)) (by rw [hd.1]; omega)
    conv => whnf
    repeat' ((first | with_reducible refine IF.tt ?_ | with_reducible refine IF.ff ?_ | refine CALL.value (written_does _ way hds) rfl rfl ?_ | refine NEED.au ?_ | ((with_reducible apply GET.at); rfl) | ((with_reducible apply GETG.at); rfl) | ((with_reducible refine UNK.mk (fun h => ?_) ?_) <;> try (exfalso; omega)) | ((with_reducible refine IF.mk (fun h => ?_) (fun h => ?_)) <;> (try simp (disch := omega) only [hsB, hsC, lnB, wrap64, wrap32, simprocAttr] at h) <;> try (exfalso; omega))) <;> conv => whnf)
    refine CALL.at [0] (hwr) rfl rfl rfl rfl (by first | rfl | (simp only [belowO, belowH, plainLL_below _ (plainStrs _), Bool.and_self, Bool.and_true] <;> rfl)) (by first | rfl | (simp only [belowO, belowH, plainLL_below _ (plainStrs _), Bool.and_self, Bool.and_true] <;> rfl)) (by repeat' (first | exact trivial | exact (renH_plain _ (h := .rows _ _) (plainStrs _)).symm | exact rfl | exact (renH_plain _ (h := .rows _ _) (plainStrs _)).trans (renH_plain _ (h := .rows _ _) (plainStrs _)).symm | ((conv => whnf); refine ⟨?_, ?_⟩))) (by repeat' (first | exact trivial | exact (renH_plain _ (h := .rows _ _) (plainStrs _)).symm | exact rfl | exact (renH_plain _ (h := .rows _ _) (plainStrs _)).trans (renH_plain _ (h := .rows _ _) (plainStrs _)).symm | ((conv => whnf); refine ⟨?_, ?_⟩))) rfl rfl ?_
    rintro r O' nx' ⟨rfl, rfl, rfl⟩
    conv => whnf
    refine ⟨(i + (deco s i).2, out ++ writtenM way ((deco s i).1 : Int)), ⟨?_, ?_, ?_, ?_⟩, ?_, ?_⟩
    · simp only; omega
    · simp only
      rw [show i + (deco s i).2 = i + (nextAt s i).2.toNat by omega, ← chk_step h hnx, hch]
    · simp only
      rw [← hout, escFrom_step h hnx, hd.1, show i + (deco s i).2 = i + (nextAt s i).2.toNat by omega, List.append_assoc]
    · simp only [List.length_append]; rw [hd.1]; omega
    · simp only; omega
    · conv => whnf
      (refine GOES.cutting h0 rfl rfl rfl (by first | rfl | simp [belowO, belowH, plainLL_below, plainLL_map, plainL, plain]) ?_ ?_ <;> (repeat' (first | (with_reducible rfl) | (exact congrArg (fun n => SV.sl _ _ _ n _) (by simp)) | (exact congrArg (Hp.rows _) (by simp)) | (exact congrArg (SV.int _) (by first | omega | (simp (disch := omega) only [lnB, wrap64, wrap32] <;> omega) | (simp; done) | (simp <;> omega))) | ((conv => whnf); refine ⟨?_, ?_⟩) | exact trivial | (simp; done) | rfl)))
  · have h : s.length ≤ i := by simpa using h
    conv => whnf
    repeat' ((first | with_reducible refine IF.tt ?_ | with_reducible refine IF.ff ?_ | refine NEED.au ?_ | ((with_reducible apply GET.at); rfl) | ((with_reducible apply GETG.at); rfl) | ((with_reducible refine UNK.mk (fun h => ?_) ?_) <;> try (exfalso; omega)) | ((with_reducible refine IF.mk (fun h => ?_) (fun h => ?_)) <;> (try simp (disch := omega) only [hsB, hsC, lnB, wrap64, wrap32, simprocAttr] at h) <;> try (exfalso; omega))) <;> conv => whnf)
    rw [escFrom_end h, List.append_nil] at hout
    refine CALL.at [0] (string_does out) rfl rfl rfl rfl (by first | rfl | (simp only [belowO, belowH, plainLL_below _ (plainStrs _), Bool.and_self, Bool.and_true] <;> rfl)) (by first | rfl | (simp only [belowO, belowH, plainLL_below _ (plainStrs _), Bool.and_self, Bool.and_true] <;> rfl)) (by repeat' (first | exact trivial | exact (renH_plain _ (h := .rows _ _) (plainStrs _)).symm | exact rfl | exact (renH_plain _ (h := .rows _ _) (plainStrs _)).trans (renH_plain _ (h := .rows _ _) (plainStrs _)).symm | ((conv => whnf); refine ⟨?_, ?_⟩))) (by repeat' (first | exact trivial | exact (renH_plain _ (h := .rows _ _) (plainStrs _)).symm | exact rfl | exact (renH_plain _ (h := .rows _ _) (plainStrs _)).trans (renH_plain _ (h := .rows _ _) (plainStrs _)).symm | ((conv => whnf); refine ⟨?_, ?_⟩))) rfl rfl ?_
    rintro r O' nx' ⟨rfl, rfl, rfl⟩
    conv => whnf
    refine FIN.value h0 rfl ?_
    unfold escM
    rw [if_neg (by omega), ← hout]
end Go.Proofs.YtillkgjdbnjnoaaGreatDoor
/- Escapes read, in plain words. No program in sight. -/
set_option linter.unusedVariables false
set_option linter.unusedSimpArgs false
namespace Go.Our
open Go.Sx
def hexV (c : Int) : Int := if 48 ≤ c ∧ c ≤ 57 then c - 48 else if 97 ≤ c ∧ c ≤ 102 then c - 97 + 10 else if 65 ≤ c ∧ c ≤ 70 then c - 65 + 10 else -1
theorem hexV_lt (c : Int) : -1 ≤ hexV c ∧ hexV c < 16 := by
  unfold hexV
  (repeat' split) <;> omega
/-- So many digits from a place on, behind what was read. -/
def numR (s : List UInt8) (i : Nat) : Nat → Int → Option Int
  | 0, a => some a
  | k + 1, a => if i < s.length ∧ 0 ≤ hexV (byteAt s i) then numR s (i + 1) k (a * 16 + hexV (byteAt s i)) else none
/-- The scalar of so many digits; -1: there is none. -/
def numM (s : List UInt8) (i k : Nat) : Int := match numR s i k 0 with
  | some r => if Scalar r then r else -1
  | none => -1
theorem numM_scalar {s : List UInt8} {i k : Nat} (h : 0 ≤ numM s i k) : Scalar (numM s i k) := by
  unfold numM at *
  split at h
  · split at h
    · rename_i h1 h2; rw [if_pos h2]; exact h2
    · omega
  · omega
/-- What a letter behind a backslash means; -1: nothing. -/
def letM (c : Int) : Int := if c = 116 then 9 else if c = 98 then 8 else if c = 110 then 10 else if c = 114 then 13 else if c = 102 then 12 else if c = 34 then 34 else if c = 39 then 39 else if c = 92 then 92 else -1
/-- At a backslash: the scalar, and how many bytes the escape has; 0: there is none. -/
def escapeM (way : Int) (s : List UInt8) (i : Nat) : Int × Int :=
  if s.length ≤ i + 1 then (0, 0)
  else if byteAt s (i + 1 : Nat) = 117 then (if 0 ≤ numM s (i + 2) 4 then (numM s (i + 2) 4, 6) else (0, 0))
  else if byteAt s (i + 1 : Nat) = 85 then (if 0 ≤ numM s (i + 2) 8 then (numM s (i + 2) 8, 10) else (0, 0))
  else if way = 1 ∧ 0 ≤ letM (byteAt s (i + 1 : Nat)) then (letM (byteAt s (i + 1 : Nat)), 2) else (0, 0)
theorem numR_fits {s : List UInt8} {i k : Nat} {a r : Int} (h : numR s i k a = some r) (hk : 0 < k) : i + k ≤ s.length := by
  induction k generalizing i a with
  | zero => omega
  | succ k ih =>
    unfold numR at h
    split at h
    · rcases Nat.eq_zero_or_pos k with rfl | hk'
      · omega
      · have := ih h hk'; omega
    · cases h
theorem numM_fits {s : List UInt8} {i k : Nat} (h : 0 ≤ numM s i k) (hk : 0 < k) : i + k ≤ s.length := by
  unfold numM at h
  split at h
  · rename_i r hr; exact numR_fits hr hk
  · omega
theorem escapeM_n (way : Int) (s : List UInt8) (i : Nat) : (escapeM way s i).2 = 0 ∨ (2 ≤ (escapeM way s i).2 ∧ i + (escapeM way s i).2 ≤ s.length ∧ Scalar (escapeM way s i).1) := by
  unfold escapeM
  split
  · exact .inl rfl
  split
  · split
    · rename_i h; have := numM_fits h (by omega); exact .inr ⟨by simp, by simp only; omega, numM_scalar h⟩
    · exact .inl rfl
  split
  · split
    · rename_i h; have := numM_fits h (by omega); exact .inr ⟨by simp, by simp only; omega, numM_scalar h⟩
    · exact .inl rfl
  split
  · rename_i h
    refine .inr ⟨by simp, by simp only; omega, ?_⟩
    obtain ⟨_, h⟩ := h
    simp only
    unfold letM at *
    unfold Scalar
    (repeat' split at h) <;> simp_all
  · exact .inl rfl
def pre (l : List UInt8) : (Nat × Int) ⊕ List UInt8 → (Nat × Int) ⊕ List UInt8
  | .inl e => .inl e
  | .inr t => .inr (l ++ t)
/-- A text read: an error with its place, or what it says. -/
def unescM (way : Int) (s : List UInt8) (i : Nat) : (Nat × Int) ⊕ List UInt8 :=
  if h : i < s.length then
    if byteAt s i = 92 then
      if h2 : (escapeM way s i).2 = 0 then .inl (i, 41) else pre (encM (escapeM way s i).1) (unescM way s (i + (escapeM way s i).2.toNat))
    else
      if h2 : (nextAt s i).2 = 0 then .inl (i, 40) else pre (encM (nextAt s i).1) (unescM way s (i + (nextAt s i).2.toNat))
  else .inr []
termination_by s.length - i
decreasing_by
  · have := escapeM_n way s i; omega
  · have := nextAt_n s i; omega
theorem pre_pre (a b : List UInt8) (x : (Nat × Int) ⊕ List UInt8) : pre a (pre b x) = pre (a ++ b) x := by
  cases x <;> simp [pre]
theorem pre_nil (x : (Nat × Int) ⊕ List UInt8) : pre [] x = x := by cases x <;> rfl
section
variable {way : Int} {s : List UInt8} {i : Nat}
theorem unesc_end (h : s.length ≤ i) : unescM way s i = .inr [] := by rw [unescM, dif_neg (by omega)]
theorem unesc_bad (h : i < s.length) (h1 : byteAt s i = 92) (h2 : (escapeM way s i).2 = 0) : unescM way s i = .inl (i, 41) := by rw [unescM, dif_pos h, if_pos h1, dif_pos h2]
theorem unesc_esc (h : i < s.length) (h1 : byteAt s i = 92) (h2 : (escapeM way s i).2 ≠ 0) : unescM way s i = pre (encM (escapeM way s i).1) (unescM way s (i + (escapeM way s i).2.toNat)) := by
  conv => lhs; rw [unescM, dif_pos h, if_pos h1, dif_neg h2]
theorem unesc_wrong (h : i < s.length) (h1 : byteAt s i ≠ 92) (h2 : (nextAt s i).2 = 0) : unescM way s i = .inl (i, 40) := by rw [unescM, dif_pos h, if_neg h1, dif_pos h2]
theorem unesc_next (h : i < s.length) (h1 : byteAt s i ≠ 92) (h2 : (nextAt s i).2 ≠ 0) : unescM way s i = pre (encM (nextAt s i).1) (unescM way s (i + (nextAt s i).2.toNat)) := by
  conv => lhs; rw [unescM, dif_pos h, if_neg h1, dif_neg h2]
/-- A scalar's bytes are the ones that stand there. -/
theorem nextAt_enc (h : i < s.length) (h2 : (nextAt s i).2 ≠ 0) : encM (nextAt s i).1 = (s.drop i).take (nextAt s i).2.toNat := by
  have key : ∀ l : List UInt8, 0 ≤ guessM l → encM (guessM l) = l := by
    intro l hl
    unfold guessM at *
    split at hl
    · rename_i h; rw [if_pos h]; exact h.2
    · omega
  have hg := nextAt_guess (s := s) (i := i) (by omega)
  have e1 : ∀ k : Nat, ((i : Int) + (k : Int)).toNat - (i : Int).toNat = k := fun k => by omega
  have e0 : ((i : Int)).toNat = i := by omega
  split at hg
  · rename_i h
    rw [hg]; simp only
    rw [key _ h, e0, show ((i : Int) + 1).toNat - i = 1 by omega]; rfl
  split at hg
  · rename_i h
    rw [hg]; simp only
    rw [key _ h.2, e0, show ((i : Int) + 2).toNat - i = 2 by omega]; rfl
  split at hg
  · rename_i h
    rw [hg]; simp only
    rw [key _ h.2, e0, show ((i : Int) + 3).toNat - i = 3 by omega]; rfl
  split at hg
  · rename_i h
    rw [hg]; simp only
    rw [key _ h.2, e0, show ((i : Int) + 4).toNat - i = 4 by omega]; rfl
  · rw [hg] at h2; exact absurd rfl h2
end
theorem enc_len {r : Int} (h : 0 ≤ r) : 1 ≤ (encM r).length ∧ (encM r).length ≤ 4 := by
  unfold encM encI
  (repeat' split) <;> simp
theorem letM_lt (c : Int) : letM c < 128 := by
  unfold letM
  (repeat' split) <;> omega
theorem enc_low {r : Int} (h : r < 128) : (encM r).length = 1 := by
  unfold encM encI; rw [if_pos h]; rfl
theorem esc_enc (way : Int) (s : List UInt8) (i : Nat) : (escapeM way s i).2 ≠ 0 → ((encM (escapeM way s i).1).length : Int) ≤ (escapeM way s i).2 := by
  unfold escapeM
  intro h
  split at h
  · simp at h
  rw [if_neg (by assumption)]
  split at h
  · rw [if_pos (by assumption)]
    split at h
    · rw [if_pos (by assumption)]; have := encM_le (numM s (i + 2) 4); simp only; omega
    · simp at h
  rw [if_neg (by assumption)]
  split at h
  · rw [if_pos (by assumption)]
    split at h
    · rw [if_pos (by assumption)]; have := encM_le (numM s (i + 2) 8); simp only; omega
    · simp at h
  rw [if_neg (by assumption)]
  split at h
  · rw [if_pos (by assumption)]
    have h2 : (encM (letM (byteAt s (i + 1 : Nat)))).length = 1 := enc_low (letM_lt _)
    simp only; omega
  · simp at h
theorem next_enc {s : List UInt8} {i : Nat} (h : i < s.length) (h2 : (nextAt s i).2 ≠ 0) : ((encM (nextAt s i).1).length : Int) = (nextAt s i).2 := by
  have hn := nextAt_n s i
  rw [nextAt_enc h h2]
  simp only [List.length_take, List.length_drop]
  omega
/-- What is read is no longer than what is read of. -/
theorem unesc_len (way : Int) (s : List UInt8) (i : Nat) : ∀ l, unescM way s i = .inr l → l.length ≤ s.length - i := by
  induction i using unescM.induct way s with
  | case1 i h h1 h2 => intro l hl; rw [unesc_bad h h1 h2] at hl; cases hl
  | case2 i h h1 h2 ih =>
    intro l hl
    rw [unesc_esc h h1 h2] at hl
    have h3 := esc_enc way s i h2
    have h4 := escapeM_n way s i
    cases hc : unescM way s (i + (escapeM way s i).2.toNat) with
    | inl e => rw [hc] at hl; cases hl
    | inr t =>
      rw [hc] at hl
      simp only [pre, Sum.inr.injEq] at hl
      have := ih t hc
      rw [← hl, List.length_append]
      omega
  | case3 i h h1 h2 => intro l hl; rw [unesc_wrong h h1 h2] at hl; cases hl
  | case4 i h h1 h2 ih =>
    intro l hl
    rw [unesc_next h h1 h2] at hl
    have h3 := next_enc h h2
    have h4 := nextAt_n s i
    cases hc : unescM way s (i + (nextAt s i).2.toNat) with
    | inl e => rw [hc] at hl; cases hl
    | inr t =>
      rw [hc] at hl
      simp only [pre, Sum.inr.injEq] at hl
      have := ih t hc
      rw [← hl, List.length_append]
      omega
  | case5 i h => intro l hl; rw [unesc_end (by omega)] at hl; cases hl; simp
/-! ### At the front of a cut -/
theorem byteAt_drp {s : List UInt8} {i : Nat} (k : Nat) : byteAt (s.drop i) (k : Nat) = byteAt s ((i + k : Nat) : Int) := by
  unfold byteAt
  rw [show ((k : Nat) : Int).toNat = k by omega, show (((i + k : Nat) : Nat) : Int).toNat = i + k by omega, getD_drop]
theorem numR_drop (s : List UInt8) (i : Nat) : ∀ (k j : Nat) (a : Int), numR (s.drop i) j k a = numR s (i + j) k a
  | 0, j, a => rfl
  | k + 1, j, a => by
    unfold numR
    rw [byteAt_drp, numR_drop s i k (j + 1), Nat.add_assoc]
    have : j < (s.drop i).length ↔ i + j < s.length := by rw [List.length_drop]; omega
    simp only [this]
theorem numM_drop (s : List UInt8) (i j k : Nat) : numM (s.drop i) j k = numM s (i + j) k := by unfold numM; rw [numR_drop]
theorem escapeM_drop (way : Int) (s : List UInt8) (i : Nat) : escapeM way (s.drop i) 0 = escapeM way s i := by
  unfold escapeM
  rw [numM_drop, numM_drop, byteAt_drp]
  have h1 : (s.drop i).length ≤ 0 + 1 ↔ s.length ≤ i + 1 := by rw [List.length_drop]; omega
  simp only [h1, Nat.zero_add]
theorem numR_step {s : List UInt8} {i k : Nat} {a : Int} (h : i < s.length) (h1 : 0 ≤ hexV (byteAt s i)) : numR s i (k + 1) a = numR s (i + 1) k (a * 16 + hexV (byteAt s i)) := by rw [numR, if_pos ⟨h, h1⟩]
theorem numR_no {s : List UInt8} {i k : Nat} {a : Int} (h : ¬ (i < s.length ∧ 0 ≤ hexV (byteAt s i))) : numR s i (k + 1) a = none := by rw [numR, if_neg h]
theorem numR_short {s : List UInt8} {i k : Nat} {a : Int} (h : s.length < i + k) (hk : 0 < k) : numR s i k a = none := by
  cases hc : numR s i k a with
  | none => rfl
  | some r => have := numR_fits hc hk; omega
/-- Four more bits. -/
theorem or4 {x c : Int} (hx : 0 ≤ x ∧ x < 268435456) (hc : 0 ≤ c ∧ c < 16) : iOr .i64 (iShl .i64 x 4) c = x * 16 + c := by
  have h1 : iShl .i64 x 4 = ((x.toNat * 2 ^ 4 : Nat) : Int) := by
    unfold iShl
    rw [show (min (Int.toNat 4) (IntKind.i64.bits)) = 4 by decide, show x * 2 ^ 4 = x * 16 by rfl, wrap64 (by omega) (by omega)]
    omega
  have h2 : c = ((c.toNat : Nat) : Int) := by omega
  rw [h1, h2, or_nat (by omega) (by show _ < 2 ^ 64; omega), wrap64 (by omega) (by omega)]
  omega
theorem pow16 {i k : Nat} (h : i ≤ k) : (16 : Nat) ^ i ≤ 16 ^ k := Nat.pow_le_pow_right (by omega) h
/-! ### The letters -/
abbrev lIdx (c : Int) : Int := Lib.indexByte lettersB c.toNat.toUInt8
theorem lIdx_in {c : Int} (h : 0 ≤ c ∧ c < 256) : (0 ≤ lIdx c → lIdx c < 8 ∧ IntKind.i32.wrap (byteAt meantB (lIdx c)) = letM c ∧ 0 ≤ letM c) ∧ (lIdx c < 0 → letM c = -1) := by
  have := int_all (p := fun c => decide ((0 ≤ lIdx c → lIdx c < 8 ∧ IntKind.i32.wrap (byteAt meantB (lIdx c)) = letM c ∧ 0 ≤ letM c) ∧ (lIdx c < 0 → letM c = -1))) (by decide +kernel) h
  simpa only [decide_eq_true_eq] using this
theorem numR_ge {s : List UInt8} {i k : Nat} {a r : Int} (h : numR s i k a = some r) (ha : 0 ≤ a) : 0 ≤ r := by
  induction k generalizing i a with
  | zero => simp only [numR, Option.some.injEq] at h; omega
  | succ k ih =>
    unfold numR at h
    split at h
    · exact ih h (by omega)
    · cases h
/-- The place of an error lies within. -/
theorem unesc_place (way : Int) (s : List UInt8) (i : Nat) : ∀ e, unescM way s i = .inl e → e.1 < s.length := by
  induction i using unescM.induct way s with
  | case1 i h h1 h2 => intro l hl; rw [unesc_bad h h1 h2] at hl; cases hl; exact h
  | case2 i h h1 h2 ih =>
    intro l hl
    rw [unesc_esc h h1 h2] at hl
    cases hc : unescM way s (i + (escapeM way s i).2.toNat) with
    | inl e => rw [hc] at hl; simp only [pre, Sum.inl.injEq] at hl; subst hl; exact ih e hc
    | inr t => rw [hc] at hl; cases hl
  | case3 i h h1 h2 => intro l hl; rw [unesc_wrong h h1 h2] at hl; cases hl; exact h
  | case4 i h h1 h2 ih =>
    intro l hl
    rw [unesc_next h h1 h2] at hl
    cases hc : unescM way s (i + (nextAt s i).2.toNat) with
    | inl e => rw [hc] at hl; simp only [pre, Sum.inl.injEq] at hl; subst hl; exact ih e hc
    | inr t => rw [hc] at hl; cases hl
  | case5 i h => intro l hl; rw [unesc_end (by omega)] at hl; cases hl
end Go.Our
/- strings.Builder: Write. Conditions: none. -/
set_option linter.unusedVariables false
set_option linter.unusedSimpArgs false
set_option maxRecDepth 100000
namespace Go.Proofs.YtillkgjdbnjnoaaGreatDoor
open Go.Sx Go.RowKit
section
variable {P : Program}
/-- The law of an append of a slice's bytes, with the number of draws. -/
theorem append_sl (w : World) (t ty e : TypeId) (i : TypeInfo) (ht : P.underlying t = some (.slice e)) (hi : P.info? e = some i) (hz : i.zero = some (.int .u8 0)) (hsize : i.size = 1) (hby : i.bytes = 1)
    (v : Value) (n : Nat) (xs : List Value) (hown : w.ownsRowF 0 e 1 v n xs) (ad : Addr) (m c : Nat) (news : List Value) (hm0 : 0 < m) (hl : news.length = m) (hnews : ∀ j u, news[j]? = some u → w.cell? (ad.add j) = some u) (h1 : ∀ u ∈ news, u.oneCell' = true)
    (h63 : n + m ≤ 140737488355328) :
    ∃ v' w', (Builtin.append_ #[t, t] ty #[v, .slice (some ad) m c]).run P w = .ok v' w' ∧ w'.ownsRowF 0 e 1 v' (n + m) (xs ++ news) ∧ w.grownBy w' v.ownBlock ∧ w.drawn ≤ w'.drawn ∧ ∀ k, v'.ownBlock = some k → v.ownBlock = some k ∨ w.heap.size ≤ k := by
  have hm : n + m ≤ maxLen := by unfold maxLen; omega
  obtain ⟨v', w', hr, h2, h3, _⟩ := run_append_ownF (P := P) w 0 t ty e i (.int .u8 0) 1 1 ht hi hz hsize hby rfl (by omega) v n xs hown ad m c news (by omega) hnews h1 hm (by omega) (Nat.zero_le _)
  refine ⟨v', w', hr, h2, h3, ?_⟩
  rcases hown.2 with ⟨rfl, rfl⟩ | ⟨g, cap, cur, fz, rfl, hbg, hg, hfz, hnc, hcm, hcs, htake⟩
  · rw [run_append_nil (P := P) w t ty e i (.int .u8 0) ht hi hz ad m c news (by rw [hsize]; omega) hnews hm0 (by omega) (by rw [hby]; omega)] at hr
    injection hr with hv hr
    rw [← hr, ← hv]
    refine ⟨Nat.le_succ _, fun k hk => .inr ?_⟩
    simp only [Value.ownBlock, Option.some.injEq] at hk
    omega
  · by_cases hroom : n + m ≤ cap
    · rw [run_append_roomF (P := P) w t ty e i ht hi g n cap cur fz hg (by rw [hsize]; exact hfz) ad m c news (by rw [hsize]; omega) hnews h1 hroom (by rw [hsize]; omega)] at hr
      injection hr with hv hr
      rw [← hr, ← hv]; exact ⟨Nat.le_refl _, fun k hk => .inl hk⟩
    · have hxl : xs.length = n := by simpa using hown.1
      have holds : ∀ j u, xs[j]? = some u → w.cell? ((⟨g, 0, none⟩ : Addr).add j) = some u := hown.cells (g := g) rfl
      rw [run_append_grow (P := P) w t ty e i (.int .u8 0) ht hi hz ⟨g, 0, none⟩ n cap xs (by rw [hsize]; simpa using hxl) holds ad m c news (by rw [hsize]; omega) hnews (by omega) (by omega) (by rw [hby]; exact growslice_fits (by omega) (by omega))] at hr
      injection hr with hv hr
      rw [← hr, ← hv]
      refine ⟨Nat.le_succ _, fun k hk => .inr ?_⟩
      simp only [Value.ownBlock, Option.some.injEq] at hk
      omega
theorem wpList_append_sl {ops : Array Oper} {rest : List Oper} {o : Oper} {a : Act} {w : World} {Q : Exit → Act → World → Prop} (hgd : o.guard = none) (sl x : Operand) (t : TypeId)
    (ho : o.op = .call { callee := .builtin .append, args := #[sl, x], argTypes := #[t, t] })
    (e : TypeId) (i : TypeInfo) (ht : P.underlying t = some (.slice e)) (hi : P.info? e = some i) (hz : i.zero = some (.int .u8 0)) (hsize : i.size = 1) (hby : i.bytes = 1)
    (v : Value) (n : Nat) (xs : List Value) (hs : a.eval sl = v) (hown : w.ownsRowF 0 e 1 v n xs) (ad : Addr) (m c : Nat) (news : List Value) (hx : a.eval x = .slice (some ad) m c) (hm0 : 0 < m) (hl : news.length = m) (hnews : ∀ j u, news[j]? = some u → w.cell? (ad.add j) = some u) (h1 : ∀ u ∈ news, u.oneCell' = true)
    (h63 : n + m ≤ 140737488355328)
    (h : ∀ v' w', w'.ownsRowF 0 e 1 v' (n + m) (xs ++ news) → w.grownBy w' v.ownBlock → w.drawn ≤ w'.drawn → (∀ k, v'.ownBlock = some k → v.ownBlock = some k ∨ w.heap.size ≤ k) → wpList P ops Q rest (a.put o.dst v') w') : wpList P ops Q (o :: rest) a w := by
  refine wpList_plain hgd fun K hK => ?_
  obtain ⟨v', w', hr, h2, h3, h4, h5⟩ := append_sl (P := P) w t o.type e i ht hi hz hsize hby v n xs hown ad m c news hm0 hl hnews h1 h63
  unfold Oper.wp execOp
  simp only [ho, resolve, invoke, builtin, Sem.run_bind, Sem.run_pure, Result.andThen_ok, List.map_toArray, List.map_cons, List.map_nil, hs, hx, hr]
  exact hK _ _ (h v' w' h2 h3 h4 h5)
end
/-- At a place the bytes of a text are read. -/
structure ReadsB (w : World) (g o : Nat) (s : List UInt8) : Prop where
  out : ∀ j u, (Lib.byteCells s)[j]? = some u → w.cell? ((⟨g, o, none⟩ : Addr).add j) = some u
set_option maxHeartbeats 1000000 in
theorem wr_any (b g o c : Nat) (bs : List Value) (s : List UInt8) (hs0 : s ≠ []) (w : World) (h : Lib.IsBuilderF TB TU 0 b bs w) (hlen : bs.length + s.length ≤ 140737488355328) (hgb : g ≠ b)
    (hcells : ReadsB w g o s) :
    Calls Tryz.prog 92 #[.pointer (some ⟨b, 0, none⟩), .slice (some ⟨g, o, none⟩) s.length c] w fun e w' => e = .returned (.tuple #[.int .i64 s.length, .nilIface]) ∧ Lib.BuilderAtF TB TU 0 b (.pointer (some ⟨b, 0, none⟩)) (bs ++ Lib.byteCells s) w' ∧ Stays b w w' := by
  obtain ⟨i0, hi, hz0, hz1, hz2⟩ := info_parts (show (Tryz.prog.info? TU).map (fun i => (i.zero, i.size, i.bytes)) = some (some (.int .u8 0), 1, 1) by kernel_rfl)
  go_enter Tryz.func92, Tryz.ntmps92
  go_wp2_with (go_at_call 54; refine (cc_any b bs _ h).mono ?_)
  rintro e w1 ⟨rfl, h1, hw1⟩
  obtain ⟨hB, v, hbk, hown, hne⟩ := h1
  have c0 : w1.cell? ⟨b, 0, none⟩ = some (.pointer (some ⟨b, 0, none⟩)) := by rw [Lib.cell_of_heap hbk]; rfl
  have c1 : w1.cell? ⟨b, 1, none⟩ = some v := by rw [Lib.cell_of_heap hbk]; rfl
  have hcells1 : ReadsB w1 g o s := by
    refine ⟨fun j u hu => ?_⟩
    rw [← hcells.out j u hu]
    rcases hw1 with rfl | rfl
    · rfl
    · apply World.cell?_setCell_other
      intro e
      rw [Addr.add_lit] at e
      exact hgb (congrArg Addr.block e).symm
  go_wp2_with (at_builtin; refine wpList_append_sl rfl _ _ 63 rfl TU i0 Tryz.underlying63 hi hz0 hz1 hz2 _ _ _ rfl hown ⟨g, o, none⟩ s.length c (Lib.byteCells s) rfl (List.length_pos_iff.2 hs0) (Lib.byteCells_length s) hcells1.out ?c2 ?c3 ?_)
  case c2 => intro u hu; simp only [Lib.byteCells, List.mem_map] at hu; obtain ⟨x, _, rfl⟩ := hu; rfl
  case c3 => exact hlen
  intro v' w2 hown' hgrow hdr hnew
  have hlt : b < w1.heap.size := (Array.getElem?_eq_some_iff.1 hbk).1
  have hb2 : w2.heap[b]? = some (.cells #[.pointer (some ⟨b, 0, none⟩), v] TB (0, 0)) := by
    rw [hgrow.block b hlt (fun e => hne e.symm)]
    exact hbk
  have d0 : w2.cell? ⟨b, 0, none⟩ = some (.pointer (some ⟨b, 0, none⟩)) := by rw [Lib.cell_of_heap hb2]; rfl
  have d1 : w2.cell? ⟨b, 1, none⟩ = some v := by rw [Lib.cell_of_heap hb2]; rfl
  have f1 : w2.frozen? ⟨b, 1, none⟩ = false := Lib.frozen_of_heap hb2 1
  obtain ⟨ao, n', cap, rfl⟩ : ∃ ao n' cap, v' = .slice ao n' cap := by
    rcases hown'.2 with ⟨hv, _⟩ | ⟨g, cap, cur, fz, hv, _⟩
    · exact ⟨_, _, _, hv⟩
    · exact ⟨_, _, _, hv⟩
  have other : ∀ k, k ≠ b → w1.heap[k]? = w.heap[k]? := by
    intro k hk
    rcases hw1 with rfl | rfl
    · rfl
    · exact Below.heap_setCell _ _ _ _ (fun e => hk (by simp [e]))
  have hsz1 : w1.heap.size = w.heap.size := by rcases hw1 with rfl | rfl <;> simp [World.setCell]
  have hkid : ∀ k, v.ownBlock = some k → kid w b (.bld TB TU []) k := by
    intro k hk
    simp only [kid]
    rcases hw1 with rfl | rfl
    · exact ⟨_, _, _, v, hbk, rfl, hk⟩
    · simp only [World.setCell, Array.getElem?_modify, if_pos, Option.map_eq_some_iff] at hbk
      obtain ⟨o, ho, hoc⟩ := hbk
      cases o with
      | cells arr T fz =>
        simp only [Obj.cells.injEq] at hoc
        obtain ⟨h1, h2, h3⟩ := hoc
        refine ⟨arr, T, fz, v, ho, ?_, hk⟩
        have := congrArg (fun a => a[1]?) h1
        simpa using this
      | _ => cases hoc
  go_wp2
  go_ret2
  refine ⟨rfl, ?_, ?_⟩
  · exact Lib.BuilderAtF.put (T := TB) (e := TU) hB hb2 (bs' := bs ++ Lib.byteCells s) (by simpa [Lib.byteCells_length] using hown') (by decide)
  · have w1os : w1.os = w.os ∧ w1.tape = w.tape ∧ w1.output = w.output ∧ w1.drawn = w.drawn := by rcases hw1 with rfl | rfl <;> exact ⟨rfl, rfl, rfl, rfl⟩
    refine ⟨hgrow.os.trans w1os.1, hgrow.tape.trans w1os.2.1, hgrow.output.trans w1os.2.2.1, by have h1 := w1os.2.2.2; show w.drawn ≤ w2.drawn; omega, ?_, fun k hk hkb hkk => ?_, fun k hk => ?_⟩
    · have := hgrow.size
      simp only [World.setCell, Array.size_modify]
      omega
    · have e1 : (w2.setCell ⟨b, 1, none⟩ (.slice ao n' cap)).heap[k]? = w2.heap[k]? := Below.heap_setCell _ _ _ _ (fun e => hkb (by simp [e]))
      rw [e1, hgrow.block k (by omega) (fun e => hkk (hkid k e.symm)), other k hkb]
    · have e2 : (w2.setCell ⟨b, 1, none⟩ (.slice ao n' cap)).heap[b]? = some (.cells #[.pointer (some ⟨b, 0, none⟩), .slice ao n' cap] TB (0, 0)) := by
        simp [World.setCell, Array.getElem?_modify, hb2]
      simp only [kid] at hk
      obtain ⟨arr, T, fz, u, k1, k2, k3⟩ := hk
      rw [e2] at k1
      injection k1 with k1
      injection k1 with k1
      subst k1
      simp at k2
      subst k2
      rcases hnew k k3 with h1 | h1
      · exact .inl (hkid k h1)
      · exact .inr (by omega)
/-- From what a function does to a builder, beside memory that it only looks at, to the engine's contract. -/
theorem bld_doesS {f : FuncId} {rest : List SV} {l l' : List UInt8} {r : SV} {k : Nat} {S : Hps} (hcall : ∀ args w, (callFunc f args).run Tryz.prog w = .ok (.enter f args) w)
    (h : ∀ (η : Env) (b : Nat) (vs : List Value) (w : World), η.length = k → DenL η rest vs → Lib.IsBuilderF TB TU 0 b (Lib.byteCells l) w → (∀ i hp, lkpB (.loc i) (shB S) = some hp → HpSat η w false (.loc i) hp ∧ ∀ n, feet η w (.loc i) hp n → n ≠ b) →
      Calls Tryz.prog f ⟨.pointer (some ⟨b, 0, none⟩) :: vs⟩ w fun e w' => ∃ v, e = .returned v ∧ Den η r v ∧ Lib.IsBuilderF TB TU 0 b (Lib.byteCells l') w' ∧ Stays b w w') :
    Does Tryz.prog tab f k (.ptr (.loc 0) 0 0 0 :: rest) [(0, .bld TB TU l)] S fun r' O nx => r' = r ∧ O = [(0, .bld TB TU l')] ∧ nx = k := by
  refine ⟨fun M vs hP hT hF hS H hd => .inl ⟨f, by rw [hP]; exact hcall _ _, ?_⟩⟩
  obtain ⟨hsat, hfeet⟩ := H.own.1 0 _ rfl
  simp only [HpSat] at hsat
  obtain ⟨e, he, hb, hB⟩ := hsat
  simp only [DenL] at hd
  obtain ⟨u, us, rfl, hu, hus⟩ := hd
  simp only [Den] at hu
  obtain ⟨e', he', rfl⟩ := hu
  rw [he] at he'; injection he' with he'; injection he' with he'; subst he'
  rw [hP, hb]
  have hFb : M.F e.g := by rw [hF]; exact ⟨0, _, rfl, feet.own he⟩
  refine (h M.η0 e.g us M.w0 H.len hus hB fun i hp hi => ?_).mono fun en w' => ?_
  · obtain ⟨q1, q2⟩ := H.sok (.loc i) hp (by simp only [lkS, hS]; exact hi)
    exact ⟨q1, fun n hn e => (q2 n hn).2 (e ▸ hFb)⟩
  rintro ⟨v, rfl, hv, hB', hst⟩
  refine ⟨v, rfl, r, _, k, M.η0, ⟨rfl, rfl, rfl⟩, List.prefix_rfl, ⟨List.prefix_rfl, H.len, ⟨?_, ?_⟩, ⟨hst.os, hst.tape, hst.output, hst.drawn, hst.size, ?_⟩, H.sok⟩, hv⟩
  · intro i g hi
    rw [lkp_cons] at hi
    split at hi
    · rename_i ei; subst ei; injection hi with hi; subst hi
      refine ⟨⟨e, he, hb, hB'⟩, fun k f => ?_⟩
      rcases f.of he with rfl | f
      · exact hfeet _ (feet.own he)
      · rcases hst.kids k f with f | f
        · exact hfeet k ⟨e, he, .inr f⟩
        · exact .inr f
    · simp [lkp] at hi
  · intro i j g g' k hi hj hij
    rw [lkp_cons] at hi hj
    split at hi
    · split at hj
      · rename_i e1 e2; exact (hij (e1.trans e2.symm)).elim
      · simp [lkp] at hj
    · simp [lkp] at hi
  · intro k hk hFk
    refine hst.block k hk (fun hkb => hFk (hkb ▸ hFb)) fun f => hFk ?_
    rw [hF]; exact ⟨0, _, rfl, e, he, .inr f⟩
theorem write_does (l s : List UInt8) (hs0 : s ≠ []) (hlen : l.length + s.length ≤ 140737488355328) :
    Does Tryz.prog tab 92 2 [.ptr (.loc 0) 0 0 0, .sl (.loc 1) 0 1 s.length none] [(0, .bld TB TU l)] [(1, .rows 1 (s.map Sx.bytesRow))] fun r O nx => r = .tup [.int .i64 s.length, .val .nilIface] ∧ O = [(0, .bld TB TU (l ++ s))] ∧ nx = 2 := by
  refine bld_doesS Tryz.call92 fun η b vs w hk hd hB hS => ?_
  simp only [DenL] at hd
  obtain ⟨u, us, rfl, hu, rfl⟩ := hd
  obtain ⟨h1, h2⟩ := hS 1 (.rows 1 (s.map Sx.bytesRow)) rfl
  simp only [Den] at hu
  simp only [HpSat] at h1
  rcases h1 with ⟨_, h1⟩ | ⟨e, arr, T, fz, he, hh, _, hrow⟩
  · exact absurd (List.map_eq_nil_iff.1 h1) hs0
  rcases hu with ⟨hu, _⟩ | ⟨e', o, he', rfl, _, _, ho⟩
  · rw [he] at hu; cases hu
  rw [he] at he'; injection he' with he'; injection he' with he'; subst he'
  have ho := ho (by simp)
  simp only [Nat.zero_mul, Nat.add_zero] at ho
  subst ho
  have hgb : e.g ≠ b := h2 _ (feet.own he)
  refine (wr_any b e.g e.base _ (Lib.byteCells l) s hs0 w hB (by rw [Lib.byteCells_length]; exact hlen) hgb ⟨fun j u hu => ?_⟩).mono fun en w' => ?_
  · simp only [Lib.byteCells, List.getElem?_map, Option.map_eq_some_iff] at hu
    obtain ⟨x, hx, rfl⟩ := hu
    obtain ⟨_, hc⟩ := hrow j (Sx.bytesRow x) (by rw [List.getElem?_map, hx]; rfl)
    obtain ⟨v, hv, _, hd⟩ := hc 0 (.int .u8 (x.toNat : Int)) rfl
    simp only [Den] at hd
    subst hd
    simp only [Nat.mul_one, Nat.add_zero] at hv
    rw [Addr.add_lit]
    simp only [World.cell?, hh]
    simpa using hv
  · rintro ⟨rfl, h1, h2⟩
    refine ⟨_, rfl, ?_, .inr ?_, h2⟩
    · simp only [Den, DenL]
      exact ⟨_, rfl, _, _, rfl, rfl, _, _, rfl, ⟨rfl, rfl⟩, rfl⟩
    · have : Lib.byteCells (l ++ s) = Lib.byteCells l ++ Lib.byteCells s := by simp [Lib.byteCells]
      rw [this]; exact h1
end Go.Proofs.YtillkgjdbnjnoaaGreatDoor
/- Errors with a place: names of their types, and the calls that make them. Conditions: none. -/
set_option linter.unusedVariables false
namespace Go.Proofs.YtillkgjdbnjnoaaGreatDoor
open Go.Sx
abbrev TBE : TypeId := 70
abbrev TER : TypeId := 29
/-- An error with a place, in a box of its own. -/
def errSV (k : Nat) : SV := .ifc TBE (.ptr (.loc k) 0 0 0)
def errHp (at_ code : Int) : Hp := .box [.int .i64 at_, .ifc TER (.int .i64 code)]
def NewErr (k : Nat) (at_ code : Int) : SV → Hps → Nat → Prop := fun r O nx => r = errSV k ∧ O = [(k, errHp at_ code)] ∧ nx = k + 1
theorem CALL.err {M : Mx} {f : FuncId} {args : List SV} {O : Hps} {nx : Nat} {K : SV → Hps → Nat → Prop} {a e : Int} (sp : Does M.P M.C.T f 0 args [] [] (NewErr 0 a e)) (hp : plainL args = true) (hK : K (errSV nx) ((nx, errHp a e) :: O) (nx + 1)) : CALL M f args O nx K := by
  refine CALL.of [] sp rfl (fun i hi => by cases hi) (renL_plain _ hp).symm (plainL_below 0 hp) (fun p hp => by cases hp) (fun j hj => by cases hj) (fun p hp => by cases hp) ?_
  rintro r' O' nx' ⟨rfl, rfl, rfl⟩
  simp only [errSV, errHp, ren, renB, renO, renH, renL, cname_ge (L := []) (nx := nx) (k := 0) rfl, namesOf, List.map_nil, outside_nil, List.cons_append, List.nil_append]
  exact hK
/-- The same, where the error is a tuple's last. -/
def NewErrT (vs : List SV) (at_ code : Int) : SV → Hps → Nat → Prop := fun r O nx => r = .tup (vs ++ [errSV 0]) ∧ O = [(0, errHp at_ code)] ∧ nx = 1
theorem renL_app (σ : Nat → Nat) : ∀ a b : List SV, renL σ (a ++ b) = renL σ a ++ renL σ b
  | [], b => rfl
  | x :: a, b => by simp only [List.cons_append, renL, renL_app σ a b]
theorem CALL.errT {M : Mx} {f : FuncId} {args : List SV} {O : Hps} {nx : Nat} {K : SV → Hps → Nat → Prop} {a e : Int} (vs : List SV) (sp : Does M.P M.C.T f 0 args [] [] (NewErrT vs a e)) (hp : plainL args = true) (hv : plainL vs = true) (hK : K (.tup (vs ++ [errSV nx])) ((nx, errHp a e) :: O) (nx + 1)) : CALL M f args O nx K := by
  refine CALL.of [] sp rfl (fun i hi => by cases hi) (renL_plain _ hp).symm (plainL_below 0 hp) (fun p hp => by cases hp) (fun j hj => by cases hj) (fun p hp => by cases hp) ?_
  rintro r' O' nx' ⟨rfl, rfl, rfl⟩
  simp only [errSV, errHp, ren, renB, renO, renH, renL, renL_app, renL_plain _ hv, cname_ge (L := []) (nx := nx) (k := 0) rfl, namesOf, List.map_nil, outside_nil, List.cons_append, List.nil_append]
  exact hK
end Go.Proofs.YtillkgjdbnjnoaaGreatDoor
/- utf.Unescape, walked. Conditions: none. -/
set_option linter.unusedVariables false
set_option linter.unusedSimpArgs false
set_option maxRecDepth 20000
namespace Go.Proofs.YtillkgjdbnjnoaaGreatDoor
open Go.Sx Go.Our
theorem wrong_does (a e : Int) : Does Tryz.prog tab 35 0 [.int .i64 a, .int .i64 e] [] [] (NewErr 0 a e) := by
  refine Does.enter tabOK (g := 35) (fn := Tryz.f35) Tryz.call35 Tryz.func35 rfl 11 rfl rfl [.tmp 4] rfl ?_
  intro w0 F η0 h0
  conv => whnf
  repeat' ((first | with_reducible refine IF.tt ?_ | with_reducible refine IF.ff ?_ | refine NEED.au ?_ | ((with_reducible apply GET.at); rfl) | ((with_reducible apply GETG.at); rfl) | ((with_reducible refine UNK.mk (fun h => ?_) ?_) <;> try (exfalso; omega)) | ((with_reducible refine IF.mk (fun h => ?_) (fun h => ?_)) <;> (try simp (disch := omega) only [hsB, hsC, lnB, wrap64, wrap32, simprocAttr] at h) <;> try (exfalso; omega))) <;> conv => whnf)
  refine FIN.at h0 [0] (errSV 0) [(0, errHp a e)] rfl rfl rfl (by first | rfl | (simp only [belowO, belowH, plainLL_below _ (plainStrs _), Bool.and_self, Bool.and_true] <;> rfl)) (by repeat' (first | exact trivial | exact (renH_plain _ (h := .rows _ _) (plainStrs _)).symm | (with_reducible rfl) | (exact (renH_plain _ (h := .rows _ _) (plainStrs _)).trans (renH_plain _ (h := .rows _ _) (plainStrs _)).symm) | (exact rows_eq (plainStrs _) (by simp [strRow, ofVal, List.take_of_length_le])) | exact rfl | ((conv => whnf); refine ⟨?_, ?_⟩))) rfl ?_
  exact ⟨rfl, rfl, rfl⟩
theorem hex_does (c : Int) (hc : 0 ≤ c ∧ c < 256) : Does Tryz.prog tab 125 0 [.int .u8 c] [] [] (Val (.int .i64 (hexV c))) := by
  refine Does.enter tabOK (g := 125) (fn := Tryz.f125) Tryz.call125 Tryz.func125 rfl 35 rfl rfl [.tmp 2] rfl ?_
  intro w0 F η0 h0
  conv => whnf
  repeat' ((first | with_reducible refine IF.tt ?_ | with_reducible refine IF.ff ?_ | refine NEED.au ?_ | ((with_reducible apply GET.at); rfl) | ((with_reducible apply GETG.at); rfl) | ((with_reducible refine UNK.mk (fun h => ?_) ?_) <;> try (exfalso; omega)) | ((with_reducible refine IF.mk (fun h => ?_) (fun h => ?_)) <;> (try simp (disch := omega) only [hsB, hsC, lnB, wrap64, wrap32, simprocAttr] at h) <;> try (exfalso; omega))) <;> conv => whnf)
  all_goals
    refine FIN.value h0 rfl (congrArg (SV.int _) ?_)
    unfold hexV
    simp (disch := omega) only [↓if_pos, ↓if_neg, wrapu8, wrap64]
def numS (s : List UInt8) (k : Nat) : SV := match numR s 0 k 0 with
  | none => .tup [.int .i32 0, .bool false]
  | some r => .tup [.int .i32 (IntKind.i32.wrap r), .bool (decide (r ≤ 1114111) && scalarM (IntKind.i32.wrap r))]
theorem number_does (s : List UInt8) (k : Nat) (hk : k = 4 ∨ k = 8) (hs : Sm s) : Does Tryz.prog tab 116 0 [.str s, .int .i64 (k : Int)] [] [] (Val (numS s k)) := by
  refine Does.enter tabOK (g := 116) (fn := Tryz.f116) Tryz.call116 Tryz.func116 rfl 37 rfl rfl [.tmp 4, .tmp 5] rfl ?_
  intro w0 F η0 h0
  conv => whnf
  repeat' ((first | with_reducible refine IF.tt ?_ | with_reducible refine IF.ff ?_ | refine NEED.au ?_ | ((with_reducible apply GET.at); rfl) | ((with_reducible apply GETG.at); rfl) | ((with_reducible refine UNK.mk (fun h => ?_) ?_) <;> try (exfalso; omega)) | ((with_reducible refine IF.mk (fun h => ?_) (fun h => ?_)) <;> (try simp (disch := omega) only [hsB, hsC, lnB, wrap64, wrap32, simprocAttr] at h) <;> try (exfalso; omega))) <;> conv => whnf)
  · refine FIN.value h0 rfl ?_
    unfold numS; rw [numR_short (by omega) (by omega)]
  refine LOOP.go tabOK [0, 13] (X := Nat × Int) (fun x => x.1 ≤ k ∧ (0 ≤ x.2 ∧ x.2 < ((16 ^ x.1 : Nat) : Int)) ∧ numR s 0 k 0 = numR s x.1 (k - x.1) x.2) (fun x => [(14, .int .i64 (x.1 : Int)), (6, .int .i64 x.2)]) (fun _ => []) 0 (fun x => k - x.1) (0, 0) ⟨by simp, by simp, rfl⟩ ?_
  conv => whnf
  refine ⟨by (refine GOES.cutting h0 rfl rfl rfl (by first | rfl | simp [belowO, belowH, plainLL_below, plainLL_map, plainL, plain]) ?_ ?_ <;> (repeat' (first | (with_reducible rfl) | (exact congrArg (fun n => SV.sl _ _ _ n _) (by simp)) | (exact congrArg (Hp.rows _) (by simp)) | (exact congrArg (SV.int _) (by first | omega | (simp (disch := omega) only [lnB, wrap64, wrap32] <;> omega) | (simp; done) | (simp <;> omega))) | ((conv => whnf); refine ⟨?_, ?_⟩) | exact trivial | (simp; done) | rfl))), ?_⟩
  rintro ⟨i, n⟩ ⟨hi, hn, hc⟩
  dsimp only at hi hn hc ⊢
  have hp8 : (16 : Nat) ^ i ≤ 4294967296 := Nat.le_trans (pow16 (show i ≤ 8 by omega)) (by decide)
  conv => whnf
  have hb := byteAt_lt s i
  have hx := hexV_lt (byteAt s i)
  repeat' ((first | with_reducible refine IF.tt ?_ | with_reducible refine IF.ff ?_ | refine CALL.value (hex_does _ hb) rfl rfl ?_ | refine CALL.value (scalar_does _) rfl rfl ?_ | refine NEED.au ?_ | ((with_reducible apply GET.at); rfl) | ((with_reducible apply GETG.at); rfl) | ((with_reducible refine UNK.mk (fun h => ?_) ?_) <;> try (exfalso; omega)) | ((with_reducible refine IF.mk (fun h => ?_) (fun h => ?_)) <;> (try simp (disch := omega) only [hsB, hsC, lnB, wrap64, wrap32, simprocAttr] at h) <;> try (exfalso; omega))) <;> conv => whnf)
  · refine FIN.value h0 rfl ?_
    unfold numS
    rw [hc, show k - i = (k - (i + 1)) + 1 by omega, numR_no (by omega)]
  · have hp7 : (16 : Nat) ^ i ≤ 268435456 := Nat.le_trans (pow16 (show i ≤ 7 by omega)) (by decide)
    refine ⟨(i + 1, n * 16 + hexV (byteAt s i)), ⟨by simp only; omega, ?_, ?_⟩, by simp only; omega, ?_⟩
    · simp only [Nat.pow_succ]; omega
    · simp only
      rw [hc, show k - i = (k - (i + 1)) + 1 by omega, numR_step (by omega) (by omega)]
    · dsimp only
      rw [or4 (by omega) (by omega)]
      conv => whnf
      (refine GOES.cutting h0 rfl rfl rfl (by first | rfl | simp [belowO, belowH, plainLL_below, plainLL_map, plainL, plain]) ?_ ?_ <;> (repeat' (first | (with_reducible rfl) | (exact congrArg (fun n => SV.sl _ _ _ n _) (by simp)) | (exact congrArg (Hp.rows _) (by simp)) | (exact congrArg (SV.int _) (by first | omega | (simp (disch := omega) only [lnB, wrap64, wrap32] <;> omega) | (simp; done) | (simp <;> omega))) | ((conv => whnf); refine ⟨?_, ?_⟩) | exact trivial | (simp; done) | rfl)))
  all_goals
    have hz : numR s 0 k 0 = some n := by rw [hc, show k - i = 0 by omega, numR]
    unfold numS
    rw [hz]
    refine FIN.value h0 rfl ?_
    simp (disch := omega) only [hsB, decide_eq_true, decide_eq_false, Bool.true_and, Bool.false_and]
theorem number_yes {s : List UInt8} {k : Nat} (hk : k = 4 ∨ k = 8) (hs : Sm s) (h : 0 ≤ numM s 0 k) : Does Tryz.prog tab 116 0 [.str s, .int .i64 (k : Int)] [] [] (Val (.tup [.int .i32 (numM s 0 k), .bool true])) := by
  have := number_does s k hk hs
  unfold numS at this
  have hsc := numM_scalar h
  unfold numM at *
  cases hc : numR s 0 k 0 with
  | none => rw [hc] at h; simp at h
  | some r =>
    rw [hc] at this h hsc
    simp only at this h hsc ⊢
    split at h
    · rename_i h1
      rw [if_pos h1]
      obtain ⟨h2, h3, h4⟩ := h1
      have hw : IntKind.i32.wrap r = r := wrap32 (by omega) (by omega)
      rw [hw, show scalarM r = true from scalarM_true.2 ⟨h2, h3, h4⟩, decide_eq_true h3] at this
      exact this
    · omega
theorem number_no {s : List UInt8} {k : Nat} (hk : k = 4 ∨ k = 8) (hs : Sm s) (h : numM s 0 k < 0) : ∃ x, Does Tryz.prog tab 116 0 [.str s, .int .i64 (k : Int)] [] [] (Val (.tup [.int .i32 x, .bool false])) := by
  have := number_does s k hk hs
  unfold numS at this
  unfold numM at *
  cases hc : numR s 0 k 0 with
  | none => rw [hc] at this; exact ⟨_, this⟩
  | some r =>
    have hr := numR_ge hc (by omega)
    rw [hc] at this h
    simp only at this h
    split at h
    · rename_i h1; exact absurd h1.1 (by omega)
    · rename_i h1
      refine ⟨IntKind.i32.wrap r, ?_⟩
      have hz : (decide (r ≤ 1114111) && scalarM (IntKind.i32.wrap r)) = false := by
        by_cases h2 : r ≤ 1114111
        · rw [show IntKind.i32.wrap r = r from wrap32 (by omega) (by omega), decide_eq_true h2, Bool.true_and]
          exact decide_eq_false h1
        · rw [decide_eq_false h2, Bool.false_and]
      rw [hz] at this
      exact this
theorem number_ok (s : List UInt8) (k : Nat) (hk : k = 4 ∨ k = 8) (hs : Sm s) : ∃ x b, Does Tryz.prog tab 116 0 [.str s, .int .i64 (k : Int)] [] [] (Val (.tup [.int .i32 x, .bool b])) ∧ (b = true → 0 ≤ numM s 0 k ∧ x = numM s 0 k) ∧ (b = false → numM s 0 k < 0) := by
  rcases Int.lt_or_le (numM s 0 k) 0 with h | h
  · obtain ⟨x, hx⟩ := number_no hk hs h
    exact ⟨x, false, hx, fun h => (by cases h), fun _ => h⟩
  · exact ⟨_, true, number_yes hk hs h, fun _ => ⟨h, rfl⟩, fun h => (by cases h)⟩
theorem needL {c : Int} (h : 0 ≤ Lib.indexByte [116, 98, 110, 114, 102, 34, 39, 92] c.toNat.toUInt8) (hl : 0 ≤ lIdx c → lIdx c < 8 ∧ IntKind.i32.wrap (byteAt meantB (lIdx c)) = letM c ∧ 0 ≤ letM c) :
    0 ≤ Lib.indexByte [116, 98, 110, 114, 102, 34, 39, 92] c.toNat.toUInt8 ∧ Lib.indexByte [116, 98, 110, 114, 102, 34, 39, 92] c.toNat.toUInt8 < ((meantB.length : Nat) : Int) :=
  ⟨h, (hl h).1⟩
theorem escape1_does (s : List UInt8) (way : Int) (hs : Sm s) : Does Tryz.prog tab 91 0 [.str s, .int .i64 way] [] [] (Val (.tup [.int .i32 (escapeM way s 0).1, .int .i64 (escapeM way s 0).2])) := by
  refine Does.enter tabOK (g := 91) (fn := Tryz.f91) Tryz.call91 Tryz.func91 rfl 48 rfl rfl [.tmp 4, .tmp 5] rfl ?_
  intro w0 F η0 h0
  conv => whnf
  have hb := byteAt_lt s 1
  have hl := lIdx_in hb
  have hsd : Sm (s.drop 2) := by simp; omega
  have e4 : numM (s.drop 2) 0 4 = numM s 2 4 := numM_drop s 2 0 4
  have e8 : numM (s.drop 2) 0 8 = numM s 2 8 := numM_drop s 2 0 8
  obtain ⟨x4, b4, z4, hb4, hc4⟩ := number_ok (s.drop 2) 4 (.inl rfl) hsd
  obtain ⟨x8, b8, z8, hb8, hc8⟩ := number_ok (s.drop 2) 8 (.inr rfl) hsd
  rw [e4] at hb4 hc4
  rw [e8] at hb8 hc8
  have hll : lettersB = [116, 98, 110, 114, 102, 34, 39, 92] := rfl
  have hmm : meantB = [9, 8, 10, 13, 12, 34, 39, 92] := rfl
  unfold lIdx at hl
  rw [hll, hmm] at hl
  repeat' ((first | with_reducible refine IF.tt ?_ | with_reducible refine IF.ff ?_ | refine CALL.value (z4) rfl rfl ?_ | refine CALL.value (z8) rfl rfl ?_ | refine CALL.value (indexByte_does _ _) rfl rfl ?_ | (refine NEED.mk (needL h.1 hl.1) ?_; conv => whnf) | refine NEED.au ?_ | ((with_reducible apply GET.at); rfl) | ((with_reducible apply GETG.at); rfl) | ((with_reducible refine UNK.mk (fun h => ?_) ?_) <;> try (exfalso; omega)) | ((with_reducible refine IF.mk (fun h => ?_) (fun h => ?_)) <;> (try simp (disch := omega) only [hsB, hsC, lnB, wrap64, wrap32, simprocAttr] at h) <;> try (exfalso; omega))) <;> conv => whnf)
  all_goals
    refine FIN.value h0 rfl ?_
    unfold escapeM
    rw [show (((0 + 1 : Nat) : Nat) : Int) = 1 from rfl]
    simp only [Nat.zero_add]
    first
      | (rw [if_pos (by omega)]; done)
      | (rw [if_neg (by omega), if_pos (by assumption), if_pos (hb4 h).1, (hb4 h).2]; done)
      | (rw [if_neg (by omega), if_pos (by assumption), if_neg (by have := hc4 h; omega)]; done)
      | (rw [if_neg (by omega), if_neg (by assumption), if_pos (by assumption), if_pos (hb8 h).1, (hb8 h).2]; done)
      | (rw [if_neg (by omega), if_neg (by assumption), if_pos (by assumption), if_neg (by have := hc8 h; omega)]; done)
      | (rw [if_neg (by omega), if_neg (by assumption), if_neg (by assumption), if_pos ⟨h.2, (hl.1 h.1).2.2⟩, ← (hl.1 h.1).2.1]; done)
      | (rw [if_neg (by omega), if_neg (by assumption), if_neg (by assumption), if_neg (fun hh => h (Int.not_lt.1 fun h9 => by have := hl.2 h9; omega) hh.1)]; done)
      | trace_state
def UnescQ (u : (Nat × Int) ⊕ List UInt8) : SV → Hps → Nat → Prop := fun r O nx => match u with
  | .inl e => r = .tup [.str [], errSV 0] ∧ O = [(0, errHp e.1 e.2)] ∧ nx = 1
  | .inr l => r = .tup [.str l, .val .nilIface] ∧ O = [] ∧ nx = 0
theorem unescape_does (s : List UInt8) (way : Int) (hs : s.length ≤ 140737488351232) : Does Tryz.prog tab 58 0 [.str s, .int .i64 way] [] [] (UnescQ (unescM way s 0)) := by
  have hsm : Sm s := by omega
  refine Does.enter tabOK (g := 58) (fn := Tryz.f58) Tryz.call58 Tryz.func58 rfl 59 rfl rfl [.tmp 4, .tmp 5] rfl ?_
  intro w0 F η0 h0
  conv => whnf
  refine LOOP.go tabOK [0, 1, 6] (X := Nat × List UInt8) (fun x => x.1 ≤ s.length ∧ x.2.length ≤ x.1 ∧ unescM way s 0 = pre x.2 (unescM way s x.1)) (fun x => [(7, .int .i64 (x.1 : Int))]) (fun x => [(0, .bld TB TU x.2)]) 1 (fun x => s.length - x.1) (0, []) ⟨by simp, by simp, (pre_nil _).symm⟩ ?_
  conv => whnf
  refine ⟨by (refine GOES.cutting h0 rfl rfl rfl (by first | rfl | simp [belowO, belowH, plainLL_below, plainLL_map, plainL, plain]) ?_ ?_ <;> (repeat' (first | (with_reducible rfl) | (exact congrArg (fun n => SV.sl _ _ _ n _) (by simp)) | (exact congrArg (Hp.rows _) (by simp)) | (exact congrArg (SV.int _) (by first | omega | (simp (disch := omega) only [lnB, wrap64, wrap32] <;> omega) | (simp; done) | (simp <;> omega))) | ((conv => whnf); refine ⟨?_, ?_⟩) | exact trivial | (simp; done) | rfl))), ?_⟩
  rintro ⟨i, out⟩ ⟨hi, hol, hc⟩
  dsimp only at hi hol hc ⊢
  conv => whnf
  have hn := nextAt_n s i
  have hen := escapeM_n way s i
  have hed : Does Tryz.prog tab 91 0 [.str (s.drop ((i : Int)).toNat), .int .i64 way] [] [] (Val (.tup [.int .i32 (escapeM way s i).1, .int .i64 (escapeM way s i).2])) := by
    rw [show ((i : Int)).toNat = i by omega, ← escapeM_drop]
    exact escape1_does _ way (by simp; omega)
  repeat' ((first | with_reducible refine IF.tt ?_ | with_reducible refine IF.ff ?_ | refine CALL.value (hed) rfl rfl ?_ | refine CALL.value (next_does s _ hsm) rfl rfl ?_ | refine NEED.au ?_ | ((with_reducible apply GET.at); rfl) | ((with_reducible apply GETG.at); rfl) | ((with_reducible refine UNK.mk (fun h => ?_) ?_) <;> try (exfalso; omega)) | ((with_reducible refine IF.mk (fun h => ?_) (fun h => ?_)) <;> (try simp (disch := omega) only [hsB, hsC, lnB, wrap64, wrap32, simprocAttr] at h) <;> try (exfalso; omega))) <;> conv => whnf)
  · rename_i h1 h2
    have hb := unesc_bad (way := way) (by omega) h2 h
    rw [hb] at hc
    refine CALL.at [] (wrong_does (i : Int) 41) rfl rfl rfl rfl (by first | rfl | (simp only [belowO, belowH, plainLL_below _ (plainStrs _), Bool.and_self, Bool.and_true] <;> rfl)) (by first | rfl | (simp only [belowO, belowH, plainLL_below _ (plainStrs _), Bool.and_self, Bool.and_true] <;> rfl)) (by repeat' (first | exact trivial | exact (renH_plain _ (h := .rows _ _) (plainStrs _)).symm | exact rfl | exact (renH_plain _ (h := .rows _ _) (plainStrs _)).trans (renH_plain _ (h := .rows _ _) (plainStrs _)).symm | ((conv => whnf); refine ⟨?_, ?_⟩))) (by repeat' (first | exact trivial | exact (renH_plain _ (h := .rows _ _) (plainStrs _)).symm | exact rfl | exact (renH_plain _ (h := .rows _ _) (plainStrs _)).trans (renH_plain _ (h := .rows _ _) (plainStrs _)).symm | ((conv => whnf); refine ⟨?_, ?_⟩))) rfl rfl ?_
    rintro r O' nx' ⟨rfl, rfl, rfl⟩
    conv => whnf
    refine FIN.at h0 [1] (.tup [.str [], errSV 0]) [(0, errHp (i : Int) 41)] rfl rfl rfl (by first | rfl | (simp only [belowO, belowH, plainLL_below _ (plainStrs _), Bool.and_self, Bool.and_true] <;> rfl)) (by repeat' (first | exact trivial | exact (renH_plain _ (h := .rows _ _) (plainStrs _)).symm | (with_reducible rfl) | (exact (renH_plain _ (h := .rows _ _) (plainStrs _)).trans (renH_plain _ (h := .rows _ _) (plainStrs _)).symm) | (exact rows_eq (plainStrs _) (by simp [strRow, ofVal, List.take_of_length_le])) | exact rfl | ((conv => whnf); refine ⟨?_, ?_⟩))) rfl ?_
    rw [hc]
    exact ⟨rfl, rfl, rfl⟩
  · rename_i h1 h2
    have hb := unesc_esc (way := way) (by omega) h2 h
    rcases hen with hen | ⟨hen1, hen2, hsc⟩
    · exact absurd hen h
    have hel := esc_enc way s i h
    have hsc2 := hsc
    obtain ⟨hs0, hs1, _⟩ := hsc2
    have hne := enc_len hs0
    have hwr := write_does out (encM (escapeM way s i).1) (by intro hh; rw [hh] at hne; simp at hne) (by omega)
    refine CALL.bytes (bytes_does _ ⟨hs0, hs1⟩) rfl ?_
    conv => whnf
    refine CALL.at [0, 1] (hwr) rfl rfl rfl rfl (by first | rfl | (simp only [belowO, belowH, plainLL_below _ (plainBytes _), Bool.and_self, Bool.and_true] <;> rfl)) (by first | rfl | (simp only [belowO, belowH, plainLL_below _ (plainBytes _), Bool.and_self, Bool.and_true] <;> rfl)) (by repeat' (first | exact trivial | exact (renH_plain _ (h := .rows _ _) (plainBytes _)).symm | exact rfl | exact (renH_plain _ (h := .rows _ _) (plainBytes _)).trans (renH_plain _ (h := .rows _ _) (plainBytes _)).symm | ((conv => whnf); refine ⟨?_, ?_⟩))) (by repeat' (first | exact trivial | exact (renH_plain _ (h := .rows _ _) (plainBytes _)).symm | exact rfl | exact (renH_plain _ (h := .rows _ _) (plainBytes _)).trans (renH_plain _ (h := .rows _ _) (plainBytes _)).symm | ((conv => whnf); refine ⟨?_, ?_⟩))) rfl rfl ?_
    rintro r O' nx' ⟨rfl, rfl, rfl⟩
    conv => whnf
    refine ⟨(i + (escapeM way s i).2.toNat, out ++ encM (escapeM way s i).1), ⟨by simp only; omega, ?_, ?_⟩, by simp only; omega, ?_⟩
    · simp only [List.length_append]; omega
    · simp only
      rw [hc, hb, pre_pre]
    · conv => whnf
      (refine GOES.cutting h0 rfl rfl rfl (by first | rfl | simp [belowO, belowH, plainLL_below, plainLL_map, plainL, plain]) ?_ ?_ <;> (repeat' (first | (with_reducible rfl) | (exact congrArg (fun n => SV.sl _ _ _ n _) (by simp)) | (exact congrArg (Hp.rows _) (by simp)) | (exact congrArg (SV.int _) (by first | omega | (simp (disch := omega) only [lnB, wrap64, wrap32] <;> omega) | (simp; done) | (simp <;> omega))) | ((conv => whnf); refine ⟨?_, ?_⟩) | exact trivial | (simp; done) | rfl)))
  · rename_i h1 h2
    have hb := unesc_wrong (way := way) (by omega) h2 h
    rw [hb] at hc
    refine CALL.at [] (wrong_does (i : Int) 40) rfl rfl rfl rfl (by first | rfl | (simp only [belowO, belowH, plainLL_below _ (plainStrs _), Bool.and_self, Bool.and_true] <;> rfl)) (by first | rfl | (simp only [belowO, belowH, plainLL_below _ (plainStrs _), Bool.and_self, Bool.and_true] <;> rfl)) (by repeat' (first | exact trivial | exact (renH_plain _ (h := .rows _ _) (plainStrs _)).symm | exact rfl | exact (renH_plain _ (h := .rows _ _) (plainStrs _)).trans (renH_plain _ (h := .rows _ _) (plainStrs _)).symm | ((conv => whnf); refine ⟨?_, ?_⟩))) (by repeat' (first | exact trivial | exact (renH_plain _ (h := .rows _ _) (plainStrs _)).symm | exact rfl | exact (renH_plain _ (h := .rows _ _) (plainStrs _)).trans (renH_plain _ (h := .rows _ _) (plainStrs _)).symm | ((conv => whnf); refine ⟨?_, ?_⟩))) rfl rfl ?_
    rintro r O' nx' ⟨rfl, rfl, rfl⟩
    conv => whnf
    refine FIN.at h0 [1] (.tup [.str [], errSV 0]) [(0, errHp (i : Int) 40)] rfl rfl rfl (by first | rfl | (simp only [belowO, belowH, plainLL_below _ (plainStrs _), Bool.and_self, Bool.and_true] <;> rfl)) (by repeat' (first | exact trivial | exact (renH_plain _ (h := .rows _ _) (plainStrs _)).symm | (with_reducible rfl) | (exact (renH_plain _ (h := .rows _ _) (plainStrs _)).trans (renH_plain _ (h := .rows _ _) (plainStrs _)).symm) | (exact rows_eq (plainStrs _) (by simp [strRow, ofVal, List.take_of_length_le])) | exact rfl | ((conv => whnf); refine ⟨?_, ?_⟩))) rfl ?_
    rw [hc]
    exact ⟨rfl, rfl, rfl⟩
  · rename_i h1 h2
    have hb := unesc_next (way := way) (by omega) h2 h
    have hnl := next_enc (by omega) h
    have hne := nextAt_enc (s := s) (i := i) (by omega) h
    have hw : IntKind.i64.wrap ((i : Int) + (nextAt s i).2) = (i : Int) + (nextAt s i).2 := wrap64 (by omega) (by omega)
    rw [hw, show ((i : Int)).toNat = i by omega, show ((i : Int) + (nextAt s i).2).toNat - i = (nextAt s i).2.toNat by omega, ← hne]
    have hwr := writeString_does out (encM (nextAt s i).1) (by omega)
    refine CALL.at [0] (hwr) rfl rfl rfl rfl (by first | rfl | (simp only [belowO, belowH, plainLL_below _ (plainBytes _), Bool.and_self, Bool.and_true] <;> rfl)) (by first | rfl | (simp only [belowO, belowH, plainLL_below _ (plainBytes _), Bool.and_self, Bool.and_true] <;> rfl)) (by repeat' (first | exact trivial | exact (renH_plain _ (h := .rows _ _) (plainBytes _)).symm | exact rfl | exact (renH_plain _ (h := .rows _ _) (plainBytes _)).trans (renH_plain _ (h := .rows _ _) (plainBytes _)).symm | ((conv => whnf); refine ⟨?_, ?_⟩))) (by repeat' (first | exact trivial | exact (renH_plain _ (h := .rows _ _) (plainBytes _)).symm | exact rfl | exact (renH_plain _ (h := .rows _ _) (plainBytes _)).trans (renH_plain _ (h := .rows _ _) (plainBytes _)).symm | ((conv => whnf); refine ⟨?_, ?_⟩))) rfl rfl ?_
    rintro r O' nx' ⟨rfl, rfl, rfl⟩
    conv => whnf
    refine ⟨(i + (nextAt s i).2.toNat, out ++ encM (nextAt s i).1), ⟨by simp only; omega, ?_, ?_⟩, by simp only; omega, ?_⟩
    · simp only [List.length_append]; omega
    · simp only
      rw [hc, hb, pre_pre]
    · conv => whnf
      (refine GOES.cutting h0 rfl rfl rfl (by first | rfl | simp [belowO, belowH, plainLL_below, plainLL_map, plainL, plain]) ?_ ?_ <;> (repeat' (first | (with_reducible rfl) | (exact congrArg (fun n => SV.sl _ _ _ n _) (by simp)) | (exact congrArg (Hp.rows _) (by simp)) | (exact congrArg (SV.int _) (by first | omega | (simp (disch := omega) only [lnB, wrap64, wrap32] <;> omega) | (simp; done) | (simp <;> omega))) | ((conv => whnf); refine ⟨?_, ?_⟩) | exact trivial | (simp; done) | rfl)))
  · have hb := unesc_end (way := way) (s := s) (i := i) (by omega)
    rw [hb] at hc
    refine CALL.at [0] (string_does out) rfl rfl rfl rfl (by first | rfl | (simp only [belowO, belowH, plainLL_below _ (plainStrs _), Bool.and_self, Bool.and_true] <;> rfl)) (by first | rfl | (simp only [belowO, belowH, plainLL_below _ (plainStrs _), Bool.and_self, Bool.and_true] <;> rfl)) (by repeat' (first | exact trivial | exact (renH_plain _ (h := .rows _ _) (plainStrs _)).symm | exact rfl | exact (renH_plain _ (h := .rows _ _) (plainStrs _)).trans (renH_plain _ (h := .rows _ _) (plainStrs _)).symm | ((conv => whnf); refine ⟨?_, ?_⟩))) (by repeat' (first | exact trivial | exact (renH_plain _ (h := .rows _ _) (plainStrs _)).symm | exact rfl | exact (renH_plain _ (h := .rows _ _) (plainStrs _)).trans (renH_plain _ (h := .rows _ _) (plainStrs _)).symm | ((conv => whnf); refine ⟨?_, ?_⟩))) rfl rfl ?_
    rintro r O' nx' ⟨rfl, rfl, rfl⟩
    conv => whnf
    refine FIN.val h0 rfl ?_
    rw [hc]
    simp [UnescQ, pre]
end Go.Proofs.YtillkgjdbnjnoaaGreatDoor
/- iri and its reference: references and schemes, walked. Conditions: none. -/
set_option linter.unusedVariables false
set_option linter.unusedSimpArgs false
set_option maxRecDepth 20000
namespace Go.Proofs.YtillkgjdbnjnoaaGreatDoor
open Go.Sx Go.Our
end Go.Proofs.YtillkgjdbnjnoaaGreatDoor
/- iri: references and schemes, walked. Conditions: none. -/
set_option linter.unusedVariables false
set_option linter.unusedSimpArgs false
set_option maxRecDepth 20000
namespace Go.Proofs.YtillkgjdbnjnoaaGreatDoor
open Go.Sx Go.Our
def plIri20 : Plan := (planOf [(0, 1), (1, 1), (2, 1), (3, 1), (4, 1), (5, 1), (6, 1)])
def plIri21 : Plan := (planOf [(0, 1), (1, 1), (2, 1), (3, 1), (4, 1), (5, 1), (6, 1), (7, 3), (8, 1)])
def plIri22 : Plan := (planOf [(0, 1), (1, 1), (2, 1), (3, 1), (4, 1), (5, 1), (6, 1), (7, 1), (8, 1), (9, 1), (10, 1)])
/-- Whether a scalar is among those that are barred but for blanks. -/
def barIdx (r : Int) : Int := if 0 ≤ r ∧ r < 128 then Lib.indexByte bars (IntKind.u8.wrap r).toNat.toUInt8 else -1
theorem indexRune_does (r : Int) (hr : Scalar r) : Does Tryz.prog tab 118 0 [.str bars, .int .i32 r] [] [] (Val (.int .i64 (barIdx r))) := by
  have hlen : bars.length = 9 := rfl
  refine Does.enter tabOK (g := 118) (fn := Tryz.f118) Tryz.call118 Tryz.func118 rfl 187 rfl rfl [.tmp 4] rfl ?_
  intro w0 F η0 h0
  conv => whnf
  repeat' ((first | with_reducible refine IF.tt ?_ | with_reducible refine IF.ff ?_ | refine CALL.value (indexByte_does _ _) rfl rfl ?_ | refine CALL.value (validRune_does _) rfl rfl ?_ | refine NEED.au ?_ | ((with_reducible apply GET.at); rfl) | ((with_reducible apply GETG.at); rfl) | ((with_reducible refine UNK.mk (fun h => ?_) ?_) <;> try (exfalso; omega)) | ((with_reducible refine IF.mk (fun h => ?_) (fun h => ?_)) <;> (try simp (disch := omega) only [hsB, hsC, lnB, wrap64, wrap32, simprocAttr] at h) <;> try (exfalso; omega))) <;> conv => whnf)
  · refine FIN.value h0 rfl ?_
    unfold barIdx; rw [if_pos h]
  · subst h
    refine LOOP.go tabOK [175] (X := Nat) (fun i => i ≤ 9) (fun i => []) (fun i => [(0, .siter bars i)]) 1 (fun i => 9 - i) 0 (by omega) ?_
    conv => whnf
    refine ⟨by (refine GOES.cutting h0 rfl rfl rfl (by first | rfl | simp [belowO, belowH, plainLL_below, plainLL_map, plainL, plain]) ?_ ?_ <;> (repeat' (first | (with_reducible rfl) | (exact congrArg (fun n => SV.sl _ _ _ n _) (by simp)) | (exact congrArg (Hp.rows _) (by simp)) | (exact congrArg (SV.int _) (by first | omega | (simp (disch := omega) only [lnB, wrap64, wrap32] <;> omega) | (simp; done) | (simp <;> omega))) | ((conv => whnf); refine ⟨?_, ?_⟩) | exact trivial | (simp; done) | rfl))), ?_⟩
    intro i hi
    conv => whnf
    refine ⟨fun h => ?_, fun h => ?_⟩
    · have h : i < bars.length := by simpa using h
      have hd := deco_ascii (bars_low i)
      have hb := byteAt_lt bars i
      conv => whnf
      refine IF.tt ?_
      conv => whnf
      refine IF.no (by rw [show Utf8.decode ⟨bars.toArray⟩ i = _ from hd]; have := bars_low i; simp; omega) ?_
      conv => whnf
      refine ⟨i + (deco bars i).2, by rw [hd]; show i + 1 ≤ 9; omega, by rw [hd]; show 9 - (i + 1) < 9 - i; omega, ?_⟩
      conv => whnf
      (refine GOES.cutting h0 rfl rfl rfl (by first | rfl | simp [belowO, belowH, plainLL_below, plainLL_map, plainL, plain]) ?_ ?_ <;> (repeat' (first | (with_reducible rfl) | (exact congrArg (fun n => SV.sl _ _ _ n _) (by simp)) | (exact congrArg (Hp.rows _) (by simp)) | (exact congrArg (SV.int _) (by first | omega | (simp (disch := omega) only [lnB, wrap64, wrap32] <;> omega) | (simp; done) | (simp <;> omega))) | ((conv => whnf); refine ⟨?_, ?_⟩) | exact trivial | (simp; done) | rfl)))
    · conv => whnf
      refine IF.ff ?_
      conv => whnf
      refine FIN.value h0 rfl ?_
      unfold barIdx; rw [if_neg (by omega)]
  · rw [scalarM_false] at h
    exact (h hr).elim
  · have hl := encM_len (r := r) (by unfold Scalar at hr; omega)
    have hh := encM_high hr (by unfold Scalar at hr; omega)
    have he := encode_eq hr
    rw [he]
    have hm := byteAt_mem (s := encM r) (i := ((encM r).length : Int) - 1) (by omega)
    have hm2 : 128 ≤ byteAt (encM r) (((encM r).length : Int) - 1) := by
      obtain ⟨c, hc, e⟩ := hm
      rw [e]; exact hh c hc
    have hm3 := byteAt_lt (encM r) (((encM r).length : Int) - 1)
    have hm4 := bars_low (((encM r).length : Int) - 1)
    refine LOOP.once tabOK ?_
    conv => whnf
    repeat' ((first | with_reducible refine IF.tt ?_ | with_reducible refine IF.ff ?_ | refine DRAWN.of (id := 6) tabOK mixed plIri20 (by kernel_rfl) ?_ | refine DRAWN.of (id := 7) tabOK mixed plIri21 (by kernel_rfl) ?_ | refine DRAWN.of (id := 14) tabOK mixed plIri22 (by kernel_rfl) ?_ | refine DRAWN.of (id := 31) tabOK mixed plIri22 (by kernel_rfl) ?_ | with_reducible refine ADD.mk (fun _ _ => ?_) | with_reducible refine NEED.mk (Det.of rfl) ?_ | refine NEED.mk (det_pos (by omega)) ?_ | with_reducible refine FORK.mk ?_ ?_ | refine CALL.value (indexByte_does _ _) rfl rfl ?_ | refine NEED.au ?_ | ((with_reducible apply GET.at); rfl) | ((with_reducible apply GETG.at); rfl) | ((with_reducible refine UNK.mk (fun h => ?_) ?_) <;> try (exfalso; omega)) | ((with_reducible refine IF.mk (fun h => ?_) (fun h => ?_)) <;> (try simp (disch := omega) only [hsB, hsC, lnB, wrap64, wrap32, simprocAttr] at h) <;> try (exfalso; omega))) <;> conv => whnf)
    · refine FIN.value h0 rfl ?_
      unfold barIdx; rw [if_neg (by unfold Scalar at hr; omega)]
    · have := idx_high (l := List.drop (((encM r).length : Int) - 1 + 1).toNat bars) (c := byteAt (encM r) (((encM r).length : Int) - 1)) (by omega) (fun b hb => bars_mem b (List.mem_of_mem_drop hb))
      rw [this] at h
      omega
theorem containsRune_does (r : Int) (hr : Scalar r) : Does Tryz.prog tab 101 0 [.str bars, .int .i32 r] [] [] (Val (.bool (decide (0 ≤ barIdx r)))) := by
  refine Does.enter tabOK (g := 101) (fn := Tryz.f101) Tryz.call101 Tryz.func101 rfl 9 rfl rfl [.tmp 4] rfl ?_
  intro w0 F η0 h0
  conv => whnf
  repeat' ((first | with_reducible refine IF.tt ?_ | with_reducible refine IF.ff ?_ | refine CALL.value (indexRune_does r hr) rfl rfl ?_ | refine NEED.au ?_ | ((with_reducible apply GET.at); rfl) | ((with_reducible apply GETG.at); rfl) | ((with_reducible refine UNK.mk (fun h => ?_) ?_) <;> try (exfalso; omega)) | ((with_reducible refine IF.mk (fun h => ?_) (fun h => ?_)) <;> (try simp (disch := omega) only [hsB, hsC, lnB, wrap64, wrap32, simprocAttr] at h) <;> try (exfalso; omega))) <;> conv => whnf)
  exact FIN.value h0 rfl rfl
theorem bar_iff {r : Int} (hr : Scalar r) : (r ≤ 32 ∨ 0 ≤ barIdx r) ↔ Our.Barred r := by
  unfold Scalar at hr
  unfold barIdx
  by_cases h : 0 ≤ r ∧ r < 128
  · rw [if_pos h]
    have : ∀ n : Nat, n < 128 → (((n : Int) ≤ 32 ∨ 0 ≤ Lib.indexByte bars (IntKind.u8.wrap (n : Int)).toNat.toUInt8) ↔ Our.Barred (n : Int)) := by decide +kernel
    have := this r.toNat (by omega)
    rwa [show ((r.toNat : Nat) : Int) = r by omega] at this
  · rw [if_neg h]
    unfold Our.Barred
    omega
theorem barred_does (r : Int) (hr : Scalar r) : Does Tryz.prog tab 76 0 [.int .i32 r] [] [] (Val (.bool (barredM r))) := by
  refine Does.enter tabOK (g := 76) (fn := Tryz.f76) Tryz.call76 Tryz.func76 rfl 9 rfl rfl [.tmp 2] rfl ?_
  intro w0 F η0 h0
  conv => whnf
  repeat' ((first | with_reducible refine IF.tt ?_ | with_reducible refine IF.ff ?_ | refine CALL.value (containsRune_does r hr) rfl rfl ?_ | refine NEED.au ?_ | ((with_reducible apply GET.at); rfl) | ((with_reducible apply GETG.at); rfl) | ((with_reducible refine UNK.mk (fun h => ?_) ?_) <;> try (exfalso; omega)) | ((with_reducible refine IF.mk (fun h => ?_) (fun h => ?_)) <;> (try simp (disch := omega) only [hsB, hsC, lnB, wrap64, wrap32, simprocAttr] at h) <;> try (exfalso; omega))) <;> conv => whnf)
  all_goals
    refine FIN.value h0 rfl (congrArg SV.bool ?_)
    rw [Bool.eq_iff_iff, barredM_true, ← bar_iff hr]
    simp
    try omega
theorem reference_does (s : List UInt8) (hs : Sm s) : Does Tryz.prog tab 47 0 [.str s] [] [] (Val (.int .i64 (refM s))) := by
  have hp : ∀ c : Int, 128 ≤ c → barredM c = false := fun c hc => by rw [barredM_false]; unfold Our.Barred; omega
  refine Does.enter tabOK (g := 47) (fn := Tryz.f47) Tryz.call47 Tryz.func47 rfl 15 rfl rfl [.tmp 2] rfl ?_
  intro w0 F η0 h0
  conv => whnf
  repeat' ((first | with_reducible refine IF.tt ?_ | with_reducible refine IF.ff ?_ | refine CALL.value (check_does s hs) rfl rfl ?_ | refine CALL.value (indexFunc_does _ barredM (fun r hr => barred_does r hr) s hs) rfl rfl ?_ | refine NEED.au ?_ | ((with_reducible apply GET.at); rfl) | ((with_reducible apply GETG.at); rfl) | ((with_reducible refine UNK.mk (fun h => ?_) ?_) <;> try (exfalso; omega)) | ((with_reducible refine IF.mk (fun h => ?_) (fun h => ?_)) <;> (try simp (disch := omega) only [hsB, hsC, lnB, wrap64, wrap32, simprocAttr] at h) <;> try (exfalso; omega))) <;> conv => whnf)
  all_goals
    refine FIN.value h0 rfl (congrArg (SV.int _) ?_)
    unfold refM
  · rw [if_pos (by omega)]
  · rw [if_neg (by omega), if_pos (by omega)]
  all_goals
    rename_i h1 h2
    have hc : chk s 0 = -1 := by
      have := chk_ge s 0
      omega
    have := barred_runes barredM hp s 0 hc
    rw [if_neg (by omega), if_neg (by omega)]
  · rw [if_pos (this.1 h)]
  · rw [if_neg (fun h' => by have := this.2 h'; omega)]
theorem scheme_does (s : List UInt8) (hs : Sm s) : Does Tryz.prog tab 48 0 [.str s] [] [] (Val (.str (s.take (schM s 0).toNat))) := by
  refine Does.enter tabOK (g := 48) (fn := Tryz.f48) Tryz.call48 Tryz.func48 rfl 61 rfl rfl [.tmp 2] rfl ?_
  intro w0 F η0 h0
  conv => whnf
  refine LOOP.go tabOK [0, 7] (X := Nat) (fun i => i ≤ s.length ∧ schM s i = schM s 0) (fun i => []) (fun i => [(0, .siter s i)]) 1 (fun i => s.length - i) 0 ⟨by omega, rfl⟩ ?_
  conv => whnf
  refine ⟨by (refine GOES.cutting h0 rfl rfl rfl (by first | rfl | simp [belowO, belowH, plainLL_below, plainLL_map, plainL, plain]) ?_ ?_ <;> (repeat' (first | (with_reducible rfl) | (exact congrArg (fun n => SV.sl _ _ _ n _) (by simp)) | (exact congrArg (Hp.rows _) (by simp)) | (exact congrArg (SV.int _) (by first | omega | (simp (disch := omega) only [lnB, wrap64, wrap32] <;> omega) | (simp; done) | (simp <;> omega))) | ((conv => whnf); refine ⟨?_, ?_⟩) | exact trivial | (simp; done) | rfl))), ?_⟩
  rintro i ⟨hi, hc⟩
  conv => whnf
  refine ⟨fun h => ?_, fun h => ?_⟩
  · have h : i < s.length := by simpa using h
    have hf := deco_fits s i h
    have hp := deco_pos s i
    have hb := byteAt_lt s i
    have hd : ((deco s i).1 : Int) = byteAt s i ∧ (deco s i).2 = 1 ∨ 128 ≤ byteAt s i ∧ 128 ≤ (deco s i).1 := by
      by_cases ha : byteAt s i < 128
      · left; rw [deco_ascii ha]; simp; omega
      · right; exact ⟨by omega, deco_high (by omega)⟩
    unfold deco at *
    generalize Utf8.decode ⟨s.toArray⟩ i = d at *
    obtain ⟨r, n⟩ := d
    simp only at hf hp hd
    conv => whnf
    repeat' ((first | with_reducible refine IF.tt ?_ | with_reducible refine IF.ff ?_ | refine NEED.au ?_ | ((with_reducible apply GET.at); rfl) | ((with_reducible apply GETG.at); rfl) | ((with_reducible refine UNK.mk (fun h => ?_) ?_) <;> try (exfalso; omega)) | ((with_reducible refine IF.mk (fun h => ?_) (fun h => ?_)) <;> (try simp (disch := omega) only [hsB, hsC, lnB, wrap64, wrap32, simprocAttr] at h) <;> try (exfalso; omega))) <;> conv => whnf)
    all_goals first
      | (have hn : n = 1 := by omega
         subst hn
         refine ⟨i + 1, ⟨hf, ?_⟩, by omega, ?_⟩
         · rw [← hc, ← schM_step (by omega) (by omega) (by unfold LetterI SchI; omega)]
         · conv => whnf
           (refine GOES.cutting h0 rfl rfl rfl (by first | rfl | simp [belowO, belowH, plainLL_below, plainLL_map, plainL, plain]) ?_ ?_ <;> (repeat' (first | (with_reducible rfl) | (exact congrArg (fun n => SV.sl _ _ _ n _) (by simp)) | (exact congrArg (Hp.rows _) (by simp)) | (exact congrArg (SV.int _) (by first | omega | (simp (disch := omega) only [lnB, wrap64, wrap32] <;> omega) | (simp; done) | (simp <;> omega))) | ((conv => whnf); refine ⟨?_, ?_⟩) | exact trivial | (simp; done) | rfl))))
      | (refine FIN.value h0 rfl (congrArg SV.str ?_); rw [← hc, schM_colon (by omega) (by omega)])
      | (refine FIN.value h0 rfl (congrArg SV.str ?_); rw [← hc]
         by_cases h58 : byteAt s i = 58
         · rw [schM_colon (by omega) h58]; rw [show (i : Int) = 0 by omega]; rfl
         · rw [schM_stop (by omega) h58 (by unfold LetterI SchI; omega)]; rfl)
  · have h : s.length ≤ i := by simpa using h
    conv => whnf
    repeat' ((first | with_reducible refine IF.tt ?_ | with_reducible refine IF.ff ?_ | refine NEED.au ?_ | ((with_reducible apply GET.at); rfl) | ((with_reducible apply GETG.at); rfl) | ((with_reducible refine UNK.mk (fun h => ?_) ?_) <;> try (exfalso; omega)) | ((with_reducible refine IF.mk (fun h => ?_) (fun h => ?_)) <;> (try simp (disch := omega) only [hsB, hsC, lnB, wrap64, wrap32, simprocAttr] at h) <;> try (exfalso; omega))) <;> conv => whnf)
    refine FIN.value h0 rfl ?_
    rw [← hc, schM_end h]; rfl
theorem iriCheck_does (s : List UInt8) (hs : Sm s) : Does Tryz.prog tab 31 0 [.str s] [] [] (Val (.int .i64 (iriM s))) := by
  have hr := schM_rng s 0
  refine Does.enter tabOK (g := 31) (fn := Tryz.f31) Tryz.call31 Tryz.func31 rfl 12 rfl rfl [.tmp 2] rfl ?_
  intro w0 F η0 h0
  conv => whnf
  repeat' ((first | with_reducible refine IF.tt ?_ | with_reducible refine IF.ff ?_ | refine CALL.value (reference_does s hs) rfl rfl ?_ | refine CALL.value (scheme_does s hs) rfl rfl ?_ | refine NEED.au ?_ | ((with_reducible apply GET.at); rfl) | ((with_reducible apply GETG.at); rfl) | ((with_reducible refine UNK.mk (fun h => ?_) ?_) <;> try (exfalso; omega)) | ((with_reducible refine IF.mk (fun h => ?_) (fun h => ?_)) <;> (try simp (disch := omega) only [hsB, hsC, lnB, wrap64, wrap32, simprocAttr] at h) <;> try (exfalso; omega))) <;> conv => whnf)
  · refine FIN.value h0 rfl (congrArg (SV.int _) ?_)
    unfold iriM; rw [if_pos h]
  · rename_i h1
    refine FIN.value h0 rfl (congrArg (SV.int _) ?_)
    unfold iriM; rw [if_neg (by omega), if_pos]
    have hz : (s.take (schM s 0).toNat).length = 0 := by
      have : s.take (schM s 0).toNat = [] := h
      rw [this]; rfl
    rw [List.length_take] at hz
    by_cases hl : s.length = 0
    · rw [schM_end (by omega)]
    · omega
  · rename_i h1
    refine FIN.value h0 rfl (congrArg (SV.int _) ?_)
    unfold iriM; rw [if_neg (by omega), if_neg]
    intro h2
    apply h
    rw [h2]; rfl
end Go.Proofs.YtillkgjdbnjnoaaGreatDoor
/- Names in plain words: which scalars stand in them; labels. No program in sight. -/
set_option linter.unusedVariables false
set_option linter.unusedSimpArgs false
namespace Go.Our
open Go.Sx
def BaseI (r : Int) : Prop := (65 ≤ r ∧ r ≤ 90) ∨ (97 ≤ r ∧ r ≤ 122) ∨ (192 ≤ r ∧ r ≤ 214) ∨ (216 ≤ r ∧ r ≤ 246) ∨ (248 ≤ r ∧ r ≤ 767) ∨ (880 ≤ r ∧ r ≤ 893) ∨ (895 ≤ r ∧ r ≤ 8191) ∨ (8204 ≤ r ∧ r ≤ 8205) ∨ (8304 ≤ r ∧ r ≤ 8591) ∨ (11264 ≤ r ∧ r ≤ 12271) ∨ (12289 ≤ r ∧ r ≤ 55295) ∨ (63744 ≤ r ∧ r ≤ 64975) ∨ (65008 ≤ r ∧ r ≤ 65533) ∨ (65536 ≤ r ∧ r ≤ 983039)
instance (r : Int) : Decidable (BaseI r) := by unfold BaseI; infer_instance
def StartI (r : Int) : Prop := BaseI r ∨ r = 95
instance (r : Int) : Decidable (StartI r) := by unfold StartI; infer_instance
def DigitI (r : Int) : Prop := 48 ≤ r ∧ r ≤ 57
instance (r : Int) : Decidable (DigitI r) := by unfold DigitI; infer_instance
def FollowI (r : Int) : Prop := StartI r ∨ DigitI r ∨ r = 45 ∨ r = 183 ∨ (768 ≤ r ∧ r ≤ 879) ∨ r = 8255 ∨ r = 8256
instance (r : Int) : Decidable (FollowI r) := by unfold FollowI; infer_instance
def LabelI (r : Int) : Prop := StartI r ∨ DigitI r
instance (r : Int) : Decidable (LabelI r) := by unfold LabelI; infer_instance
/-- From a place on as far as followers and dots go: where the last follower ends. -/
def runGo (s : List UInt8) (i e : Nat) : Nat :=
  if h : (nextAt s i).2 ≠ 0 ∧ ((nextAt s i).1 = 46 ∨ FollowI (nextAt s i).1) then
    runGo s (i + (nextAt s i).2.toNat) (if (nextAt s i).1 = 46 then e else i + (nextAt s i).2.toNat)
  else e
termination_by s.length - i
decreasing_by
  have := nextAt_n s i
  omega
theorem runGo_step {s : List UInt8} {i e : Nat} (h : (nextAt s i).2 ≠ 0 ∧ ((nextAt s i).1 = 46 ∨ FollowI (nextAt s i).1)) : runGo s i e = runGo s (i + (nextAt s i).2.toNat) (if (nextAt s i).1 = 46 then e else i + (nextAt s i).2.toNat) := by
  conv => lhs; rw [runGo]
  rw [dif_pos h]
theorem runGo_stop {s : List UInt8} {i e : Nat} (h : ¬ ((nextAt s i).2 ≠ 0 ∧ ((nextAt s i).1 = 46 ∨ FollowI (nextAt s i).1))) : runGo s i e = e := by
  rw [runGo, dif_neg h]
/-- How many bytes has the longest text at a place whose first scalar is such a one, whose last a follower, and what lies between followers or dots. -/
def runM (p : Int → Prop) [DecidablePred p] (s : List UInt8) (i : Int) : Int :=
  if (nextAt s i).2 = 0 ∨ ¬ p (nextAt s i).1 then 0 else (runGo s (i.toNat + (nextAt s i).2.toNat) (i.toNat + (nextAt s i).2.toNat) : Int) - i
/-- A blank node's label. -/
def labelM (s : List UInt8) : Int := if runM LabelI s 0 = 0 ∨ runM LabelI s 0 ≠ s.length then 60 else 0
end Go.Our
/- names: labels, walked. Conditions: none. -/
set_option linter.unusedVariables false
set_option linter.unusedSimpArgs false
set_option maxRecDepth 20000
namespace Go.Proofs.YtillkgjdbnjnoaaGreatDoor
open Go.Sx Go.Our
theorem nLetter_does (r : Int) : Does Tryz.prog tab 123 0 [.int .i32 r] [] [] (Val (.bool (decide (LetterI r)))) := by
  refine Does.enter tabOK (g := 123) (fn := Tryz.f123) Tryz.call123 Tryz.func123 rfl 17 rfl rfl [.tmp 2] rfl ?_
  intro w0 F η0 h0
  conv => whnf
  repeat' ((first | with_reducible refine IF.tt ?_ | with_reducible refine IF.ff ?_ | refine NEED.au ?_ | ((with_reducible apply GET.at); rfl) | ((with_reducible apply GETG.at); rfl) | ((with_reducible refine UNK.mk (fun h => ?_) ?_) <;> try (exfalso; omega)) | ((with_reducible refine IF.mk (fun h => ?_) (fun h => ?_)) <;> (try simp (disch := omega) only [hsB, hsC, lnB, wrap64, wrap32, simprocAttr] at h) <;> try (exfalso; omega))) <;> conv => whnf)
  refine FIN.value h0 rfl (congrArg SV.bool ?_)
  rw [Bool.eq_iff_iff]
  simp only [Bool.cond_eq_ite, decide_eq_true_eq, Bool.if_false_right, Bool.if_true_left, Bool.and_eq_true, Bool.or_eq_true]
  rfl
theorem nDigit_does (r : Int) : Does Tryz.prog tab 104 0 [.int .i32 r] [] [] (Val (.bool (decide (DigitI r)))) := by
  refine Does.enter tabOK (g := 104) (fn := Tryz.f104) Tryz.call104 Tryz.func104 rfl 9 rfl rfl [.tmp 2] rfl ?_
  intro w0 F η0 h0
  conv => whnf
  repeat' ((first | with_reducible refine IF.tt ?_ | with_reducible refine IF.ff ?_ | refine NEED.au ?_ | ((with_reducible apply GET.at); rfl) | ((with_reducible apply GETG.at); rfl) | ((with_reducible refine UNK.mk (fun h => ?_) ?_) <;> try (exfalso; omega)) | ((with_reducible refine IF.mk (fun h => ?_) (fun h => ?_)) <;> (try simp (disch := omega) only [hsB, hsC, lnB, wrap64, wrap32, simprocAttr] at h) <;> try (exfalso; omega))) <;> conv => whnf)
  refine FIN.value h0 rfl (congrArg SV.bool ?_)
  rw [Bool.eq_iff_iff]
  simp only [Bool.cond_eq_ite, decide_eq_true_eq, Bool.if_false_right, Bool.if_true_left, Bool.and_eq_true, Bool.or_eq_true]
  rfl
theorem nBase_does (r : Int) : Does Tryz.prog tab 119 0 [.int .i32 r] [] [] (Val (.bool (decide (BaseI r)))) := by
  refine Does.enter tabOK (g := 119) (fn := Tryz.f119) Tryz.call119 Tryz.func119 rfl 25 rfl rfl [.tmp 2] rfl ?_
  intro w0 F η0 h0
  conv => whnf
  repeat' ((first | with_reducible refine IF.tt ?_ | with_reducible refine IF.ff ?_ | refine CALL.value (nLetter_does _) rfl rfl ?_ | (refine LOOP.once tabOK ?_; conv => whnf) | refine NEED.au ?_ | ((with_reducible apply GET.at); rfl) | ((with_reducible apply GETG.at); rfl) | ((with_reducible refine UNK.mk (fun h => ?_) ?_) <;> try (exfalso; omega)) | ((with_reducible refine IF.mk (fun h => ?_) (fun h => ?_)) <;> (try simp (disch := omega) only [hsB, hsC, lnB, wrap64, wrap32, simprocAttr] at h) <;> try (exfalso; omega))) <;> conv => whnf)
  all_goals
    refine FIN.value h0 rfl (congrArg SV.bool ?_)
    first
      | exact decide_eq_decide.2 (by unfold LetterI BaseI; omega)
      | exact (decide_eq_true (by unfold BaseI; omega)).symm
      | exact (decide_eq_false (by unfold BaseI; omega)).symm
theorem nStarter_does (r : Int) : Does Tryz.prog tab 103 0 [.int .i32 r] [] [] (Val (.bool (decide (StartI r)))) := by
  refine Does.enter tabOK (g := 103) (fn := Tryz.f103) Tryz.call103 Tryz.func103 rfl 9 rfl rfl [.tmp 2] rfl ?_
  intro w0 F η0 h0
  conv => whnf
  repeat' ((first | with_reducible refine IF.tt ?_ | with_reducible refine IF.ff ?_ | refine CALL.value (nBase_does _) rfl rfl ?_ | refine NEED.au ?_ | ((with_reducible apply GET.at); rfl) | ((with_reducible apply GETG.at); rfl) | ((with_reducible refine UNK.mk (fun h => ?_) ?_) <;> try (exfalso; omega)) | ((with_reducible refine IF.mk (fun h => ?_) (fun h => ?_)) <;> (try simp (disch := omega) only [hsB, hsC, lnB, wrap64, wrap32, simprocAttr] at h) <;> try (exfalso; omega))) <;> conv => whnf)
  all_goals
    refine FIN.value h0 rfl (congrArg SV.bool ?_)
    rw [Bool.eq_iff_iff, decide_eq_true_iff]
    unfold StartI
    simp
theorem nFollower_does (r : Int) : Does Tryz.prog tab 102 0 [.int .i32 r] [] [] (Val (.bool (decide (FollowI r)))) := by
  refine Does.enter tabOK (g := 102) (fn := Tryz.f102) Tryz.call102 Tryz.func102 rfl 33 rfl rfl [.tmp 2] rfl ?_
  intro w0 F η0 h0
  conv => whnf
  repeat' ((first | with_reducible refine IF.tt ?_ | with_reducible refine IF.ff ?_ | refine CALL.value (nStarter_does _) rfl rfl ?_ | refine CALL.value (nDigit_does _) rfl rfl ?_ | refine NEED.au ?_ | ((with_reducible apply GET.at); rfl) | ((with_reducible apply GETG.at); rfl) | ((with_reducible refine UNK.mk (fun h => ?_) ?_) <;> try (exfalso; omega)) | ((with_reducible refine IF.mk (fun h => ?_) (fun h => ?_)) <;> (try simp (disch := omega) only [hsB, hsC, lnB, wrap64, wrap32, simprocAttr] at h) <;> try (exfalso; omega))) <;> conv => whnf)
  all_goals
    refine FIN.value h0 rfl (congrArg SV.bool ?_)
    rw [Bool.eq_iff_iff]
    unfold FollowI
    simp_all
    try omega
theorem nLabels_does (r : Int) : Does Tryz.prog tab 78 0 [.int .i32 r] [] [] (Val (.bool (decide (LabelI r)))) := by
  refine Does.enter tabOK (g := 78) (fn := Tryz.f78) Tryz.call78 Tryz.func78 rfl 9 rfl rfl [.tmp 2] rfl ?_
  intro w0 F η0 h0
  conv => whnf
  repeat' ((first | with_reducible refine IF.tt ?_ | with_reducible refine IF.ff ?_ | refine CALL.value (nStarter_does _) rfl rfl ?_ | refine CALL.value (nDigit_does _) rfl rfl ?_ | refine NEED.au ?_ | ((with_reducible apply GET.at); rfl) | ((with_reducible apply GETG.at); rfl) | ((with_reducible refine UNK.mk (fun h => ?_) ?_) <;> try (exfalso; omega)) | ((with_reducible refine IF.mk (fun h => ?_) (fun h => ?_)) <;> (try simp (disch := omega) only [hsB, hsC, lnB, wrap64, wrap32, simprocAttr] at h) <;> try (exfalso; omega))) <;> conv => whnf)
  all_goals
    refine FIN.value h0 rfl (congrArg SV.bool ?_)
    unfold LabelI
    simp_all
theorem nRun_does (g : Nat) (p : Int → Prop) [DecidablePred p] (hp : ∀ r : Int, Does Tryz.prog tab g 0 [.int .i32 r] [] [] (Val (.bool (decide (p r))))) (s : List UInt8) (i : Int) (hs : Sm s) : Does Tryz.prog tab 77 0 [.str s, .int .i64 i, .fn (.func g) [] []] [] [] (Val (.int .i64 (runM p s i))) := by
  have hn := nextAt_n s i
  refine Does.enter tabOK (g := 77) (fn := Tryz.f77) Tryz.call77 Tryz.func77 rfl 55 rfl rfl [.tmp 6] rfl ?_
  intro w0 F η0 h0
  conv => whnf
  repeat' ((first | with_reducible refine IF.tt ?_ | with_reducible refine IF.ff ?_ | refine CALL.value (next_does s _ hs) rfl rfl ?_ | refine CALL.value (hp _) rfl rfl ?_ | refine NEED.au ?_ | ((with_reducible apply GET.at); rfl) | ((with_reducible apply GETG.at); rfl) | ((with_reducible refine UNK.mk (fun h => ?_) ?_) <;> try (exfalso; omega)) | ((with_reducible refine IF.mk (fun h => ?_) (fun h => ?_)) <;> (try simp (disch := omega) only [hsB, hsC, lnB, wrap64, wrap32, simprocAttr] at h) <;> try (exfalso; omega))) <;> conv => whnf)
  · exact FIN.value h0 rfl (congrArg (SV.int _) (by unfold runM; rw [if_pos (.inl h)]))
  · exact FIN.value h0 rfl (congrArg (SV.int _) (by unfold runM; rw [if_pos (.inr h)]))
  rename_i h1
  have hi : 0 ≤ i ∧ i < s.length := by
    apply Classical.byContradiction; intro hh; exact h1 (by unfold nextAt; rw [if_pos (by omega)])
  refine LOOP.go tabOK [0, 1] (X := Nat × Nat) (fun x => x.1 ≤ s.length ∧ x.2 ≤ x.1 ∧ runGo s x.1 x.2 = runGo s (i.toNat + (nextAt s i).2.toNat) (i.toNat + (nextAt s i).2.toNat)) (fun x => [(10, .int .i64 (x.1 : Int)), (9, .int .i64 (x.2 : Int))]) (fun i => []) 0 (fun x => s.length - x.1) (i.toNat + (nextAt s i).2.toNat, i.toNat + (nextAt s i).2.toNat) ⟨by omega, by omega, rfl⟩ ?_
  conv => whnf
  refine ⟨by (refine GOES.cutting h0 rfl rfl rfl (by first | rfl | simp [belowO, belowH, plainLL_below, plainLL_map, plainL, plain]) ?_ ?_ <;> (repeat' (first | (with_reducible rfl) | (exact congrArg (fun n => SV.sl _ _ _ n _) (by simp)) | (exact congrArg (Hp.rows _) (by simp)) | (exact congrArg (SV.int _) (by first | omega | (simp (disch := omega) only [lnB, wrap64, wrap32] <;> omega) | (simp; done) | (simp <;> omega))) | ((conv => whnf); refine ⟨?_, ?_⟩) | exact trivial | (simp; done) | rfl))), ?_⟩
  rintro ⟨j, e⟩ ⟨hj, he, hc⟩
  simp only at hj he hc
  have hn' := nextAt_n s j
  conv => whnf
  repeat' ((first | with_reducible refine IF.tt ?_ | with_reducible refine IF.ff ?_ | refine CALL.value (next_does s _ hs) rfl rfl ?_ | refine CALL.value (nFollower_does _) rfl rfl ?_ | refine NEED.au ?_ | ((with_reducible apply GET.at); rfl) | ((with_reducible apply GETG.at); rfl) | ((with_reducible refine UNK.mk (fun h => ?_) ?_) <;> try (exfalso; omega)) | ((with_reducible refine IF.mk (fun h => ?_) (fun h => ?_)) <;> (try simp (disch := omega) only [hsB, hsC, lnB, wrap64, wrap32, simprocAttr] at h) <;> try (exfalso; omega))) <;> conv => whnf)
  all_goals first
    | (refine FIN.value h0 rfl (congrArg (SV.int _) ?_)
       unfold runM
       rw [if_neg (by simp [*]), ← hc, runGo_stop (by simp [*])]
       simp (disch := omega) only [wrap64])
    | (refine ⟨(j + (nextAt s j).2.toNat, if (nextAt s j).1 = 46 then e else j + (nextAt s j).2.toNat), ⟨by simp only; omega, by simp only; split <;> omega, ?_⟩, by simp only; omega, ?_⟩
       · simp only
         rw [← hc, ← runGo_step (by simp [*])]
       · conv => whnf
         simp only [*, if_true, if_false]
         (refine GOES.cutting h0 rfl rfl rfl (by first | rfl | simp [belowO, belowH, plainLL_below, plainLL_map, plainL, plain]) ?_ ?_ <;> (repeat' (first | (with_reducible rfl) | (exact congrArg (fun n => SV.sl _ _ _ n _) (by simp)) | (exact congrArg (Hp.rows _) (by simp)) | (exact congrArg (SV.int _) (by first | omega | (simp (disch := omega) only [lnB, wrap64, wrap32] <;> omega) | (simp; done) | (simp <;> omega))) | ((conv => whnf); refine ⟨?_, ?_⟩) | exact trivial | (simp; done) | rfl))))
theorem nLabelAt_does (s : List UInt8) (i : Int) (hs : Sm s) : Does Tryz.prog tab 49 0 [.str s, .int .i64 i] [] [] (Val (.int .i64 (runM LabelI s i))) := by
  refine Does.enter tabOK (g := 49) (fn := Tryz.f49) Tryz.call49 Tryz.func49 rfl 8 rfl rfl [.tmp 4] rfl ?_
  intro w0 F η0 h0
  conv => whnf
  repeat' ((first | with_reducible refine IF.tt ?_ | with_reducible refine IF.ff ?_ | refine CALL.value (nRun_does _ LabelI (fun r => nLabels_does r) s i hs) rfl rfl ?_ | refine NEED.au ?_ | ((with_reducible apply GET.at); rfl) | ((with_reducible apply GETG.at); rfl) | ((with_reducible refine UNK.mk (fun h => ?_) ?_) <;> try (exfalso; omega)) | ((with_reducible refine IF.mk (fun h => ?_) (fun h => ?_)) <;> (try simp (disch := omega) only [hsB, hsC, lnB, wrap64, wrap32, simprocAttr] at h) <;> try (exfalso; omega))) <;> conv => whnf)
  exact FIN.value h0 rfl rfl
theorem nLabel_does (s : List UInt8) (hs : Sm s) : Does Tryz.prog tab 32 0 [.str s] [] [] (Val (.int .i64 (labelM s))) := by
  refine Does.enter tabOK (g := 32) (fn := Tryz.f32) Tryz.call32 Tryz.func32 rfl 14 rfl rfl [.tmp 2] rfl ?_
  intro w0 F η0 h0
  conv => whnf
  repeat' ((first | with_reducible refine IF.tt ?_ | with_reducible refine IF.ff ?_ | refine CALL.value (nLabelAt_does s _ hs) rfl rfl ?_ | refine NEED.au ?_ | ((with_reducible apply GET.at); rfl) | ((with_reducible apply GETG.at); rfl) | ((with_reducible refine UNK.mk (fun h => ?_) ?_) <;> try (exfalso; omega)) | ((with_reducible refine IF.mk (fun h => ?_) (fun h => ?_)) <;> (try simp (disch := omega) only [hsB, hsC, lnB, wrap64, wrap32, simprocAttr] at h) <;> try (exfalso; omega))) <;> conv => whnf)
  · exact FIN.value h0 rfl (congrArg (SV.int _) (by unfold labelM; rw [if_pos (by simpa using h)]))
  · exact FIN.value h0 rfl (congrArg (SV.int _) (by unfold labelM; rw [if_neg (by simp; exact h)]))
end Go.Proofs.YtillkgjdbnjnoaaGreatDoor
/- Parts of language tags in plain words. No program in sight. -/
set_option linter.unusedVariables false
set_option linter.unusedSimpArgs false
namespace Go.Our
open Go.Sx
/-- Has each byte, from a place on, what p says? -/
def allB (p : Int → Bool) (s : List UInt8) (i : Nat) : Bool := !anyB (fun c => !p c) s i
theorem allB_end {p : Int → Bool} {s : List UInt8} {i : Nat} (h : s.length ≤ i) : allB p s i = true := by unfold allB; rw [anyB_end h]; rfl
theorem allB_at {p : Int → Bool} {s : List UInt8} {i : Nat} (h : i < s.length) : allB p s i = (p (byteAt s i) && allB p s (i + 1)) := by
  unfold allB; rw [anyB_at h]; simp
def letterB (c : Int) : Bool := decide (LetterI c)
def digitB (c : Int) : Bool := decide (DigitI c)
def partB (pure : Bool) (c : Int) : Bool := letterB c || (!pure && digitB c)
/-- So many bytes, all of them letters, or digits too. -/
def madeM (s : List UInt8) (least most : Int) (pure : Bool) : Bool := allB (partB pure) s 0 && decide (least ≤ s.length ∧ (s.length : Int) ≤ most)
theorem letterB_high {c : Int} (h : 128 ≤ c) : letterB c = false := decide_eq_false (by unfold LetterI; omega)
theorem digitB_high {c : Int} (h : 128 ≤ c) : digitB c = false := decide_eq_false (by unfold DigitI; omega)
theorem partB_high {pure : Bool} {c : Int} (h : 128 ≤ c) : partB pure c = false := by unfold partB; rw [letterB_high h, digitB_high h]; simp
def privateM (s : List UInt8) : Bool := s == [120] || s == [88]
def variantM (s : List UInt8) : Bool := madeM s 5 8 false || madeM s 4 4 false && digitB (byteAt s 0)
def regionM (s : List UInt8) : Bool := madeM s 2 2 true || decide (s.length = 3) && digitB (byteAt s 0) && digitB (byteAt s 1) && digitB (byteAt s 2)
/-- A byte in lower case. -/
def lowB (c : UInt8) : UInt8 := if 65 ≤ c.toNat ∧ c.toNat ≤ 90 then UInt8.ofNat (c.toNat + 32) else c
def lowerM (s : List UInt8) : List UInt8 := s.map lowB
/-- In lower case up to a place. -/
def curL (s : List UInt8) (i : Nat) : List UInt8 := (s.map lowB).take i ++ s.drop i
theorem curL_len (s : List UInt8) (i : Nat) : (curL s i).length = s.length := by unfold curL; simp; omega
theorem curL_zero (s : List UInt8) : curL s 0 = s := by simp [curL]
theorem curL_all {s : List UInt8} {i : Nat} (h : s.length ≤ i) : curL s i = lowerM s := by unfold curL lowerM; rw [List.take_of_length_le (by simpa using h), List.drop_eq_nil_of_le h, List.append_nil]
theorem curL_get {s : List UInt8} {i : Nat} (h : i < s.length) : (curL s i)[i]? = some s[i] := by
  unfold curL
  rw [List.getElem?_append_right (by simp; omega)]
  simp; rw [show min i s.length = i by omega]; simp [h]
theorem curL_set {s : List UInt8} {i : Nat} (h : i < s.length) : (curL s i).set i (lowB s[i]) = curL s (i + 1) := by
  unfold curL
  rw [List.set_append_right _ _ (by simp; omega), List.drop_eq_getElem_cons h]
  simp only [List.length_map, List.length_take]
  rw [show i - min i s.length = 0 by omega, List.set_cons_zero, List.take_succ_eq_append_getElem (by simpa using h), List.getElem_map, List.append_assoc]
  rfl
theorem curL_same {s : List UInt8} {i : Nat} (h : i < s.length) (hc : lowB s[i] = s[i]) : curL s i = curL s (i + 1) := by
  unfold curL
  rw [List.drop_eq_getElem_cons h, List.take_succ_eq_append_getElem (by simpa using h), List.getElem_map, hc, List.append_assoc]
  rfl
theorem rowL_get {s : List UInt8} {i : Nat} (h : i < s.length) : ((curL s i).map Sx.bytesRow)[i]? = some (Sx.bytesRow s[i]) := by
  rw [List.getElem?_map, curL_get h]; rfl
theorem rowL_set {s : List UInt8} {i : Nat} (h : i < s.length) : ((curL s i).map Sx.bytesRow).set i (Sx.bytesRow (lowB s[i])) = (curL s (i + 1)).map Sx.bytesRow := by
  rw [← List.map_set, curL_set h]
theorem lowB_up {c : UInt8} (h : 65 ≤ (c.toNat : Int) ∧ (c.toNat : Int) ≤ 90) : [SV.int .u8 (IntKind.u8.wrap ((c.toNat : Int) + 32))] = Sx.bytesRow (lowB c) := by
  unfold Sx.bytesRow lowB
  rw [if_pos (by omega), wrapu8 (by omega) (by omega), UInt8.toNat_ofNat_of_lt' (by show c.toNat + 32 < 256; omega)]
  simp
theorem lowB_id {c : UInt8} (h : ¬ (65 ≤ (c.toNat : Int) ∧ (c.toNat : Int) ≤ 90)) : lowB c = c := by unfold lowB; rw [if_neg (by omega)]
end Go.Our
/- names: parts of tags, walked. Conditions: none. -/
set_option linter.unusedVariables false
set_option linter.unusedSimpArgs false
set_option maxRecDepth 20000
namespace Go.Proofs.YtillkgjdbnjnoaaGreatDoor
open Go.Sx Go.Our
theorem made_does (s : List UInt8) (least most : Int) (pure : Bool) (hs : Sm s) : Does Tryz.prog tab 107 0 [.str s, .int .i64 least, .int .i64 most, .bool pure] [] [] (Val (.bool (madeM s least most pure))) := by
  refine Does.enter tabOK (g := 107) (fn := Tryz.f107) Tryz.call107 Tryz.func107 rfl 37 rfl rfl [.tmp 8] rfl ?_
  intro w0 F η0 h0
  conv => whnf
  refine LOOP.go tabOK [0, 1, 2, 3, 12] (X := Nat) (fun i => i ≤ s.length ∧ allB (partB pure) s i = allB (partB pure) s 0) (fun i => []) (fun i => [(0, .siter s i)]) 1 (fun i => s.length - i) 0 ⟨by omega, rfl⟩ ?_
  conv => whnf
  refine ⟨by (refine GOES.cutting h0 rfl rfl rfl (by first | rfl | simp [belowO, belowH, plainLL_below, plainLL_map, plainL, plain]) ?_ ?_ <;> (repeat' (first | (with_reducible rfl) | (exact congrArg (fun n => SV.sl _ _ _ n _) (by simp)) | (exact congrArg (Hp.rows _) (by simp)) | (exact congrArg (SV.int _) (by first | omega | (simp (disch := omega) only [lnB, wrap64, wrap32] <;> omega) | (simp; done) | (simp <;> omega))) | ((conv => whnf); refine ⟨?_, ?_⟩) | exact trivial | (simp; done) | rfl))), ?_⟩
  rintro i ⟨hi, hc⟩
  conv => whnf
  refine ⟨fun h => ?_, fun h => ?_⟩
  · have h : i < s.length := by simpa using h
    have hf := deco_fits s i h
    have hp := deco_pos s i
    have hd : ((deco s i).1 : Int) = byteAt s i ∧ (deco s i).2 = 1 ∨ 128 ≤ byteAt s i ∧ 128 ≤ (deco s i).1 := by
      have hb := byteAt_lt s i
      by_cases ha : byteAt s i < 128
      · left; rw [deco_ascii ha]; simp; omega
      · right; exact ⟨by omega, deco_high (by omega)⟩
    unfold deco at *
    generalize Utf8.decode ⟨s.toArray⟩ i = d at *
    obtain ⟨r, n⟩ := d
    simp only at hf hp hd
    have key : allB (partB pure) s 0 = (partB pure r && allB (partB pure) s (i + n)) ∨ 128 ≤ r ∧ allB (partB pure) s 0 = false := by
      rcases hd with ⟨h1, rfl⟩ | ⟨h1, h2⟩
      · left; rw [← hc, allB_at h, h1]
      · right; exact ⟨h2, by rw [← hc, allB_at h, partB_high h1, Bool.false_and]⟩
    conv => whnf
    repeat' ((first | with_reducible refine IF.tt ?_ | with_reducible refine IF.ff ?_ | refine CALL.value (nLetter_does _) rfl rfl ?_ | refine CALL.value (nDigit_does _) rfl rfl ?_ | refine NEED.au ?_ | ((with_reducible apply GET.at); rfl) | ((with_reducible apply GETG.at); rfl) | ((with_reducible refine UNK.mk (fun h => ?_) ?_) <;> try (exfalso; omega)) | ((with_reducible refine IF.mk (fun h => ?_) (fun h => ?_)) <;> (try simp (disch := omega) only [hsB, hsC, lnB, wrap64, wrap32, simprocAttr] at h) <;> try (exfalso; omega))) <;> conv => whnf)
    all_goals first
      | (refine FIN.value h0 rfl (congrArg SV.bool ?_)
         have h1 : partB pure r = false := by unfold partB letterB digitB; simp [*]
         have h2 : allB (partB pure) s 0 = false := by rcases key with h | h <;> simp [h, h1]
         unfold madeM; rw [h2]; rfl)
      | (have h1 : partB pure r = true := by unfold partB letterB digitB; simp [*]
         refine ⟨i + n, ⟨hf, ?_⟩, by omega, ?_⟩
         · rcases key with h | h
           · rw [h, h1, Bool.true_and]
           · rw [partB_high (by omega)] at h1; cases h1
         · conv => whnf
           (refine GOES.cutting h0 rfl rfl rfl (by first | rfl | simp [belowO, belowH, plainLL_below, plainLL_map, plainL, plain]) ?_ ?_ <;> (repeat' (first | (with_reducible rfl) | (exact congrArg (fun n => SV.sl _ _ _ n _) (by simp)) | (exact congrArg (Hp.rows _) (by simp)) | (exact congrArg (SV.int _) (by first | omega | (simp (disch := omega) only [lnB, wrap64, wrap32] <;> omega) | (simp; done) | (simp <;> omega))) | ((conv => whnf); refine ⟨?_, ?_⟩) | exact trivial | (simp; done) | rfl))))
  · have h : s.length ≤ i := by simpa using h
    conv => whnf
    repeat' ((first | with_reducible refine IF.tt ?_ | with_reducible refine IF.ff ?_ | refine NEED.au ?_ | ((with_reducible apply GET.at); rfl) | ((with_reducible apply GETG.at); rfl) | ((with_reducible refine UNK.mk (fun h => ?_) ?_) <;> try (exfalso; omega)) | ((with_reducible refine IF.mk (fun h => ?_) (fun h => ?_)) <;> (try simp (disch := omega) only [hsB, hsC, lnB, wrap64, wrap32, simprocAttr] at h) <;> try (exfalso; omega))) <;> conv => whnf)
    all_goals
      refine FIN.value h0 rfl (congrArg SV.bool ?_)
      unfold madeM
      rw [← hc, allB_end h, Bool.eq_iff_iff]
      simp [Bool.cond_eq_ite]
theorem private_does (s : List UInt8) : Does Tryz.prog tab 81 0 [.str s] [] [] (Val (.bool (privateM s))) := by
  refine Does.enter tabOK (g := 81) (fn := Tryz.f81) Tryz.call81 Tryz.func81 rfl 9 rfl rfl [.tmp 2] rfl ?_
  intro w0 F η0 h0
  conv => whnf
  repeat' ((first | with_reducible refine IF.tt ?_ | with_reducible refine IF.ff ?_ | refine NEED.au ?_ | ((with_reducible apply GET.at); rfl) | ((with_reducible apply GETG.at); rfl) | ((with_reducible refine UNK.mk (fun h => ?_) ?_) <;> try (exfalso; omega)) | ((with_reducible refine IF.mk (fun h => ?_) (fun h => ?_)) <;> (try simp (disch := omega) only [hsB, hsC, lnB, wrap64, wrap32, simprocAttr] at h) <;> try (exfalso; omega))) <;> conv => whnf)
  refine FIN.value h0 rfl (congrArg SV.bool ?_)
  unfold privateM
  rw [Bool.eq_iff_iff]
  simp [Bool.cond_eq_ite]
theorem region_does (s : List UInt8) (hs : Sm s) : Does Tryz.prog tab 110 0 [.str s] [] [] (Val (.bool (regionM s))) := by
  have b0 := byteAt_lt s 0; have b1 := byteAt_lt s 1; have b2 := byteAt_lt s 2
  refine Does.enter tabOK (g := 110) (fn := Tryz.f110) Tryz.call110 Tryz.func110 rfl 28 rfl rfl [.tmp 2] rfl ?_
  intro w0 F η0 h0
  conv => whnf
  repeat' ((first | with_reducible refine IF.tt ?_ | with_reducible refine IF.ff ?_ | refine CALL.value (made_does _ _ _ _ hs) rfl rfl ?_ | refine CALL.value (nDigit_does _) rfl rfl ?_ | refine NEED.au ?_ | ((with_reducible apply GET.at); rfl) | ((with_reducible apply GETG.at); rfl) | ((with_reducible refine UNK.mk (fun h => ?_) ?_) <;> try (exfalso; omega)) | ((with_reducible refine IF.mk (fun h => ?_) (fun h => ?_)) <;> (try simp (disch := omega) only [hsB, hsC, lnB, wrap64, wrap32, simprocAttr] at h) <;> try (exfalso; omega))) <;> conv => whnf)
  all_goals
    refine FIN.value h0 rfl (congrArg SV.bool ?_)
    unfold regionM digitB
    try simp (disch := omega) only [wrap32] at *
    simp_all
    try omega
theorem variant_does (s : List UInt8) (hs : Sm s) : Does Tryz.prog tab 111 0 [.str s] [] [] (Val (.bool (variantM s))) := by
  have b0 := byteAt_lt s 0
  have hm : madeM s 4 4 false = true → s.length = 4 := by unfold madeM; simp; omega
  refine Does.enter tabOK (g := 111) (fn := Tryz.f111) Tryz.call111 Tryz.func111 rfl 15 rfl rfl [.tmp 2] rfl ?_
  intro w0 F η0 h0
  conv => whnf
  repeat' ((first | with_reducible refine IF.tt ?_ | with_reducible refine IF.ff ?_ | refine CALL.value (made_does _ _ _ _ hs) rfl rfl ?_ | refine CALL.value (nDigit_does _) rfl rfl ?_ | (refine NEED.mk (by have := hm (by assumption); omega) ?_; conv => whnf) | refine NEED.au ?_ | ((with_reducible apply GET.at); rfl) | ((with_reducible apply GETG.at); rfl) | ((with_reducible refine UNK.mk (fun h => ?_) ?_) <;> try (exfalso; omega)) | ((with_reducible refine IF.mk (fun h => ?_) (fun h => ?_)) <;> (try simp (disch := omega) only [hsB, hsC, lnB, wrap64, wrap32, simprocAttr] at h) <;> try (exfalso; omega))) <;> conv => whnf)
  all_goals
    refine FIN.value h0 rfl (congrArg SV.bool ?_)
    unfold variantM digitB
    try simp (disch := omega) only [wrap32] at *
    simp_all
theorem lower_does (s : List UInt8) (hs : Sm s) : Does Tryz.prog tab 51 0 [.str s] [] [] (Val (.str (lowerM s))) := by
  refine Does.enter tabOK (g := 51) (fn := Tryz.f51) Tryz.call51 Tryz.func51 rfl 29 rfl rfl [.tmp 2] rfl ?_
  intro w0 F η0 h0
  conv => whnf
  repeat' ((first | with_reducible refine IF.tt ?_ | with_reducible refine IF.ff ?_ | refine NEED.au ?_ | ((with_reducible apply GET.at); rfl) | ((with_reducible apply GETG.at); rfl) | ((with_reducible refine UNK.mk (fun h => ?_) ?_) <;> try (exfalso; omega)) | ((with_reducible refine IF.mk (fun h => ?_) (fun h => ?_)) <;> (try simp (disch := omega) only [hsB, hsC, lnB, wrap64, wrap32, simprocAttr] at h) <;> try (exfalso; omega))) <;> conv => whnf)
  refine LOOP.go tabOK [3, 8, 9] (X := Nat) (fun i => i ≤ s.length) (fun i => [(10, .int .i64 (i : Int))]) (fun i => [(0, .rows 1 ((curL s i).map Sx.bytesRow))]) 1 (fun i => s.length - i) 0 (by omega) ?_
  conv => whnf
  refine ⟨by (refine GOES.cutting h0 rfl rfl rfl (by first | rfl | (simp only [belowO, belowH, plainLL_below _ (plainBytes _), Bool.and_self, Bool.and_true] <;> rfl)) ?_ ?_ <;> (repeat' (first | (with_reducible rfl) | (exact sl_eq rfl (by first | (simp; done) | omega | (simp; omega))) | (exact congrArg (SV.int _) (by first | omega | (simp (disch := omega) only [lnB, wrap64, wrap32] <;> omega) | (simp; done) | (simp <;> omega))) | (exact congrArg (Hp.rows _) (by rw [curL_zero])) | ((conv => whnf); refine ⟨?_, ?_⟩) | exact trivial | rfl))), ?_⟩
  intro i hi
  have hlen := curL_len s i
  conv => whnf
  repeat' ((first | with_reducible refine IF.tt ?_ | with_reducible refine IF.ff ?_ | (refine GET.at (row := Sx.bytesRow (s[i]'(by omega))) (by rw [show 0 + (i : Int).toNat = i by omega]; exact rowL_get (by omega)) ?_; conv => whnf) | refine NEED.au ?_ | ((with_reducible apply GET.at); rfl) | ((with_reducible apply GETG.at); rfl) | ((with_reducible refine UNK.mk (fun h => ?_) ?_) <;> try (exfalso; omega)) | ((with_reducible refine IF.mk (fun h => ?_) (fun h => ?_)) <;> (try simp (disch := omega) only [hsB, hsC, lnB, wrap64, wrap32, simprocAttr] at h) <;> try (exfalso; omega))) <;> conv => whnf)
  · have hl : i < s.length := by omega
    refine ⟨i + 1, by omega, by omega, ?_⟩
    conv => whnf
    (refine GOES.cutting h0 rfl rfl rfl (by first | rfl | (simp only [belowO, belowH, plainLL_below _ (plainBytes _), Bool.and_self, Bool.and_true] <;> rfl)) ?_ ?_ <;> (repeat' (first | (with_reducible rfl) | (exact sl_eq rfl (by first | (simp; done) | omega | (simp; omega))) | (exact congrArg (SV.int _) (by first | omega | (simp (disch := omega) only [lnB, wrap64, wrap32] <;> omega) | (simp; done) | (simp <;> omega))) | (exact congrArg (Hp.rows _) (by rw [lowB_up h, show 0 + (i : Int).toNat = i by omega, rowL_set hl])) | ((conv => whnf); refine ⟨?_, ?_⟩) | exact trivial | rfl)))
  · have hl : i < s.length := by omega
    refine ⟨i + 1, by omega, by omega, ?_⟩
    conv => whnf
    (refine GOES.cutting h0 rfl rfl rfl (by first | rfl | (simp only [belowO, belowH, plainLL_below _ (plainBytes _), Bool.and_self, Bool.and_true] <;> rfl)) ?_ ?_ <;> (repeat' (first | (with_reducible rfl) | (exact sl_eq rfl (by first | (simp; done) | omega | (simp; omega))) | (exact congrArg (SV.int _) (by first | omega | (simp (disch := omega) only [lnB, wrap64, wrap32] <;> omega) | (simp; done) | (simp <;> omega))) | (exact congrArg (Hp.rows _) (by rw [curL_same hl (lowB_id (by omega))])) | ((conv => whnf); refine ⟨?_, ?_⟩) | exact trivial | rfl)))
  · refine NEED.mk (needText (by omega)) ?_
    conv => whnf
    refine FIN.value h0 rfl (congrArg SV.str ?_)
    have := textAll (curL s i)
    rw [hlen] at this
    rw [this, curL_all (by omega)]
end Go.Proofs.YtillkgjdbnjnoaaGreatDoor
/- Parts between hyphens, in plain words. No program in sight. -/
set_option linter.unusedVariables false
set_option linter.unusedSimpArgs false
namespace Go.Our
open Go.Sx
def splitM : List UInt8 → List (List UInt8)
  | [] => [[]]
  | c :: t => if c = 45 then [] :: splitM t else match splitM t with
    | h :: r => (c :: h) :: r
    | [] => [[c]]
theorem split_ne : ∀ s, splitM s ≠ []
  | [] => by simp [splitM]
  | c :: t => by
    unfold splitM
    split
    · simp
    · split <;> simp
theorem split_count : ∀ s : List UInt8, (splitM s).length = s.count 45 + 1
  | [] => rfl
  | c :: t => by
    have ih := split_count t
    unfold splitM
    split
    · rename_i h; subst h; simp [ih]
    · rename_i h
      split
      · rename_i h' r e
        rw [e] at ih
        simp at ih ⊢
        rw [List.count_cons_of_ne (by simpa using h)]; omega
      · rename_i e; exact (split_ne t e).elim
theorem split_none : ∀ {s : List UInt8}, Lib.indexByte s 45 = -1 → splitM s = [s]
  | [], _ => rfl
  | c :: t, h => by
    unfold Lib.indexByte at h
    by_cases hc : c = 45
    · subst hc; simp at h
    · have hge := Lib.indexByte_ge t 45
      have : Lib.indexByte t 45 = -1 := by
        simp [hc] at h
        apply Classical.byContradiction
        intro hn
        have := h hn
        omega
      unfold splitM
      rw [if_neg hc, split_none this]
theorem split_some : ∀ {s : List UInt8} {m : Nat}, Lib.indexByte s 45 = m → m < s.length ∧ splitM s = s.take m :: splitM (s.drop (m + 1))
  | [], m, h => by unfold Lib.indexByte at h; omega
  | c :: t, m, h => by
    unfold Lib.indexByte at h
    by_cases hc : c = 45
    · subst hc
      simp at h
      obtain rfl : m = 0 := by omega
      simp [splitM]
    · have hge := Lib.indexByte_ge t 45
      simp [hc] at h
      split at h
      · omega
      · obtain ⟨k, rfl⟩ : ∃ k, m = k + 1 := ⟨m - 1, by omega⟩
        have ih := split_some (s := t) (m := k) (by omega)
        refine ⟨by simp; omega, ?_⟩
        conv => lhs; unfold splitM
        rw [if_neg hc, ih.2]
        simp only [List.take_succ_cons, List.drop_succ_cons]
theorem split_len (s : List UInt8) : (splitM s).length ≤ s.length + 1 := by
  rw [split_count]; have := List.count_le_length (a := (45 : UInt8)) (l := s); omega
def strRow (s : List UInt8) : List SV := [.str s]
theorem plainStrs (l : List (List UInt8)) : plainLL (l.map strRow) = true := plainLL_map _ (fun _ => rfl) l
/-- Rows that are filled one by one. -/
def fillR (d : List (List UInt8)) (k : Nat) : List (List SV) := d.map strRow ++ List.replicate k (strRow [])
theorem plainFill (d : List (List UInt8)) (k : Nat) : plainLL (fillR d k) = true := by
  unfold fillR
  refine plainLL_append (plainStrs d) ?_
  induction k with
  | zero => rfl
  | succ k ih => rw [List.replicate_succ]; simp only [plainLL, ih]; rfl
theorem fill_get {d : List (List UInt8)} {k i : Nat} (h : i = d.length) (hk : 0 < k) : (fillR d k)[i]? = some (strRow []) := by
  subst h
  unfold fillR
  rw [List.getElem?_append_right (by simp)]
  simp [List.getElem?_replicate, hk]
theorem fill_set {d : List (List UInt8)} {k i : Nat} {p : List UInt8} (h : i = d.length) (hk : 0 < k) : (fillR d k).set i [.str p] = fillR (d ++ [p]) (k - 1) := by
  subst h
  obtain ⟨j, rfl⟩ : ∃ j, k = j + 1 := ⟨k - 1, by omega⟩
  unfold fillR
  rw [List.set_append_right _ _ (by simp)]
  simp [List.replicate_succ, strRow]
end Go.Our
/- strings.Split at a hyphen, slices.Contains at texts, cmp.Or at error numbers, walked. Conditions: none. -/
set_option linter.unusedVariables false
set_option linter.unusedSimpArgs false
set_option maxRecDepth 20000
namespace Go.Proofs.YtillkgjdbnjnoaaGreatDoor
open Go.Sx Go.Our
theorem countString_does (s : List UInt8) (c : Int) : Does Tryz.prog tab 131 0 [.str s, .int .u8 c] [] [] (Val (.int .i64 (Lib.countByte s c.toNat.toUInt8 : Nat))) := by
  refine Does.says fun η w vs hd => ?_
  simp only [DenL, Den] at hd
  obtain ⟨u, us, rfl, rfl, u', us', rfl, rfl, rfl⟩ := hd
  refine ⟨_, ?_, rfl⟩
  rw [run_callFunc_extern Tryz.func131 (by kernel_rfl) (by kernel_rfl) (by kernel_rfl) (e := Extern.BytealgCount.count) (by kernel_rfl), Lib.run_countString]
  rfl
theorem count_does (s : List UInt8) : Does Tryz.prog tab 121 0 [.str s, .str [45]] [] [] (Val (.int .i64 (s.count 45 : Nat))) := by
  refine Does.enter tabOK (g := 121) (fn := Tryz.f121) Tryz.call121 Tryz.func121 rfl 34 rfl rfl [.tmp 4] rfl ?_
  intro w0 F η0 h0
  conv => whnf
  repeat' ((first | with_reducible refine IF.tt ?_ | with_reducible refine IF.ff ?_ | refine CALL.value (countString_does _ _) rfl rfl ?_ | refine NEED.au ?_ | ((with_reducible apply GET.at); rfl) | ((with_reducible apply GETG.at); rfl) | ((with_reducible refine UNK.mk (fun h => ?_) ?_) <;> try (exfalso; omega)) | ((with_reducible refine IF.mk (fun h => ?_) (fun h => ?_)) <;> (try simp (disch := omega) only [hsB, hsC, lnB, wrap64, wrap32, simprocAttr] at h) <;> try (exfalso; omega))) <;> conv => whnf)
  all_goals first
    | exact FIN.value h0 rfl rfl
    | (exfalso; simp at *; done)
theorem slIndex_does (s : List UInt8) : Does Tryz.prog tab 132 0 [.str s, .str [45]] [] [] (Val (.int .i64 (Lib.indexByte s 45))) := by
  refine Does.enter tabOK (g := 132) (fn := Tryz.f132) Tryz.call132 Tryz.func132 rfl 143 rfl rfl [.tmp 4] rfl ?_
  intro w0 F η0 h0
  conv => whnf
  repeat' ((first | with_reducible refine IF.tt ?_ | with_reducible refine IF.ff ?_ | refine CALL.value (indexByteString_does _ _) rfl rfl ?_ | refine CALL.value (slIndexByte_does _ _) rfl rfl ?_ | refine CALL.value (indexByte_does _ _) rfl rfl ?_ | refine NEED.au ?_ | ((with_reducible apply GET.at); rfl) | ((with_reducible apply GETG.at); rfl) | ((with_reducible refine UNK.mk (fun h => ?_) ?_) <;> try (exfalso; omega)) | ((with_reducible refine IF.mk (fun h => ?_) (fun h => ?_)) <;> (try simp (disch := omega) only [hsB, hsC, lnB, wrap64, wrap32, simprocAttr] at h) <;> try (exfalso; omega))) <;> conv => whnf)
  all_goals first
    | exact FIN.value h0 rfl rfl
    | (subst h; exact FIN.value h0 rfl rfl)
    | (rcases h with h | h
       · exact absurd h (by decide)
       · subst h; exact FIN.value h0 rfl rfl)
    | exact absurd (by assumption : ¬ ((0 + 1 : Nat) : Int) = 1) (by decide)
theorem index_does (s : List UInt8) : Does Tryz.prog tab 122 0 [.str s, .str [45]] [] [] (Val (.int .i64 (Lib.indexByte s 45))) := by
  refine Does.enter tabOK (g := 122) (fn := Tryz.f122) Tryz.call122 Tryz.func122 rfl 8 rfl rfl [.tmp 4] rfl ?_
  intro w0 F η0 h0
  conv => whnf
  repeat' ((first | with_reducible refine IF.tt ?_ | with_reducible refine IF.ff ?_ | refine CALL.value (slIndex_does _) rfl rfl ?_ | refine NEED.au ?_ | ((with_reducible apply GET.at); rfl) | ((with_reducible apply GETG.at); rfl) | ((with_reducible refine UNK.mk (fun h => ?_) ?_) <;> try (exfalso; omega)) | ((with_reducible refine IF.mk (fun h => ?_) (fun h => ?_)) <;> (try simp (disch := omega) only [hsB, hsC, lnB, wrap64, wrap32, simprocAttr] at h) <;> try (exfalso; omega))) <;> conv => whnf)
  exact FIN.value h0 rfl rfl
theorem needMake {l c : Int} {b : Nat} (B : Nat) (hb : Nat.ble b B = true) (h0 : 0 ≤ l) (h1 : l ≤ c) (h2 : (B : Int) * c ≤ 281474976710656 ∧ c ≤ 9223372036854775807) : 0 ≤ l ∧ l ≤ c ∧ c ≤ 9223372036854775807 ∧ (b : Int) * c ≤ 281474976710656 :=
  ⟨h0, h1, h2.2, Int.le_trans (Int.mul_le_mul_of_nonneg_right (by have := Nat.le_of_ble_eq_true hb; omega) (by omega)) h2.1⟩
theorem genSplit_does (s : List UInt8) (hs : s.length ≤ 68719476736) : Does Tryz.prog tab 105 0 [.str s, .str [45], .int .i64 0, .int .i64 (-1)] [] [] (NewS 1 ((splitM s).map strRow)) := by
  have hcnt := split_count s
  have hlen := split_len s
  have hne := split_ne s
  refine Does.enter tabOK (g := 105) (fn := Tryz.f105) Tryz.call105 Tryz.func105 rfl 66 rfl rfl [.tmp 8] rfl ?_
  intro w0 F η0 h0
  conv => whnf
  repeat' ((first | with_reducible refine IF.tt ?_ | with_reducible refine IF.ff ?_ | refine CALL.value (count_does _) rfl rfl ?_ | refine NEED.au ?_ | ((with_reducible apply GET.at); rfl) | ((with_reducible apply GETG.at); rfl) | ((with_reducible refine UNK.mk (fun h => ?_) ?_) <;> try (exfalso; omega)) | ((with_reducible refine IF.mk (fun h => ?_) (fun h => ?_)) <;> (try simp (disch := omega) only [hsB, hsC, lnB, wrap64, wrap32, simprocAttr] at h) <;> try (exfalso; omega))) <;> conv => whnf)
  have hn : (if IntKind.i64.wrap ((s.length : Int) + 1) < IntKind.i64.wrap (((s.count 45 : Nat) : Int) + 1) then IntKind.i64.wrap ((s.length : Int) + 1) else IntKind.i64.wrap (((s.count 45 : Nat) : Int) + 1)) = ((splitM s).length : Int) := by
    simp (disch := omega) only [wrap64]
    rw [if_neg (by omega)]; omega
  rw [hn]
  refine NEED.mk (needMake 16 rfl (by omega) (by omega) (by omega)) ?_
  conv => whnf
  rw [show List.replicate ((splitM s).length : Int).toNat [SV.str []] = fillR [] (splitM s).length by rw [Int.toNat_natCast]; rfl]
  refine LOOP.go tabOK [1, 2, 3, 9] (X := List (List UInt8) × List UInt8) (fun x => splitM s = x.1 ++ splitM x.2 ∧ x.2.length ≤ s.length) (fun x => [(10, .int .i64 (x.1.length : Int)), (0, .str x.2)]) (fun x => [(0, .rows 1 (fillR x.1 ((splitM s).length - x.1.length)))]) 1 (fun x => (splitM s).length - x.1.length) ([], s) ⟨rfl, Nat.le_refl _⟩ ?_
  conv => whnf
  refine ⟨by (refine GOES.cutting h0 rfl rfl rfl (by first | rfl | (simp only [belowO, belowH, plainLL_below _ (plainFill _ _), Bool.and_self, Bool.and_true] <;> rfl)) ?_ ?_ <;> (repeat' (first | (with_reducible rfl) | (exact sl_eq rfl (by first | (simp; done) | omega | (simp; omega))) | (exact congrArg (SV.int _) (by first | omega | (simp (disch := omega) only [lnB, wrap64, wrap32] <;> omega) | (simp; done) | (simp <;> omega))) | (exact congrArg (Hp.rows _) (by rfl)) | ((conv => whnf); refine ⟨?_, ?_⟩) | exact trivial | rfl))), ?_⟩
  rintro ⟨d, u⟩ ⟨he, hu⟩
  dsimp only at he hu ⊢
  have hd : d.length + (splitM u).length = (splitM s).length := by rw [he, List.length_append]
  have hun : 1 ≤ (splitM u).length := by have := split_count u; omega
  have hm : Lib.indexByte u 45 = -1 ∧ splitM u = [u] ∨ ∃ m : Nat, Lib.indexByte u 45 = m ∧ m < u.length ∧ splitM u = u.take m :: splitM (u.drop (m + 1)) := by
    have hge := Lib.indexByte_ge u 45
    by_cases h : Lib.indexByte u 45 = -1
    · exact .inl ⟨h, split_none h⟩
    · have e : Lib.indexByte u 45 = ((Lib.indexByte u 45).toNat : Int) := by omega
      have := split_some e
      exact .inr ⟨_, e, this.1, this.2⟩
  conv => whnf
  rcases hm with ⟨hm, hs1⟩ | ⟨m, hm, hml, hs1⟩
  · have h1 : (splitM u).length = 1 := by rw [hs1]; rfl
    repeat' ((first | with_reducible refine IF.tt ?_ | with_reducible refine IF.ff ?_ | refine CALL.value (index_does _) rfl rfl ?_ | (refine GET.at (row := strRow []) (fill_get (by omega) (by omega)) ?_; conv => whnf) | (refine NEED.mk (by rw [wrap64 (by omega) (by omega)]; refine ⟨by omega, ?_⟩; show _ ≤ ((max (((splitM s).length : Int).toNat) (_ - 0) : Nat) : Int); omega) ?_; conv => whnf) | refine NEED.au ?_ | ((with_reducible apply GET.at); rfl) | ((with_reducible apply GETG.at); rfl) | ((with_reducible refine UNK.mk (fun h => ?_) ?_) <;> try (exfalso; omega)) | ((with_reducible refine IF.mk (fun h => ?_) (fun h => ?_)) <;> (try simp (disch := omega) only [hsB, hsC, lnB, wrap64, wrap32, simprocAttr] at h) <;> try (exfalso; omega))) <;> conv => whnf)
    rw [fill_set (by omega) (by omega)]
    have hw : (IntKind.i64.wrap ((d.length : Int) + 1)).toNat = ((splitM s).map strRow).length := by
      rw [wrap64 (by omega) (by omega), List.length_map]; omega
    rw [hw, show (splitM s).length - d.length - 1 = 0 by omega, show fillR (d ++ [u]) 0 = (splitM s).map strRow by rw [he, hs1]; simp [fillR]]
    exact FIN.rows h0 0 1 _ rfl rfl rfl (plainStrs _) ⟨rfl, rfl, rfl⟩
  · have h1 : 2 ≤ (splitM u).length := by rw [hs1]; have := split_count (u.drop (m + 1)); simp; omega
    repeat' ((first | with_reducible refine IF.tt ?_ | with_reducible refine IF.ff ?_ | refine CALL.value (index_does _) rfl rfl ?_ | (refine GET.at (row := strRow []) (fill_get (by omega) (by omega)) ?_; conv => whnf) | refine NEED.au ?_ | ((with_reducible apply GET.at); rfl) | ((with_reducible apply GETG.at); rfl) | ((with_reducible refine UNK.mk (fun h => ?_) ?_) <;> try (exfalso; omega)) | ((with_reducible refine IF.mk (fun h => ?_) (fun h => ?_)) <;> (try simp (disch := omega) only [hsB, hsC, lnB, wrap64, wrap32, simprocAttr] at h) <;> try (exfalso; omega))) <;> conv => whnf)
    have hw1 : (IntKind.i64.wrap (Lib.indexByte u 45 + (([45] : List UInt8).length : Int))).toNat = m + 1 := by
      rw [hm]; simp only [List.length_cons, List.length_nil]; rw [wrap64 (by omega) (by omega)]; omega
    have hw2 : (IntKind.i64.wrap (Lib.indexByte u 45 + 0)).toNat = m := by
      rw [hm, wrap64 (by omega) (by omega)]; omega
    rw [hw1, hw2, fill_set (by omega) (by omega)]
    refine ⟨(d ++ [u.take m], u.drop (m + 1)), ⟨by rw [he, hs1]; simp, by simp; omega⟩, by simp; omega, ?_⟩
    dsimp only
    conv => whnf
    (refine GOES.cutting h0 rfl rfl rfl (by first | rfl | (simp only [belowO, belowH, plainLL_below _ (plainFill _ _), Bool.and_self, Bool.and_true] <;> rfl)) ?_ ?_ <;> (repeat' (first | (with_reducible rfl) | (exact sl_eq rfl (by first | (simp; done) | omega | (simp; omega))) | (exact congrArg (SV.int _) (by first | omega | (simp (disch := omega) only [lnB, wrap64, wrap32] <;> omega) | (simp; done) | (simp <;> omega))) | (exact congrArg (Hp.rows _) (by congr 1; simp; omega)) | ((conv => whnf); refine ⟨?_, ?_⟩) | exact trivial | rfl)))
theorem split_does (s : List UInt8) (hs : s.length ≤ 68719476736) : Does Tryz.prog tab 79 0 [.str s, .str [45]] [] [] (NewS 1 ((splitM s).map strRow)) := by
  refine Does.enter tabOK (g := 79) (fn := Tryz.f79) Tryz.call79 Tryz.func79 rfl 8 rfl rfl [.tmp 4] rfl ?_
  intro w0 F η0 h0
  conv => whnf
  refine CALL.newS (genSplit_does s hs) rfl (plainStrs _) ?_
  conv => whnf
  exact FIN.rows h0 0 1 _ rfl rfl rfl (plainStrs _) ⟨rfl, rfl, rfl⟩
end Go.Proofs.YtillkgjdbnjnoaaGreatDoor
/- Language tags: which parts make one. No program in sight. -/
set_option linter.unusedVariables false
set_option linter.unusedSimpArgs false
namespace Go.Our
open Go.Sx
/-- One byte, a letter or a digit, but no x. -/
def singleM (s : List UInt8) : Bool := madeM s 1 1 false && !privateM s
/-- How many parts in a row say what p says. -/
def spanM (p : List UInt8 → Bool) : List (List UInt8) → Nat
  | [] => 0
  | s :: l => if p s = true then spanM p l + 1 else 0
theorem span_le (p : List UInt8 → Bool) : ∀ l, spanM p l ≤ l.length
  | [] => by simp [spanM]
  | s :: l => by
    have := span_le p l
    unfold spanM; split <;> simp <;> omega
abbrev partOK (least : Int) : List UInt8 → Bool := fun s => madeM s least 8 false
def extP : Nat → List (List UInt8) → List (List UInt8)
  | 0, l => l
  | _ + 1, [] => []
  | n + 1, s :: l => if madeM s 3 3 true = true then extP n l else s :: l
/-- Behind the language. -/
def langP : List (List UInt8) → Option (List (List UInt8))
  | [] => none
  | s :: l => if madeM s 2 8 true = true then (if 3 < s.length then some l else some (extP 3 l)) else none
def skipIf (p : List UInt8 → Bool) : List (List UInt8) → List (List UInt8)
  | [] => []
  | s :: l => if p s = true then l else s :: l
def varsP (seen : List (List UInt8)) : List (List UInt8) → Option (List (List UInt8) × List (List UInt8))
  | [] => some ([], seen)
  | s :: l => if variantM s = true then (if lowerM s ∈ seen then none else varsP (seen ++ [lowerM s]) l) else some (s :: l, seen)
def extsP (seen : List (List UInt8)) : List (List UInt8) → Option (List (List UInt8))
  | [] => some []
  | s :: l => if singleM s = true then
        (if spanM (partOK 2) l = 0 ∨ lowerM s ∈ seen then none else extsP (seen ++ [lowerM s]) (l.drop (spanM (partOK 2) l)))
      else some (s :: l)
termination_by l => l.length
decreasing_by simp; omega
def restP (l : List (List UInt8)) : Option (List (List UInt8)) :=
  match varsP [] (skipIf regionM (skipIf (fun s => madeM s 4 4 true) l)) with
  | none => none
  | some (l, seen) => extsP seen l
def headIs (p : List UInt8 → Bool) : List (List UInt8) → Bool
  | [] => false
  | s :: _ => p s
def lastP : List (List UInt8) → Bool
  | [] => true
  | s :: l => if privateM s = true then decide (spanM (partOK 1) l ≠ 0 ∧ spanM (partOK 1) l = l.length) else false
def tagP (l : List (List UInt8)) : Bool :=
  if headIs privateM l = true then lastP l else
  match langP l with
  | none => false
  | some l => match restP l with
    | none => false
    | some l => lastP l
theorem split_bulk : ∀ s : List UInt8, ((splitM s).map List.length).sum + (splitM s).length = s.length + 1
  | [] => rfl
  | c :: t => by
    have ih := split_bulk t
    have hne := split_ne t
    unfold splitM
    split
    · simp only [List.map_cons, List.sum_cons, List.length_cons, List.length_nil]; omega
    · split
      · rename_i h r e
        rw [e] at ih
        simp only [List.map_cons, List.sum_cons, List.length_cons] at ih ⊢; omega
      · rename_i e; exact (hne e).elim
end Go.Our
/- names: the reader of tags, walked. Conditions: none. -/
set_option linter.unusedVariables false
set_option linter.unusedSimpArgs false
set_option maxRecDepth 20000
namespace Go.Proofs.YtillkgjdbnjnoaaGreatDoor
open Go.Sx Go.Our
theorem lang1_does (s : List UInt8) (hs : Sm s) : Does Tryz.prog tab 106 0 [.str s] [] [] (Val (.bool (madeM s 2 8 true))) := by
  refine Does.enter tabOK (g := 106) (fn := Tryz.f106) Tryz.call106 Tryz.func106 rfl 5 rfl rfl [.tmp 2] rfl ?_
  intro w0 F η0 h0
  conv => whnf
  repeat' ((first | with_reducible refine IF.tt ?_ | with_reducible refine IF.ff ?_ | refine CALL.value (made_does _ _ _ _ hs) rfl rfl ?_ | refine NEED.au ?_ | ((with_reducible apply GET.at); rfl) | ((with_reducible apply GETG.at); rfl) | ((with_reducible refine UNK.mk (fun h => ?_) ?_) <;> try (exfalso; omega)) | ((with_reducible refine IF.mk (fun h => ?_) (fun h => ?_)) <;> (try simp (disch := omega) only [hsB, hsC, lnB, wrap64, wrap32, simprocAttr] at h) <;> try (exfalso; omega))) <;> conv => whnf)
  exact FIN.value h0 rfl rfl
theorem lang2_does (s : List UInt8) (hs : Sm s) : Does Tryz.prog tab 108 0 [.str s] [] [] (Val (.bool (madeM s 3 3 true))) := by
  refine Does.enter tabOK (g := 108) (fn := Tryz.f108) Tryz.call108 Tryz.func108 rfl 5 rfl rfl [.tmp 2] rfl ?_
  intro w0 F η0 h0
  conv => whnf
  repeat' ((first | with_reducible refine IF.tt ?_ | with_reducible refine IF.ff ?_ | refine CALL.value (made_does _ _ _ _ hs) rfl rfl ?_ | refine NEED.au ?_ | ((with_reducible apply GET.at); rfl) | ((with_reducible apply GETG.at); rfl) | ((with_reducible refine UNK.mk (fun h => ?_) ?_) <;> try (exfalso; omega)) | ((with_reducible refine IF.mk (fun h => ?_) (fun h => ?_)) <;> (try simp (disch := omega) only [hsB, hsC, lnB, wrap64, wrap32, simprocAttr] at h) <;> try (exfalso; omega))) <;> conv => whnf)
  exact FIN.value h0 rfl rfl
theorem rest1_does (s : List UInt8) (hs : Sm s) : Does Tryz.prog tab 109 0 [.str s] [] [] (Val (.bool (madeM s 4 4 true))) := by
  refine Does.enter tabOK (g := 109) (fn := Tryz.f109) Tryz.call109 Tryz.func109 rfl 5 rfl rfl [.tmp 2] rfl ?_
  intro w0 F η0 h0
  conv => whnf
  repeat' ((first | with_reducible refine IF.tt ?_ | with_reducible refine IF.ff ?_ | refine CALL.value (made_does _ _ _ _ hs) rfl rfl ?_ | refine NEED.au ?_ | ((with_reducible apply GET.at); rfl) | ((with_reducible apply GETG.at); rfl) | ((with_reducible refine UNK.mk (fun h => ?_) ?_) <;> try (exfalso; omega)) | ((with_reducible refine IF.mk (fun h => ?_) (fun h => ?_)) <;> (try simp (disch := omega) only [hsB, hsC, lnB, wrap64, wrap32, simprocAttr] at h) <;> try (exfalso; omega))) <;> conv => whnf)
  exact FIN.value h0 rfl rfl
theorem rest2_does (s : List UInt8) (hs : Sm s) : Does Tryz.prog tab 113 0 [.str s] [] [] (Val (.bool (singleM s))) := by
  refine Does.enter tabOK (g := 113) (fn := Tryz.f113) Tryz.call113 Tryz.func113 rfl 10 rfl rfl [.tmp 2] rfl ?_
  intro w0 F η0 h0
  conv => whnf
  repeat' ((first | with_reducible refine IF.tt ?_ | with_reducible refine IF.ff ?_ | refine CALL.value (made_does _ _ _ _ hs) rfl rfl ?_ | refine CALL.value (private_does _) rfl rfl ?_ | refine NEED.au ?_ | ((with_reducible apply GET.at); rfl) | ((with_reducible apply GETG.at); rfl) | ((with_reducible refine UNK.mk (fun h => ?_) ?_) <;> try (exfalso; omega)) | ((with_reducible refine IF.mk (fun h => ?_) (fun h => ?_)) <;> (try simp (disch := omega) only [hsB, hsC, lnB, wrap64, wrap32, simprocAttr] at h) <;> try (exfalso; omega))) <;> conv => whnf)
  all_goals
    refine FIN.value h0 rfl (congrArg SV.bool ?_)
    unfold singleM
    simp_all
theorem tail1_does (s : List UInt8) (least : Int) (hs : Sm s) : Does Tryz.prog tab 114 1 [.str s, .ptr (.loc 0) 0 0 0] [] [(0, .box [.int .i64 least])] (ValK 1 (.bool (madeM s least 8 false))) := by
  refine Does.enter tabOK (g := 114) (fn := Tryz.f114) Tryz.call114 Tryz.func114 rfl 7 rfl rfl [.tmp 3] rfl ?_
  intro w0 F η0 h0
  conv => whnf
  repeat' ((first | with_reducible refine IF.tt ?_ | with_reducible refine IF.ff ?_ | refine CALL.value (made_does _ _ _ _ hs) rfl rfl ?_ | refine NEED.au ?_ | ((with_reducible apply GET.at); rfl) | ((with_reducible apply GETG.at); rfl) | ((with_reducible refine UNK.mk (fun h => ?_) ?_) <;> try (exfalso; omega)) | ((with_reducible refine IF.mk (fun h => ?_) (fun h => ?_)) <;> (try simp (disch := omega) only [hsB, hsC, lnB, wrap64, wrap32, simprocAttr] at h) <;> try (exfalso; omega))) <;> conv => whnf)
  exact FIN.valueK h0 rfl rfl
/-- The reader: where it stands among the parts, and what it has of the tag. -/
def rdBox (i m : Nat) (L E S R : List UInt8) (v x : Nat) (P : List UInt8) : Hp := .box [.sl (.loc 1) i 1 m none, .str L, .str E, .str S, .str R, .sl (.loc 2) 0 1 v none, .sl (.loc 3) 0 1 x none, .str P]
/-- The same, with nothing said of the variants and extensions. -/
def rdBoxA (i m : Nat) (L E S R : List UInt8) (v x : Nat) (P : List UInt8) : Hp := .box [.sl (.loc 1) i 1 m none, .str L, .str E, .str S, .str R, .any, .any, .str P]
/-- The same, where these have other names. -/
def rdBoxC (i m : Nat) (L E S R : List UInt8) (v x : Nat) (P : List UInt8) : Hp := .box [.sl (.loc 1) i 1 m none, .str L, .str E, .str S, .str R, .sl (.loc 4) 0 1 v none, .sl (.loc 5) 0 1 x none, .str P]
/-- Does the next part say what p says? -/
def seesM (p : List UInt8 → Bool) (ps : List (List UInt8)) (i : Nat) : Bool := match ps[i]? with | some s => p s | none => false
theorem sum_le {ps : List (List UInt8)} {i : Nat} {p : List UInt8} (h : ps[i]? = some p) : ((ps.take (i + 1)).map List.length).sum = ((ps.take i).map List.length).sum + p.length := by
  obtain ⟨h1, rfl⟩ := List.getElem?_eq_some_iff.1 h
  rw [List.take_succ_eq_append_getElem h1, List.map_append, List.sum_append]; simp
/-- All the bytes of the parts. -/
abbrev bulkM (ps : List (List UInt8)) : Nat := (ps.map List.length).sum
theorem bulk_take (ps : List (List UInt8)) (i : Nat) : ((ps.take i).map List.length).sum ≤ bulkM ps := by
  conv => rhs; unfold bulkM; rw [← List.take_append_drop i ps]
  rw [List.map_append, List.sum_append]; omega
theorem sees_does (g : Nat) (p : List UInt8 → Bool) (ps : List (List UInt8)) (hp : ∀ s ∈ ps, Does Tryz.prog tab g 0 [.str s] [] [] (Val (.bool (p s)))) (i m : Nat) (him : i + m = ps.length) (L E S R : List UInt8) (v x : Nat) (P : List UInt8) :
    Does Tryz.prog tab 80 4 [.ptr (.loc 0) 0 0 0, .fn (.func g) [] []] [] [(0, rdBox i m L E S R v x P), (1, .rows 1 (ps.map strRow))] (ValK 4 (.bool (seesM p ps i))) := by
  refine Does.enter tabOK (g := 80) (fn := Tryz.f80) Tryz.call80 Tryz.func80 rfl 21 rfl rfl [.tmp 4] rfl ?_
  intro w0 F η0 h0
  conv => whnf
  repeat' ((first | with_reducible refine IF.tt ?_ | with_reducible refine IF.ff ?_ | (refine GET.at (row := strRow (ps[i]'(by omega))) (by rw [List.getElem?_map, show i + (0 : Int).toNat = i by simp, List.getElem?_eq_getElem (by omega)]; rfl) ?_; conv => whnf) | refine CALL.value (hp _ (List.getElem_mem (by omega))) rfl rfl ?_ | refine NEED.au ?_ | ((with_reducible apply GET.at); rfl) | ((with_reducible apply GETG.at); rfl) | ((with_reducible refine UNK.mk (fun h => ?_) ?_) <;> try (exfalso; omega)) | ((with_reducible refine IF.mk (fun h => ?_) (fun h => ?_)) <;> (try simp (disch := omega) only [hsB, hsC, lnB, wrap64, wrap32, simprocAttr] at h) <;> try (exfalso; omega))) <;> conv => whnf)
  · refine FIN.valueK h0 rfl (congrArg SV.bool ?_)
    unfold seesM; rw [List.getElem?_eq_getElem (by omega)]; rfl
  · refine FIN.valueK h0 rfl (congrArg SV.bool ?_)
    unfold seesM; rw [List.getElem?_eq_none (by omega)]
/-- As sees_does, for the function that asks for so many bytes. -/
theorem seesTail_does (least : Int) (ps : List (List UInt8)) (hp : ∀ s ∈ ps, Sm s) (i m : Nat) (him : i + m = ps.length) (L E S R : List UInt8) (v x : Nat) (P : List UInt8) :
    Does Tryz.prog tab 80 5 [.ptr (.loc 0) 0 0 0, .fn (.func 114) [] [.ptr (.loc 4) 0 0 0]] [] [(0, rdBox i m L E S R v x P), (1, .rows 1 (ps.map strRow)), (4, .box [.int .i64 least])] (ValK 5 (.bool (seesM (fun s => madeM s least 8 false) ps i))) := by
  refine Does.enter tabOK (g := 80) (fn := Tryz.f80) Tryz.call80 Tryz.func80 rfl 21 rfl rfl [.tmp 4] rfl ?_
  intro w0 F η0 h0
  conv => whnf
  repeat' ((first | with_reducible refine IF.tt ?_ | with_reducible refine IF.ff ?_ | (refine GET.at (row := strRow (ps[i]'(by omega))) (by rw [List.getElem?_map, show i + (0 : Int).toNat = i by simp, List.getElem?_eq_getElem (by omega)]; rfl) ?_; conv => whnf) | (refine CALL.looks [4] (tail1_does (ps[i]'(by omega)) least (hp _ (List.getElem_mem (by omega)))) rfl rfl rfl rfl ⟨⟨rfl, rfl, rfl⟩, trivial⟩ ?_; conv => whnf) | refine NEED.au ?_ | ((with_reducible apply GET.at); rfl) | ((with_reducible apply GETG.at); rfl) | ((with_reducible refine UNK.mk (fun h => ?_) ?_) <;> try (exfalso; omega)) | ((with_reducible refine IF.mk (fun h => ?_) (fun h => ?_)) <;> (try simp (disch := omega) only [hsB, hsC, lnB, wrap64, wrap32, simprocAttr] at h) <;> try (exfalso; omega))) <;> conv => whnf)
  · refine FIN.valueK h0 rfl (congrArg SV.bool ?_)
    unfold seesM; rw [List.getElem?_eq_getElem (by omega)]; rfl
  · refine FIN.valueK h0 rfl (congrArg SV.bool ?_)
    unfold seesM; rw [List.getElem?_eq_none (by omega)]
theorem next_tag_does (ps : List (List UInt8)) (i m : Nat) (him : i + (m + 1) = ps.length) (p : List UInt8) (hp : ps[i]? = some p) (L E S R : List UInt8) (v x : Nat) (P : List UInt8) :
    Does Tryz.prog tab 84 4 [.ptr (.loc 0) 0 0 0] [(0, rdBox i (m + 1) L E S R v x P)] [(1, .rows 1 (ps.map strRow))] (fun r O nx => r = .str p ∧ O = [(0, rdBox (i + 1) m L E S R v x P)] ∧ nx = 4) := by
  refine Does.enter tabOK (g := 84) (fn := Tryz.f84) Tryz.call84 Tryz.func84 rfl 19 rfl rfl [.tmp 2] rfl ?_
  intro w0 F η0 h0
  conv => whnf
  repeat' ((first | with_reducible refine IF.tt ?_ | with_reducible refine IF.ff ?_ | (refine GET.at (row := strRow p) (by rw [List.getElem?_map, show i + (0 : Int).toNat = i by simp, hp]; rfl) ?_; conv => whnf) | refine NEED.au ?_ | ((with_reducible apply GET.at); rfl) | ((with_reducible apply GETG.at); rfl) | ((with_reducible refine UNK.mk (fun h => ?_) ?_) <;> try (exfalso; omega)) | ((with_reducible refine IF.mk (fun h => ?_) (fun h => ?_)) <;> (try simp (disch := omega) only [hsB, hsC, lnB, wrap64, wrap32, simprocAttr] at h) <;> try (exfalso; omega))) <;> conv => whnf)
  exact FIN.here h0 (Oc := [(0, rdBox (i + 1) m L E S R v x P)]) rfl rfl rfl ⟨rfl, trivial⟩ ⟨rfl, rfl, rfl⟩
theorem tail_does (least : Int) (ps : List (List UInt8)) (hb : bulkM ps + ps.length ≤ 1152921504606846976) (i m : Nat) (him : i + m = ps.length) (L E S R : List UInt8) (v x : Nat) (P : List UInt8) :
    Does Tryz.prog tab 85 4 [.ptr (.loc 0) 0 0 0, .int .i64 least] [(0, rdBox i m L E S R v x P)] [(1, .rows 1 (ps.map strRow))]
      (fun r O nx => ∃ (n : Nat) (s : List UInt8), n = spanM (fun s => madeM s least 8 false) (ps.drop i) ∧ s.length ≤ bulkM ps + ps.length ∧ r = .tup [.str s, .bool (decide (n ≠ 0))] ∧ O = [(0, rdBox (i + n) (m - n) L E S R v x P)] ∧ nx = 4) := by
  have hsm : ∀ s ∈ ps, Sm s := by
    intro s hs
    obtain ⟨j, hj, rfl⟩ := List.getElem_of_mem hs
    have h1 := sum_le (List.getElem?_eq_getElem hj)
    have h2 := bulk_take ps (j + 1)
    omega
  refine Does.enter tabOK (g := 85) (fn := Tryz.f85) Tryz.call85 Tryz.func85 rfl 18 rfl rfl [.tmp 4, .tmp 5] rfl ?_
  intro w0 F η0 h0
  conv => whnf
  refine LOOP.go tabOK [0, 3] (X := Nat × List UInt8) (fun y => y.1 ≤ m ∧ y.2.length ≤ ((ps.take (i + y.1)).map List.length).sum + (i + y.1) ∧ (y.1 = 0 ↔ y.2 = []) ∧ spanM (fun s => madeM s least 8 false) (ps.drop i) = y.1 + spanM (fun s => madeM s least 8 false) (ps.drop (i + y.1))) (fun y => [(6, .str y.2)]) (fun y => [(0, rdBox (i + y.1) (m - y.1) L E S R v x P), (4, .box [.int .i64 least])]) 5 (fun y => m - y.1) (0, []) ⟨by simp, by simp, by simp, by simp⟩ ?_
  conv => whnf
  refine ⟨by (refine GOES.cutting h0 rfl rfl rfl (by first | rfl | simp [belowO, belowH, plainLL_below, plainLL_map, plainL, plain]) ?_ ?_ <;> (repeat' (first | (with_reducible rfl) | (exact congrArg (fun n => SV.sl _ _ _ n _) (by simp)) | (exact congrArg (Hp.rows _) (by simp)) | (exact congrArg (SV.int _) (by first | omega | (simp (disch := omega) only [lnB, wrap64, wrap32] <;> omega) | (simp; done) | (simp <;> omega))) | ((conv => whnf); refine ⟨?_, ?_⟩) | exact trivial | (simp; done) | rfl))), ?_⟩
  rintro ⟨n, s⟩ ⟨hn, hl, h0s, hspan⟩
  dsimp only at hn hl h0s hspan ⊢
  conv => whnf
  refine CALL.here (seesTail_does least ps hsm (i + n) (m - n) (by omega) L E S R v x P) rfl rfl (by first | rfl | (simp only [belowO, belowH, plainLL_below _ (plainStrs _), Bool.and_self, Bool.and_true] <;> rfl)) (by first | rfl | (simp only [belowO, belowH, plainLL_below _ (plainStrs _), Bool.and_self, Bool.and_true] <;> rfl)) (by repeat' (first | exact trivial | exact rfl | ((conv => whnf); refine ⟨?_, ?_⟩))) (by repeat' (first | exact trivial | exact rfl | ((conv => whnf); refine ⟨?_, ?_⟩))) rfl ?_ ?_
  · rintro r O' nx' ⟨rfl, rfl, rfl⟩; exact ⟨rfl, rfl, rfl⟩
  rintro r O' ⟨rfl, rfl, _⟩
  conv => whnf
  refine ⟨fun h => ?_, fun h => ?_⟩
  · obtain ⟨p, hp, hpm⟩ : ∃ p, ps[i + n]? = some p ∧ madeM p least 8 false = true := by
      unfold seesM at h
      cases hp : ps[i + n]? with
      | none => rw [hp] at h; cases h
      | some p => rw [hp] at h; exact ⟨p, rfl, h⟩
    have hlt := (List.getElem?_eq_some_iff.1 hp).1
    have hs1 := sum_le hp
    have hs2 := bulk_take ps (i + n + 1)
    obtain ⟨k, hk⟩ : ∃ k, m - n = k + 1 := ⟨m - n - 1, by omega⟩
    rw [hk]
    conv => whnf
    refine CALL.here (next_tag_does ps (i + n) k (by omega) p hp L E S R v x P) rfl rfl (by first | rfl | (simp only [belowO, belowH, plainLL_below _ (plainStrs _), Bool.and_self, Bool.and_true] <;> rfl)) (by first | rfl | (simp only [belowO, belowH, plainLL_below _ (plainStrs _), Bool.and_self, Bool.and_true] <;> rfl)) (by repeat' (first | exact trivial | exact rfl | ((conv => whnf); refine ⟨?_, ?_⟩))) (by repeat' (first | exact trivial | exact rfl | ((conv => whnf); refine ⟨?_, ?_⟩))) rfl ?_ ?_
    · rintro r O' nx' ⟨rfl, rfl, rfl⟩; exact ⟨rfl, rfl, rfl⟩
    rintro r O' ⟨rfl, rfl, _⟩
    conv => whnf
    repeat' ((first | with_reducible refine IF.tt ?_ | with_reducible refine IF.ff ?_ | refine NEED.au ?_ | ((with_reducible apply GET.at); rfl) | ((with_reducible apply GETG.at); rfl) | ((with_reducible refine UNK.mk (fun h => ?_) ?_) <;> try (exfalso; omega)) | ((with_reducible refine IF.mk (fun h => ?_) (fun h => ?_)) <;> (try simp (disch := omega) only [hsB, hsC, lnB, wrap64, wrap32, simprocAttr] at h) <;> try (exfalso; omega))) <;> conv => whnf)
    have hsp : spanM (fun s => madeM s least 8 false) (ps.drop (i + n)) = spanM (fun s => madeM s least 8 false) (ps.drop (i + (n + 1))) + 1 := by
      rw [List.drop_eq_getElem_cons hlt]
      have : ps[i + n] = p := by
        have := List.getElem?_eq_getElem hlt
        rw [hp] at this; injection this with this; exact this.symm
      rw [this]
      simp only [spanM, hpm, if_true]
      rfl
    refine ⟨(n + 1, s ++ ([45] ++ p)), ⟨by simp only; omega, ?_, by simp, by simp only; omega⟩, by simp only; omega, ?_⟩
    · simp only [List.length_append, List.length_cons, List.length_nil]
      rw [show i + (n + 1) = i + n + 1 by omega, hs1]; omega
    · dsimp only
      rw [show i + (n + 1) = i + n + 1 by omega, show m - (n + 1) = k by omega]
      conv => whnf
      (refine GOES.cutting h0 rfl rfl rfl (by first | rfl | simp [belowO, belowH, plainLL_below, plainLL_map, plainL, plain]) ?_ ?_ <;> (repeat' (first | (with_reducible rfl) | (exact congrArg (fun n => SV.sl _ _ _ n _) (by simp)) | (exact congrArg (Hp.rows _) (by simp)) | (exact congrArg (SV.int _) (by first | omega | (simp (disch := omega) only [lnB, wrap64, wrap32] <;> omega) | (simp; done) | (simp <;> omega))) | ((conv => whnf); refine ⟨?_, ?_⟩) | exact trivial | (simp; done) | rfl)))
  · have hsp : spanM (fun s => madeM s least 8 false) (ps.drop (i + n)) = 0 := by
      unfold seesM at h
      cases hp : ps[i + n]? with
      | none => rw [List.drop_eq_nil_of_le (by simpa using hp)]; rfl
      | some p =>
        rw [hp] at h
        have hlt := (List.getElem?_eq_some_iff.1 hp).1
        rw [List.drop_eq_getElem_cons hlt]
        have : ps[i + n] = p := by
          have := List.getElem?_eq_getElem hlt
          rw [hp] at this; injection this with this; exact this.symm
        rw [this]
        simp only [spanM]
        simp only at h
        simp [h]
    have hs2 := bulk_take ps (i + n)
    conv => whnf
    repeat' ((first | with_reducible refine IF.tt ?_ | with_reducible refine IF.ff ?_ | refine NEED.au ?_ | ((with_reducible apply GET.at); rfl) | ((with_reducible apply GETG.at); rfl) | ((with_reducible refine UNK.mk (fun h => ?_) ?_) <;> try (exfalso; omega)) | ((with_reducible refine IF.mk (fun h => ?_) (fun h => ?_)) <;> (try simp (disch := omega) only [hsB, hsC, lnB, wrap64, wrap32, simprocAttr] at h) <;> try (exfalso; omega))) <;> conv => whnf)
    refine FIN.here h0 (rc := .tup [.str s, .bool (decide (n ≠ 0))]) (Oc := [(0, rdBox (i + n) (m - n) L E S R v x P)]) ?_ rfl rfl ⟨rfl, trivial⟩ ⟨n, s, by omega, by omega, rfl, rfl, rfl⟩
    show SV.tup [SV.str s, SV.bool (s != [])] = SV.tup [SV.str s, SV.bool (decide (n ≠ 0))]
    have : (s != []) = decide (n ≠ 0) := by rw [Bool.eq_iff_iff]; simp [h0s]
    rw [this]
theorem sees_doesA (g : Nat) (p : List UInt8 → Bool) (ps : List (List UInt8)) (hp : ∀ s ∈ ps, Does Tryz.prog tab g 0 [.str s] [] [] (Val (.bool (p s)))) (i m : Nat) (him : i + m = ps.length) (L E S R : List UInt8) (v x : Nat) (P : List UInt8) :
    Does Tryz.prog tab 80 4 [.ptr (.loc 0) 0 0 0, .fn (.func g) [] []] [] [(0, rdBoxA i m L E S R v x P), (1, .rows 1 (ps.map strRow))] (ValK 4 (.bool (seesM p ps i))) := by
  refine Does.enter tabOK (g := 80) (fn := Tryz.f80) Tryz.call80 Tryz.func80 rfl 21 rfl rfl [.tmp 4] rfl ?_
  intro w0 F η0 h0
  conv => whnf
  repeat' ((first | with_reducible refine IF.tt ?_ | with_reducible refine IF.ff ?_ | (refine GET.at (row := strRow (ps[i]'(by omega))) (by rw [List.getElem?_map, show i + (0 : Int).toNat = i by simp, List.getElem?_eq_getElem (by omega)]; rfl) ?_; conv => whnf) | refine CALL.value (hp _ (List.getElem_mem (by omega))) rfl rfl ?_ | refine NEED.au ?_ | ((with_reducible apply GET.at); rfl) | ((with_reducible apply GETG.at); rfl) | ((with_reducible refine UNK.mk (fun h => ?_) ?_) <;> try (exfalso; omega)) | ((with_reducible refine IF.mk (fun h => ?_) (fun h => ?_)) <;> (try simp (disch := omega) only [hsB, hsC, lnB, wrap64, wrap32, simprocAttr] at h) <;> try (exfalso; omega))) <;> conv => whnf)
  · refine FIN.valueK h0 rfl (congrArg SV.bool ?_)
    unfold seesM; rw [List.getElem?_eq_getElem (by omega)]; rfl
  · refine FIN.valueK h0 rfl (congrArg SV.bool ?_)
    unfold seesM; rw [List.getElem?_eq_none (by omega)]
/-- As sees_doesA, for the function that asks for so many bytes. -/
theorem seesTail_doesA (least : Int) (ps : List (List UInt8)) (hp : ∀ s ∈ ps, Sm s) (i m : Nat) (him : i + m = ps.length) (L E S R : List UInt8) (v x : Nat) (P : List UInt8) :
    Does Tryz.prog tab 80 5 [.ptr (.loc 0) 0 0 0, .fn (.func 114) [] [.ptr (.loc 4) 0 0 0]] [] [(0, rdBoxA i m L E S R v x P), (1, .rows 1 (ps.map strRow)), (4, .box [.int .i64 least])] (ValK 5 (.bool (seesM (fun s => madeM s least 8 false) ps i))) := by
  refine Does.enter tabOK (g := 80) (fn := Tryz.f80) Tryz.call80 Tryz.func80 rfl 21 rfl rfl [.tmp 4] rfl ?_
  intro w0 F η0 h0
  conv => whnf
  repeat' ((first | with_reducible refine IF.tt ?_ | with_reducible refine IF.ff ?_ | (refine GET.at (row := strRow (ps[i]'(by omega))) (by rw [List.getElem?_map, show i + (0 : Int).toNat = i by simp, List.getElem?_eq_getElem (by omega)]; rfl) ?_; conv => whnf) | (refine CALL.looks [4] (tail1_does (ps[i]'(by omega)) least (hp _ (List.getElem_mem (by omega)))) rfl rfl rfl rfl ⟨⟨rfl, rfl, rfl⟩, trivial⟩ ?_; conv => whnf) | refine NEED.au ?_ | ((with_reducible apply GET.at); rfl) | ((with_reducible apply GETG.at); rfl) | ((with_reducible refine UNK.mk (fun h => ?_) ?_) <;> try (exfalso; omega)) | ((with_reducible refine IF.mk (fun h => ?_) (fun h => ?_)) <;> (try simp (disch := omega) only [hsB, hsC, lnB, wrap64, wrap32, simprocAttr] at h) <;> try (exfalso; omega))) <;> conv => whnf)
  · refine FIN.valueK h0 rfl (congrArg SV.bool ?_)
    unfold seesM; rw [List.getElem?_eq_getElem (by omega)]; rfl
  · refine FIN.valueK h0 rfl (congrArg SV.bool ?_)
    unfold seesM; rw [List.getElem?_eq_none (by omega)]
theorem next_tag_doesA (ps : List (List UInt8)) (i m : Nat) (him : i + (m + 1) = ps.length) (p : List UInt8) (hp : ps[i]? = some p) (L E S R : List UInt8) (v x : Nat) (P : List UInt8) :
    Does Tryz.prog tab 84 4 [.ptr (.loc 0) 0 0 0] [(0, rdBoxA i (m + 1) L E S R v x P)] [(1, .rows 1 (ps.map strRow))] (fun r O nx => r = .str p ∧ O = [(0, rdBoxA (i + 1) m L E S R v x P)] ∧ nx = 4) := by
  refine Does.enter tabOK (g := 84) (fn := Tryz.f84) Tryz.call84 Tryz.func84 rfl 19 rfl rfl [.tmp 2] rfl ?_
  intro w0 F η0 h0
  conv => whnf
  repeat' ((first | with_reducible refine IF.tt ?_ | with_reducible refine IF.ff ?_ | (refine GET.at (row := strRow p) (by rw [List.getElem?_map, show i + (0 : Int).toNat = i by simp, hp]; rfl) ?_; conv => whnf) | refine NEED.au ?_ | ((with_reducible apply GET.at); rfl) | ((with_reducible apply GETG.at); rfl) | ((with_reducible refine UNK.mk (fun h => ?_) ?_) <;> try (exfalso; omega)) | ((with_reducible refine IF.mk (fun h => ?_) (fun h => ?_)) <;> (try simp (disch := omega) only [hsB, hsC, lnB, wrap64, wrap32, simprocAttr] at h) <;> try (exfalso; omega))) <;> conv => whnf)
  exact FIN.here h0 (Oc := [(0, rdBoxA (i + 1) m L E S R v x P)]) rfl rfl rfl ⟨rfl, trivial⟩ ⟨rfl, rfl, rfl⟩
theorem tail_doesA (least : Int) (ps : List (List UInt8)) (hb : bulkM ps + ps.length ≤ 1152921504606846976) (i m : Nat) (him : i + m = ps.length) (L E S R : List UInt8) (v x : Nat) (P : List UInt8) :
    Does Tryz.prog tab 85 4 [.ptr (.loc 0) 0 0 0, .int .i64 least] [(0, rdBoxA i m L E S R v x P)] [(1, .rows 1 (ps.map strRow))]
      (fun r O nx => ∃ (n : Nat) (s : List UInt8), n = spanM (fun s => madeM s least 8 false) (ps.drop i) ∧ s.length ≤ bulkM ps + ps.length ∧ r = .tup [.str s, .bool (decide (n ≠ 0))] ∧ O = [(0, rdBoxA (i + n) (m - n) L E S R v x P)] ∧ nx = 4) := by
  have hsm : ∀ s ∈ ps, Sm s := by
    intro s hs
    obtain ⟨j, hj, rfl⟩ := List.getElem_of_mem hs
    have h1 := sum_le (List.getElem?_eq_getElem hj)
    have h2 := bulk_take ps (j + 1)
    omega
  refine Does.enter tabOK (g := 85) (fn := Tryz.f85) Tryz.call85 Tryz.func85 rfl 18 rfl rfl [.tmp 4, .tmp 5] rfl ?_
  intro w0 F η0 h0
  conv => whnf
  refine LOOP.go tabOK [0, 3] (X := Nat × List UInt8) (fun y => y.1 ≤ m ∧ y.2.length ≤ ((ps.take (i + y.1)).map List.length).sum + (i + y.1) ∧ (y.1 = 0 ↔ y.2 = []) ∧ spanM (fun s => madeM s least 8 false) (ps.drop i) = y.1 + spanM (fun s => madeM s least 8 false) (ps.drop (i + y.1))) (fun y => [(6, .str y.2)]) (fun y => [(0, rdBoxA (i + y.1) (m - y.1) L E S R v x P), (4, .box [.int .i64 least])]) 5 (fun y => m - y.1) (0, []) ⟨by simp, by simp, by simp, by simp⟩ ?_
  conv => whnf
  refine ⟨by (refine GOES.cutting h0 rfl rfl rfl (by first | rfl | simp [belowO, belowH, plainLL_below, plainLL_map, plainL, plain]) ?_ ?_ <;> (repeat' (first | (with_reducible rfl) | (exact congrArg (fun n => SV.sl _ _ _ n _) (by simp)) | (exact congrArg (Hp.rows _) (by simp)) | (exact congrArg (SV.int _) (by first | omega | (simp (disch := omega) only [lnB, wrap64, wrap32] <;> omega) | (simp; done) | (simp <;> omega))) | ((conv => whnf); refine ⟨?_, ?_⟩) | exact trivial | (simp; done) | rfl))), ?_⟩
  rintro ⟨n, s⟩ ⟨hn, hl, h0s, hspan⟩
  dsimp only at hn hl h0s hspan ⊢
  conv => whnf
  refine CALL.here (seesTail_doesA least ps hsm (i + n) (m - n) (by omega) L E S R v x P) rfl rfl (by first | rfl | (simp only [belowO, belowH, plainLL_below _ (plainStrs _), Bool.and_self, Bool.and_true] <;> rfl)) (by first | rfl | (simp only [belowO, belowH, plainLL_below _ (plainStrs _), Bool.and_self, Bool.and_true] <;> rfl)) (by repeat' (first | exact trivial | exact rfl | ((conv => whnf); refine ⟨?_, ?_⟩))) (by repeat' (first | exact trivial | exact rfl | ((conv => whnf); refine ⟨?_, ?_⟩))) rfl ?_ ?_
  · rintro r O' nx' ⟨rfl, rfl, rfl⟩; exact ⟨rfl, rfl, rfl⟩
  rintro r O' ⟨rfl, rfl, _⟩
  conv => whnf
  refine ⟨fun h => ?_, fun h => ?_⟩
  · obtain ⟨p, hp, hpm⟩ : ∃ p, ps[i + n]? = some p ∧ madeM p least 8 false = true := by
      unfold seesM at h
      cases hp : ps[i + n]? with
      | none => rw [hp] at h; cases h
      | some p => rw [hp] at h; exact ⟨p, rfl, h⟩
    have hlt := (List.getElem?_eq_some_iff.1 hp).1
    have hs1 := sum_le hp
    have hs2 := bulk_take ps (i + n + 1)
    obtain ⟨k, hk⟩ : ∃ k, m - n = k + 1 := ⟨m - n - 1, by omega⟩
    rw [hk]
    conv => whnf
    refine CALL.here (next_tag_doesA ps (i + n) k (by omega) p hp L E S R v x P) rfl rfl (by first | rfl | (simp only [belowO, belowH, plainLL_below _ (plainStrs _), Bool.and_self, Bool.and_true] <;> rfl)) (by first | rfl | (simp only [belowO, belowH, plainLL_below _ (plainStrs _), Bool.and_self, Bool.and_true] <;> rfl)) (by repeat' (first | exact trivial | exact rfl | ((conv => whnf); refine ⟨?_, ?_⟩))) (by repeat' (first | exact trivial | exact rfl | ((conv => whnf); refine ⟨?_, ?_⟩))) rfl ?_ ?_
    · rintro r O' nx' ⟨rfl, rfl, rfl⟩; exact ⟨rfl, rfl, rfl⟩
    rintro r O' ⟨rfl, rfl, _⟩
    conv => whnf
    repeat' ((first | with_reducible refine IF.tt ?_ | with_reducible refine IF.ff ?_ | refine NEED.au ?_ | ((with_reducible apply GET.at); rfl) | ((with_reducible apply GETG.at); rfl) | ((with_reducible refine UNK.mk (fun h => ?_) ?_) <;> try (exfalso; omega)) | ((with_reducible refine IF.mk (fun h => ?_) (fun h => ?_)) <;> (try simp (disch := omega) only [hsB, hsC, lnB, wrap64, wrap32, simprocAttr] at h) <;> try (exfalso; omega))) <;> conv => whnf)
    have hsp : spanM (fun s => madeM s least 8 false) (ps.drop (i + n)) = spanM (fun s => madeM s least 8 false) (ps.drop (i + (n + 1))) + 1 := by
      rw [List.drop_eq_getElem_cons hlt]
      have : ps[i + n] = p := by
        have := List.getElem?_eq_getElem hlt
        rw [hp] at this; injection this with this; exact this.symm
      rw [this]
      simp only [spanM, hpm, if_true]
      rfl
    refine ⟨(n + 1, s ++ ([45] ++ p)), ⟨by simp only; omega, ?_, by simp, by simp only; omega⟩, by simp only; omega, ?_⟩
    · simp only [List.length_append, List.length_cons, List.length_nil]
      rw [show i + (n + 1) = i + n + 1 by omega, hs1]; omega
    · dsimp only
      rw [show i + (n + 1) = i + n + 1 by omega, show m - (n + 1) = k by omega]
      conv => whnf
      (refine GOES.cutting h0 rfl rfl rfl (by first | rfl | simp [belowO, belowH, plainLL_below, plainLL_map, plainL, plain]) ?_ ?_ <;> (repeat' (first | (with_reducible rfl) | (exact congrArg (fun n => SV.sl _ _ _ n _) (by simp)) | (exact congrArg (Hp.rows _) (by simp)) | (exact congrArg (SV.int _) (by first | omega | (simp (disch := omega) only [lnB, wrap64, wrap32] <;> omega) | (simp; done) | (simp <;> omega))) | ((conv => whnf); refine ⟨?_, ?_⟩) | exact trivial | (simp; done) | rfl)))
  · have hsp : spanM (fun s => madeM s least 8 false) (ps.drop (i + n)) = 0 := by
      unfold seesM at h
      cases hp : ps[i + n]? with
      | none => rw [List.drop_eq_nil_of_le (by simpa using hp)]; rfl
      | some p =>
        rw [hp] at h
        have hlt := (List.getElem?_eq_some_iff.1 hp).1
        rw [List.drop_eq_getElem_cons hlt]
        have : ps[i + n] = p := by
          have := List.getElem?_eq_getElem hlt
          rw [hp] at this; injection this with this; exact this.symm
        rw [this]
        simp only [spanM]
        simp only at h
        simp [h]
    have hs2 := bulk_take ps (i + n)
    conv => whnf
    repeat' ((first | with_reducible refine IF.tt ?_ | with_reducible refine IF.ff ?_ | refine NEED.au ?_ | ((with_reducible apply GET.at); rfl) | ((with_reducible apply GETG.at); rfl) | ((with_reducible refine UNK.mk (fun h => ?_) ?_) <;> try (exfalso; omega)) | ((with_reducible refine IF.mk (fun h => ?_) (fun h => ?_)) <;> (try simp (disch := omega) only [hsB, hsC, lnB, wrap64, wrap32, simprocAttr] at h) <;> try (exfalso; omega))) <;> conv => whnf)
    refine FIN.here h0 (rc := .tup [.str s, .bool (decide (n ≠ 0))]) (Oc := [(0, rdBoxA (i + n) (m - n) L E S R v x P)]) ?_ rfl rfl ⟨rfl, trivial⟩ ⟨n, s, by omega, by omega, rfl, rfl, rfl⟩
    show SV.tup [SV.str s, SV.bool (s != [])] = SV.tup [SV.str s, SV.bool (decide (n ≠ 0))]
    have : (s != []) = decide (n ≠ 0) := by rw [Bool.eq_iff_iff]; simp [h0s]
    rw [this]
theorem sees_doesC (g : Nat) (p : List UInt8 → Bool) (ps : List (List UInt8)) (hp : ∀ s ∈ ps, Does Tryz.prog tab g 0 [.str s] [] [] (Val (.bool (p s)))) (i m : Nat) (him : i + m = ps.length) (L E S R : List UInt8) (v x : Nat) (P : List UInt8) :
    Does Tryz.prog tab 80 7 [.ptr (.loc 0) 0 0 0, .fn (.func g) [] []] [] [(0, rdBoxC i m L E S R v x P), (1, .rows 1 (ps.map strRow))] (ValK 7 (.bool (seesM p ps i))) := by
  refine Does.enter tabOK (g := 80) (fn := Tryz.f80) Tryz.call80 Tryz.func80 rfl 21 rfl rfl [.tmp 4] rfl ?_
  intro w0 F η0 h0
  conv => whnf
  repeat' ((first | with_reducible refine IF.tt ?_ | with_reducible refine IF.ff ?_ | (refine GET.at (row := strRow (ps[i]'(by omega))) (by rw [List.getElem?_map, show i + (0 : Int).toNat = i by simp, List.getElem?_eq_getElem (by omega)]; rfl) ?_; conv => whnf) | refine CALL.value (hp _ (List.getElem_mem (by omega))) rfl rfl ?_ | refine NEED.au ?_ | ((with_reducible apply GET.at); rfl) | ((with_reducible apply GETG.at); rfl) | ((with_reducible refine UNK.mk (fun h => ?_) ?_) <;> try (exfalso; omega)) | ((with_reducible refine IF.mk (fun h => ?_) (fun h => ?_)) <;> (try simp (disch := omega) only [hsB, hsC, lnB, wrap64, wrap32, simprocAttr] at h) <;> try (exfalso; omega))) <;> conv => whnf)
  · refine FIN.valueK h0 rfl (congrArg SV.bool ?_)
    unfold seesM; rw [List.getElem?_eq_getElem (by omega)]; rfl
  · refine FIN.valueK h0 rfl (congrArg SV.bool ?_)
    unfold seesM; rw [List.getElem?_eq_none (by omega)]
/-- As sees_doesC, for the function that asks for so many bytes. -/
theorem seesTail_doesC (least : Int) (ps : List (List UInt8)) (hp : ∀ s ∈ ps, Sm s) (i m : Nat) (him : i + m = ps.length) (L E S R : List UInt8) (v x : Nat) (P : List UInt8) :
    Does Tryz.prog tab 80 8 [.ptr (.loc 0) 0 0 0, .fn (.func 114) [] [.ptr (.loc 7) 0 0 0]] [] [(0, rdBoxC i m L E S R v x P), (1, .rows 1 (ps.map strRow)), (7, .box [.int .i64 least])] (ValK 8 (.bool (seesM (fun s => madeM s least 8 false) ps i))) := by
  refine Does.enter tabOK (g := 80) (fn := Tryz.f80) Tryz.call80 Tryz.func80 rfl 21 rfl rfl [.tmp 4] rfl ?_
  intro w0 F η0 h0
  conv => whnf
  repeat' ((first | with_reducible refine IF.tt ?_ | with_reducible refine IF.ff ?_ | (refine GET.at (row := strRow (ps[i]'(by omega))) (by rw [List.getElem?_map, show i + (0 : Int).toNat = i by simp, List.getElem?_eq_getElem (by omega)]; rfl) ?_; conv => whnf) | (refine CALL.looks [7] (tail1_does (ps[i]'(by omega)) least (hp _ (List.getElem_mem (by omega)))) rfl rfl rfl rfl ⟨⟨rfl, rfl, rfl⟩, trivial⟩ ?_; conv => whnf) | refine NEED.au ?_ | ((with_reducible apply GET.at); rfl) | ((with_reducible apply GETG.at); rfl) | ((with_reducible refine UNK.mk (fun h => ?_) ?_) <;> try (exfalso; omega)) | ((with_reducible refine IF.mk (fun h => ?_) (fun h => ?_)) <;> (try simp (disch := omega) only [hsB, hsC, lnB, wrap64, wrap32, simprocAttr] at h) <;> try (exfalso; omega))) <;> conv => whnf)
  · refine FIN.valueK h0 rfl (congrArg SV.bool ?_)
    unfold seesM; rw [List.getElem?_eq_getElem (by omega)]; rfl
  · refine FIN.valueK h0 rfl (congrArg SV.bool ?_)
    unfold seesM; rw [List.getElem?_eq_none (by omega)]
theorem next_tag_doesC (ps : List (List UInt8)) (i m : Nat) (him : i + (m + 1) = ps.length) (p : List UInt8) (hp : ps[i]? = some p) (L E S R : List UInt8) (v x : Nat) (P : List UInt8) :
    Does Tryz.prog tab 84 7 [.ptr (.loc 0) 0 0 0] [(0, rdBoxC i (m + 1) L E S R v x P)] [(1, .rows 1 (ps.map strRow))] (fun r O nx => r = .str p ∧ O = [(0, rdBoxC (i + 1) m L E S R v x P)] ∧ nx = 7) := by
  refine Does.enter tabOK (g := 84) (fn := Tryz.f84) Tryz.call84 Tryz.func84 rfl 19 rfl rfl [.tmp 2] rfl ?_
  intro w0 F η0 h0
  conv => whnf
  repeat' ((first | with_reducible refine IF.tt ?_ | with_reducible refine IF.ff ?_ | (refine GET.at (row := strRow p) (by rw [List.getElem?_map, show i + (0 : Int).toNat = i by simp, hp]; rfl) ?_; conv => whnf) | refine NEED.au ?_ | ((with_reducible apply GET.at); rfl) | ((with_reducible apply GETG.at); rfl) | ((with_reducible refine UNK.mk (fun h => ?_) ?_) <;> try (exfalso; omega)) | ((with_reducible refine IF.mk (fun h => ?_) (fun h => ?_)) <;> (try simp (disch := omega) only [hsB, hsC, lnB, wrap64, wrap32, simprocAttr] at h) <;> try (exfalso; omega))) <;> conv => whnf)
  exact FIN.here h0 (Oc := [(0, rdBoxC (i + 1) m L E S R v x P)]) rfl rfl rfl ⟨rfl, trivial⟩ ⟨rfl, rfl, rfl⟩
theorem tail_doesC (least : Int) (ps : List (List UInt8)) (hb : bulkM ps + ps.length ≤ 1152921504606846976) (i m : Nat) (him : i + m = ps.length) (L E S R : List UInt8) (v x : Nat) (P : List UInt8) :
    Does Tryz.prog tab 85 7 [.ptr (.loc 0) 0 0 0, .int .i64 least] [(0, rdBoxC i m L E S R v x P)] [(1, .rows 1 (ps.map strRow))]
      (fun r O nx => ∃ (n : Nat) (s : List UInt8), n = spanM (fun s => madeM s least 8 false) (ps.drop i) ∧ s.length ≤ bulkM ps + ps.length ∧ r = .tup [.str s, .bool (decide (n ≠ 0))] ∧ O = [(0, rdBoxC (i + n) (m - n) L E S R v x P)] ∧ nx = 7) := by
  have hsm : ∀ s ∈ ps, Sm s := by
    intro s hs
    obtain ⟨j, hj, rfl⟩ := List.getElem_of_mem hs
    have h1 := sum_le (List.getElem?_eq_getElem hj)
    have h2 := bulk_take ps (j + 1)
    omega
  refine Does.enter tabOK (g := 85) (fn := Tryz.f85) Tryz.call85 Tryz.func85 rfl 18 rfl rfl [.tmp 4, .tmp 5] rfl ?_
  intro w0 F η0 h0
  conv => whnf
  refine LOOP.go tabOK [0, 3] (X := Nat × List UInt8) (fun y => y.1 ≤ m ∧ y.2.length ≤ ((ps.take (i + y.1)).map List.length).sum + (i + y.1) ∧ (y.1 = 0 ↔ y.2 = []) ∧ spanM (fun s => madeM s least 8 false) (ps.drop i) = y.1 + spanM (fun s => madeM s least 8 false) (ps.drop (i + y.1))) (fun y => [(6, .str y.2)]) (fun y => [(0, rdBoxC (i + y.1) (m - y.1) L E S R v x P), (7, .box [.int .i64 least])]) 8 (fun y => m - y.1) (0, []) ⟨by simp, by simp, by simp, by simp⟩ ?_
  conv => whnf
  refine ⟨by (refine GOES.cutting h0 rfl rfl rfl (by first | rfl | simp [belowO, belowH, plainLL_below, plainLL_map, plainL, plain]) ?_ ?_ <;> (repeat' (first | (with_reducible rfl) | (exact congrArg (fun n => SV.sl _ _ _ n _) (by simp)) | (exact congrArg (Hp.rows _) (by simp)) | (exact congrArg (SV.int _) (by first | omega | (simp (disch := omega) only [lnB, wrap64, wrap32] <;> omega) | (simp; done) | (simp <;> omega))) | ((conv => whnf); refine ⟨?_, ?_⟩) | exact trivial | (simp; done) | rfl))), ?_⟩
  rintro ⟨n, s⟩ ⟨hn, hl, h0s, hspan⟩
  dsimp only at hn hl h0s hspan ⊢
  conv => whnf
  refine CALL.here (seesTail_doesC least ps hsm (i + n) (m - n) (by omega) L E S R v x P) rfl rfl (by first | rfl | (simp only [belowO, belowH, plainLL_below _ (plainStrs _), Bool.and_self, Bool.and_true] <;> rfl)) (by first | rfl | (simp only [belowO, belowH, plainLL_below _ (plainStrs _), Bool.and_self, Bool.and_true] <;> rfl)) (by repeat' (first | exact trivial | exact rfl | ((conv => whnf); refine ⟨?_, ?_⟩))) (by repeat' (first | exact trivial | exact rfl | ((conv => whnf); refine ⟨?_, ?_⟩))) rfl ?_ ?_
  · rintro r O' nx' ⟨rfl, rfl, rfl⟩; exact ⟨rfl, rfl, rfl⟩
  rintro r O' ⟨rfl, rfl, _⟩
  conv => whnf
  refine ⟨fun h => ?_, fun h => ?_⟩
  · obtain ⟨p, hp, hpm⟩ : ∃ p, ps[i + n]? = some p ∧ madeM p least 8 false = true := by
      unfold seesM at h
      cases hp : ps[i + n]? with
      | none => rw [hp] at h; cases h
      | some p => rw [hp] at h; exact ⟨p, rfl, h⟩
    have hlt := (List.getElem?_eq_some_iff.1 hp).1
    have hs1 := sum_le hp
    have hs2 := bulk_take ps (i + n + 1)
    obtain ⟨k, hk⟩ : ∃ k, m - n = k + 1 := ⟨m - n - 1, by omega⟩
    rw [hk]
    conv => whnf
    refine CALL.here (next_tag_doesC ps (i + n) k (by omega) p hp L E S R v x P) rfl rfl (by first | rfl | (simp only [belowO, belowH, plainLL_below _ (plainStrs _), Bool.and_self, Bool.and_true] <;> rfl)) (by first | rfl | (simp only [belowO, belowH, plainLL_below _ (plainStrs _), Bool.and_self, Bool.and_true] <;> rfl)) (by repeat' (first | exact trivial | exact rfl | ((conv => whnf); refine ⟨?_, ?_⟩))) (by repeat' (first | exact trivial | exact rfl | ((conv => whnf); refine ⟨?_, ?_⟩))) rfl ?_ ?_
    · rintro r O' nx' ⟨rfl, rfl, rfl⟩; exact ⟨rfl, rfl, rfl⟩
    rintro r O' ⟨rfl, rfl, _⟩
    conv => whnf
    repeat' ((first | with_reducible refine IF.tt ?_ | with_reducible refine IF.ff ?_ | refine NEED.au ?_ | ((with_reducible apply GET.at); rfl) | ((with_reducible apply GETG.at); rfl) | ((with_reducible refine UNK.mk (fun h => ?_) ?_) <;> try (exfalso; omega)) | ((with_reducible refine IF.mk (fun h => ?_) (fun h => ?_)) <;> (try simp (disch := omega) only [hsB, hsC, lnB, wrap64, wrap32, simprocAttr] at h) <;> try (exfalso; omega))) <;> conv => whnf)
    have hsp : spanM (fun s => madeM s least 8 false) (ps.drop (i + n)) = spanM (fun s => madeM s least 8 false) (ps.drop (i + (n + 1))) + 1 := by
      rw [List.drop_eq_getElem_cons hlt]
      have : ps[i + n] = p := by
        have := List.getElem?_eq_getElem hlt
        rw [hp] at this; injection this with this; exact this.symm
      rw [this]
      simp only [spanM, hpm, if_true]
      rfl
    refine ⟨(n + 1, s ++ ([45] ++ p)), ⟨by simp only; omega, ?_, by simp, by simp only; omega⟩, by simp only; omega, ?_⟩
    · simp only [List.length_append, List.length_cons, List.length_nil]
      rw [show i + (n + 1) = i + n + 1 by omega, hs1]; omega
    · dsimp only
      rw [show i + (n + 1) = i + n + 1 by omega, show m - (n + 1) = k by omega]
      conv => whnf
      (refine GOES.cutting h0 rfl rfl rfl (by first | rfl | simp [belowO, belowH, plainLL_below, plainLL_map, plainL, plain]) ?_ ?_ <;> (repeat' (first | (with_reducible rfl) | (exact congrArg (fun n => SV.sl _ _ _ n _) (by simp)) | (exact congrArg (Hp.rows _) (by simp)) | (exact congrArg (SV.int _) (by first | omega | (simp (disch := omega) only [lnB, wrap64, wrap32] <;> omega) | (simp; done) | (simp <;> omega))) | ((conv => whnf); refine ⟨?_, ?_⟩) | exact trivial | (simp; done) | rfl)))
  · have hsp : spanM (fun s => madeM s least 8 false) (ps.drop (i + n)) = 0 := by
      unfold seesM at h
      cases hp : ps[i + n]? with
      | none => rw [List.drop_eq_nil_of_le (by simpa using hp)]; rfl
      | some p =>
        rw [hp] at h
        have hlt := (List.getElem?_eq_some_iff.1 hp).1
        rw [List.drop_eq_getElem_cons hlt]
        have : ps[i + n] = p := by
          have := List.getElem?_eq_getElem hlt
          rw [hp] at this; injection this with this; exact this.symm
        rw [this]
        simp only [spanM]
        simp only at h
        simp [h]
    have hs2 := bulk_take ps (i + n)
    conv => whnf
    repeat' ((first | with_reducible refine IF.tt ?_ | with_reducible refine IF.ff ?_ | refine NEED.au ?_ | ((with_reducible apply GET.at); rfl) | ((with_reducible apply GETG.at); rfl) | ((with_reducible refine UNK.mk (fun h => ?_) ?_) <;> try (exfalso; omega)) | ((with_reducible refine IF.mk (fun h => ?_) (fun h => ?_)) <;> (try simp (disch := omega) only [hsB, hsC, lnB, wrap64, wrap32, simprocAttr] at h) <;> try (exfalso; omega))) <;> conv => whnf)
    refine FIN.here h0 (rc := .tup [.str s, .bool (decide (n ≠ 0))]) (Oc := [(0, rdBoxC (i + n) (m - n) L E S R v x P)]) ?_ rfl rfl ⟨rfl, trivial⟩ ⟨n, s, by omega, by omega, rfl, rfl, rfl⟩
    show SV.tup [SV.str s, SV.bool (s != [])] = SV.tup [SV.str s, SV.bool (decide (n ≠ 0))]
    have : (s != []) = decide (n ≠ 0) := by rw [Bool.eq_iff_iff]; simp [h0s]
    rw [this]
end Go.Proofs.YtillkgjdbnjnoaaGreatDoor
/- names: the reader of tags: language and rest, walked. Conditions: none. -/
set_option linter.unusedVariables false
set_option linter.unusedSimpArgs false
set_option maxRecDepth 20000
namespace Go.Proofs.YtillkgjdbnjnoaaGreatDoor
open Go.Sx Go.Our
def plTag20 : Plan := (.take 0 1 (.take 1 1 (.take 2 1 (.take 3 1 (.take 5 1 (.fork 4 3 6 0 (planOf [(6, 0), (7, 1), (8, 1), (9, 1), (10, 1), (11, 0)]) (planOf [(4, 2), (7, 1), (8, 1), (9, 1), (10, 1), (11, 0)])))))))
theorem bulk_sm {ps : List (List UInt8)} (hb : bulkM ps + ps.length ≤ 1152921504606846976) : ∀ s ∈ ps, Sm s := by
  intro s hs
  obtain ⟨j, hj, rfl⟩ := List.getElem_of_mem hs
  have h1 := sum_le (List.getElem?_eq_getElem hj)
  have h2 := bulk_take ps (j + 1)
  omega
theorem sees_yes {p : List UInt8 → Bool} {ps : List (List UInt8)} {i : Nat} (h : seesM p ps i = true) : ∃ s, ps[i]? = some s ∧ p s = true := by
  unfold seesM at h
  cases hp : ps[i]? with
  | none => rw [hp] at h; cases h
  | some s => rw [hp] at h; exact ⟨s, rfl, h⟩
theorem drop_at {ps : List (List UInt8)} {i : Nat} {s : List UInt8} (h : ps[i]? = some s) : ps.drop i = s :: ps.drop (i + 1) := by
  obtain ⟨h1, rfl⟩ := List.getElem?_eq_some_iff.1 h
  exact List.drop_eq_getElem_cons h1
theorem sees_no {p : List UInt8 → Bool} {ps : List (List UInt8)} {i : Nat} (h : seesM p ps i = false) : ps.drop i = [] ∨ ∃ s, ps[i]? = some s ∧ ps.drop i = s :: ps.drop (i + 1) ∧ p s = false := by
  unfold seesM at h
  cases hp : ps[i]? with
  | none => exact .inl (List.drop_eq_nil_of_le (by simpa using hp))
  | some s => rw [hp] at h; exact .inr ⟨s, rfl, drop_at hp, h⟩
theorem ext_no {n : Nat} {ps : List (List UInt8)} {i : Nat} (h : seesM (fun s => madeM s 3 3 true) ps i = false) : extP n (ps.drop i) = ps.drop i := by
  rcases sees_no h with h | ⟨s, _, h1, h2⟩
  · rw [h]; cases n <;> rfl
  · rw [h1]; cases n with
    | zero => rfl
    | succ n => simp only [extP]; simp [h2]
theorem made_len {s : List UInt8} {a b : Int} {pure : Bool} (h : madeM s a b pure = true) : a ≤ s.length ∧ (s.length : Int) ≤ b := by
  unfold madeM at h; simp at h; omega
theorem language_does (ps : List (List UInt8)) (hb : bulkM ps + ps.length ≤ 1152921504606846976) (i m : Nat) (him : i + m = ps.length) (S R : List UInt8) (v x : Nat) (P : List UInt8) :
    Does Tryz.prog tab 82 4 [.ptr (.loc 0) 0 0 0] [(0, rdBox i m [] [] S R v x P)] [(1, .rows 1 (ps.map strRow))]
      (fun r O nx => ∃ (i' m' : Nat) (L E : List UInt8), i' + m' = ps.length ∧ r = .bool (langP (ps.drop i)).isSome ∧ (∀ l, langP (ps.drop i) = some l → l = ps.drop i') ∧ O = [(0, rdBox i' m' L E S R v x P)] ∧ nx = 4) := by
  have hsm := bulk_sm hb
  refine Does.enter tabOK (g := 82) (fn := Tryz.f82) Tryz.call82 Tryz.func82 rfl 50 rfl rfl [.tmp 2] rfl ?_
  intro w0 F η0 h0
  conv => whnf
  refine CALL.here (sees_does 106 _ ps (fun s hs => lang1_does s (hsm s hs)) i m him [] [] S R v x P) rfl rfl (by first | rfl | (simp only [belowO, belowH, plainLL_below _ (plainStrs _), Bool.and_self, Bool.and_true] <;> rfl)) (by first | rfl | (simp only [belowO, belowH, plainLL_below _ (plainStrs _), Bool.and_self, Bool.and_true] <;> rfl)) (by repeat' (first | exact trivial | exact rfl | ((conv => whnf); refine ⟨?_, ?_⟩))) (by repeat' (first | exact trivial | exact rfl | ((conv => whnf); refine ⟨?_, ?_⟩))) rfl ?_ ?_
  · rintro r O' nx' ⟨rfl, rfl, rfl⟩; exact ⟨rfl, rfl, rfl⟩
  rintro r O' ⟨rfl, rfl, _⟩
  conv => whnf
  refine IF.mk (fun h => ?_) (fun h => ?_)
  · conv => whnf
    have h : seesM (fun s => madeM s 2 8 true) ps i = false := by simpa using h
    have hn : langP (ps.drop i) = none := by
      rcases sees_no h with h | ⟨s, _, h1, h2⟩
      · rw [h]; rfl
      · rw [h1]; simp only [langP]; simp [h2]
    exact FIN.here h0 (Oc := [(0, rdBox i m [] [] S R v x P)]) rfl rfl rfl ⟨rfl, trivial⟩ ⟨i, m, [], [], him, by rw [hn]; rfl, by simp [hn], rfl, rfl⟩
  have h : seesM (fun s => madeM s 2 8 true) ps i = true := by simpa using h
  obtain ⟨p, hp, hpm⟩ := sees_yes h
  have hlt := (List.getElem?_eq_some_iff.1 hp).1
  have hd := drop_at hp
  obtain ⟨k, rfl⟩ : ∃ k, m = k + 1 := ⟨m - 1, by omega⟩
  have hlen := made_len hpm
  conv => whnf
  refine CALL.here (next_tag_does ps i k him p hp [] [] S R v x P) rfl rfl (by first | rfl | (simp only [belowO, belowH, plainLL_below _ (plainStrs _), Bool.and_self, Bool.and_true] <;> rfl)) (by first | rfl | (simp only [belowO, belowH, plainLL_below _ (plainStrs _), Bool.and_self, Bool.and_true] <;> rfl)) (by repeat' (first | exact trivial | exact rfl | ((conv => whnf); refine ⟨?_, ?_⟩))) (by repeat' (first | exact trivial | exact rfl | ((conv => whnf); refine ⟨?_, ?_⟩))) rfl ?_ ?_
  · rintro r O' nx' ⟨rfl, rfl, rfl⟩; exact ⟨rfl, rfl, rfl⟩
  rintro r O' ⟨rfl, rfl, _⟩
  conv => whnf
  refine IF.mk (fun h => ?_) (fun h => ?_)
  · conv => whnf
    have h : 3 < p.length := by simp at h; omega
    exact FIN.here h0 (Oc := [(0, rdBox (i + 1) k p [] S R v x P)]) rfl rfl rfl ⟨rfl, trivial⟩ ⟨i + 1, k, p, [], by omega, by rw [hd]; simp only [langP]; simp [hpm, h], by rw [hd]; simp only [langP]; simp [hpm, h], rfl, rfl⟩
  have h : ¬ 3 < p.length := by simp at h; omega
  have hL : langP (ps.drop i) = some (extP 3 (ps.drop (i + 1))) := by rw [hd]; simp only [langP]; rw [if_pos hpm, if_neg h]
  conv => whnf
  refine LOOP.go tabOK [0] (X := Nat × List UInt8 × Nat) (fun y => y.1 ≤ 3 ∧ y.2.1.length ≤ 4 * y.1 ∧ y.2.2 + (ps.length - y.2.2) = ps.length ∧ extP 3 (ps.drop (i + 1)) = extP (3 - y.1) (ps.drop y.2.2)) (fun y => [(3, .int .i64 (y.1 : Int))]) (fun y => [(0, rdBox y.2.2 (ps.length - y.2.2) p y.2.1 S R v x P)]) 4 (fun y => 3 - y.1) (0, [], i + 1) ⟨by simp, by simp, by simp only; omega, rfl⟩ ?_
  conv => whnf
  rw [show ps.length - (i + 1) = k by omega]
  refine ⟨by (refine GOES.cutting h0 rfl rfl rfl (by first | rfl | simp [belowO, belowH, plainLL_below, plainLL_map, plainL, plain]) ?_ ?_ <;> (repeat' (first | (with_reducible rfl) | (exact congrArg (fun n => SV.sl _ _ _ n _) (by simp)) | (exact congrArg (Hp.rows _) (by simp)) | (exact congrArg (SV.int _) (by first | omega | (simp (disch := omega) only [lnB, wrap64, wrap32] <;> omega) | (simp; done) | (simp <;> omega))) | ((conv => whnf); refine ⟨?_, ?_⟩) | exact trivial | (simp; done) | rfl))), ?_⟩
  rintro ⟨c, E, a⟩ ⟨hc, hE, ha, hx⟩
  dsimp only at hc hE ha hx ⊢
  conv => whnf
  have fin : seesM (fun s => madeM s 3 3 true) ps a = false ∨ c = 3 → extP 3 (ps.drop (i + 1)) = ps.drop a := by
    rintro (h | h)
    · rw [hx, ext_no h]
    · subst h; rw [hx]; rfl
  refine IF.mk (fun h => ?_) (fun h => ?_)
  · have h : c < 3 := by simp at h; omega
    conv => whnf
    repeat' ((first | with_reducible refine IF.tt ?_ | with_reducible refine IF.ff ?_ | refine NEED.au ?_ | ((with_reducible apply GET.at); rfl) | ((with_reducible apply GETG.at); rfl) | ((with_reducible refine UNK.mk (fun h => ?_) ?_) <;> try (exfalso; omega)) | ((with_reducible refine IF.mk (fun h => ?_) (fun h => ?_)) <;> (try simp (disch := omega) only [hsB, hsC, lnB, wrap64, wrap32, simprocAttr] at h) <;> try (exfalso; omega))) <;> conv => whnf)
    refine CALL.here (sees_does 108 _ ps (fun s hs => lang2_does s (hsm s hs)) a (ps.length - a) ha p E S R v x P) rfl rfl (by first | rfl | (simp only [belowO, belowH, plainLL_below _ (plainStrs _), Bool.and_self, Bool.and_true] <;> rfl)) (by first | rfl | (simp only [belowO, belowH, plainLL_below _ (plainStrs _), Bool.and_self, Bool.and_true] <;> rfl)) (by repeat' (first | exact trivial | exact rfl | ((conv => whnf); refine ⟨?_, ?_⟩))) (by repeat' (first | exact trivial | exact rfl | ((conv => whnf); refine ⟨?_, ?_⟩))) rfl ?_ ?_
    · rintro r O' nx' ⟨rfl, rfl, rfl⟩; exact ⟨rfl, rfl, rfl⟩
    rintro r O' ⟨rfl, rfl, _⟩
    conv => whnf
    repeat' ((first | with_reducible refine IF.tt ?_ | with_reducible refine IF.ff ?_ | refine NEED.au ?_ | ((with_reducible apply GET.at); rfl) | ((with_reducible apply GETG.at); rfl) | ((with_reducible refine UNK.mk (fun h => ?_) ?_) <;> try (exfalso; omega)) | ((with_reducible refine IF.mk (fun h => ?_) (fun h => ?_)) <;> (try simp (disch := omega) only [hsB, hsC, lnB, wrap64, wrap32, simprocAttr] at h) <;> try (exfalso; omega))) <;> conv => whnf)
    · obtain ⟨q, hq, hqm⟩ := sees_yes (by assumption)
      have hql := made_len hqm
      obtain ⟨k', hk'⟩ : ∃ k', ps.length - a = k' + 1 := ⟨ps.length - a - 1, by have := (List.getElem?_eq_some_iff.1 hq).1; omega⟩
      rw [hk']
      repeat' ((first | with_reducible refine IF.tt ?_ | with_reducible refine IF.ff ?_ | refine DRAWN.of (id := 11) tabOK mixed plTag20 (by kernel_rfl) ?_ | with_reducible refine ADD.mk (fun _ _ => ?_) | with_reducible refine NEED.mk (Det.of rfl) ?_ | refine NEED.mk (det_pos (by omega)) ?_ | with_reducible refine FORK.mk ?_ ?_ | refine NEED.au ?_ | ((with_reducible apply GET.at); rfl) | ((with_reducible apply GETG.at); rfl) | ((with_reducible refine UNK.mk (fun h => ?_) ?_) <;> try (exfalso; omega)) | ((with_reducible refine IF.mk (fun h => ?_) (fun h => ?_)) <;> (try simp (disch := omega) only [hsB, hsC, lnB, wrap64, wrap32, simprocAttr] at h) <;> try (exfalso; omega))) <;> conv => whnf)
      all_goals
        refine CALL.here (next_tag_does ps a k' (by omega) q hq p (E ++ [45]) S R v x P) rfl rfl (by first | rfl | (simp only [belowO, belowH, plainLL_below _ (plainStrs _), Bool.and_self, Bool.and_true] <;> rfl)) (by first | rfl | (simp only [belowO, belowH, plainLL_below _ (plainStrs _), Bool.and_self, Bool.and_true] <;> rfl)) (by repeat' (first | exact trivial | exact rfl | ((conv => whnf); refine ⟨?_, ?_⟩))) (by repeat' (first | exact trivial | exact rfl | ((conv => whnf); refine ⟨?_, ?_⟩))) rfl ?_ ?_
        · rintro r O' nx' ⟨rfl, rfl, rfl⟩; exact ⟨rfl, rfl, rfl⟩
        rintro r O' ⟨rfl, rfl, _⟩
        conv => whnf
        repeat' ((first | with_reducible refine IF.tt ?_ | with_reducible refine IF.ff ?_ | refine DRAWN.of (id := 11) tabOK mixed plTag20 (by kernel_rfl) ?_ | with_reducible refine ADD.mk (fun _ _ => ?_) | with_reducible refine NEED.mk (Det.of rfl) ?_ | refine NEED.mk (det_pos (by omega)) ?_ | with_reducible refine FORK.mk ?_ ?_ | refine NEED.au ?_ | ((with_reducible apply GET.at); rfl) | ((with_reducible apply GETG.at); rfl) | ((with_reducible refine UNK.mk (fun h => ?_) ?_) <;> try (exfalso; omega)) | ((with_reducible refine IF.mk (fun h => ?_) (fun h => ?_)) <;> (try simp (disch := omega) only [hsB, hsC, lnB, wrap64, wrap32, simprocAttr] at h) <;> try (exfalso; omega))) <;> conv => whnf)
        refine ⟨(c + 1, (E ++ [45]) ++ q, a + 1), ⟨by simp only; omega, by simp only [List.length_append, List.length_cons, List.length_nil]; omega, by simp only; omega, ?_⟩, by simp only; omega, ?_⟩
        · rw [hx, drop_at hq, show 3 - c = (3 - (c + 1)) + 1 by omega]; simp only [extP]; rw [if_pos hqm]
        · dsimp only
          rw [show ps.length - (a + 1) = k' by omega]
          conv => whnf
          (refine GOES.cutting h0 rfl rfl rfl (by first | rfl | simp [belowO, belowH, plainLL_below, plainLL_map, plainL, plain]) ?_ ?_ <;> (repeat' (first | (with_reducible rfl) | (exact congrArg (fun n => SV.sl _ _ _ n _) (by simp)) | (exact congrArg (Hp.rows _) (by simp)) | (exact congrArg (SV.int _) (by first | omega | (simp (disch := omega) only [lnB, wrap64, wrap32] <;> omega) | (simp; done) | (simp <;> omega))) | ((conv => whnf); refine ⟨?_, ?_⟩) | exact trivial | (simp; done) | rfl)))
    · obtain ⟨q, hq, hqm⟩ := sees_yes (by assumption)
      have hql := made_len hqm
      obtain ⟨k', hk'⟩ : ∃ k', ps.length - a = k' + 1 := ⟨ps.length - a - 1, by have := (List.getElem?_eq_some_iff.1 hq).1; omega⟩
      rw [hk']
      have hc0 : c = 0 := by omega
      repeat' ((first | with_reducible refine IF.tt ?_ | with_reducible refine IF.ff ?_ | refine DRAWN.of (id := 11) tabOK mixed plTag20 (by kernel_rfl) ?_ | with_reducible refine ADD.mk (fun _ _ => ?_) | with_reducible refine NEED.mk (Det.of rfl) ?_ | refine NEED.mk (det_pos (by omega)) ?_ | with_reducible refine FORK.mk ?_ ?_ | refine NEED.au ?_ | ((with_reducible apply GET.at); rfl) | ((with_reducible apply GETG.at); rfl) | ((with_reducible refine UNK.mk (fun h => ?_) ?_) <;> try (exfalso; omega)) | ((with_reducible refine IF.mk (fun h => ?_) (fun h => ?_)) <;> (try simp (disch := omega) only [hsB, hsC, lnB, wrap64, wrap32, simprocAttr] at h) <;> try (exfalso; omega))) <;> conv => whnf)
      all_goals
        refine CALL.here (next_tag_does ps a k' (by omega) q hq p (E) S R v x P) rfl rfl (by first | rfl | (simp only [belowO, belowH, plainLL_below _ (plainStrs _), Bool.and_self, Bool.and_true] <;> rfl)) (by first | rfl | (simp only [belowO, belowH, plainLL_below _ (plainStrs _), Bool.and_self, Bool.and_true] <;> rfl)) (by repeat' (first | exact trivial | exact rfl | ((conv => whnf); refine ⟨?_, ?_⟩))) (by repeat' (first | exact trivial | exact rfl | ((conv => whnf); refine ⟨?_, ?_⟩))) rfl ?_ ?_
        · rintro r O' nx' ⟨rfl, rfl, rfl⟩; exact ⟨rfl, rfl, rfl⟩
        rintro r O' ⟨rfl, rfl, _⟩
        conv => whnf
        repeat' ((first | with_reducible refine IF.tt ?_ | with_reducible refine IF.ff ?_ | refine DRAWN.of (id := 11) tabOK mixed plTag20 (by kernel_rfl) ?_ | with_reducible refine ADD.mk (fun _ _ => ?_) | with_reducible refine NEED.mk (Det.of rfl) ?_ | refine NEED.mk (det_pos (by omega)) ?_ | with_reducible refine FORK.mk ?_ ?_ | refine NEED.au ?_ | ((with_reducible apply GET.at); rfl) | ((with_reducible apply GETG.at); rfl) | ((with_reducible refine UNK.mk (fun h => ?_) ?_) <;> try (exfalso; omega)) | ((with_reducible refine IF.mk (fun h => ?_) (fun h => ?_)) <;> (try simp (disch := omega) only [hsB, hsC, lnB, wrap64, wrap32, simprocAttr] at h) <;> try (exfalso; omega))) <;> conv => whnf)
        refine ⟨(c + 1, (E) ++ q, a + 1), ⟨by simp only; omega, by simp only [List.length_append, List.length_cons, List.length_nil]; omega, by simp only; omega, ?_⟩, by simp only; omega, ?_⟩
        · rw [hx, drop_at hq, show 3 - c = (3 - (c + 1)) + 1 by omega]; simp only [extP]; rw [if_pos hqm]
        · dsimp only
          rw [show ps.length - (a + 1) = k' by omega]
          conv => whnf
          (refine GOES.cutting h0 rfl rfl rfl (by first | rfl | simp [belowO, belowH, plainLL_below, plainLL_map, plainL, plain]) ?_ ?_ <;> (repeat' (first | (with_reducible rfl) | (exact congrArg (fun n => SV.sl _ _ _ n _) (by simp)) | (exact congrArg (Hp.rows _) (by simp)) | (exact congrArg (SV.int _) (by first | omega | (simp (disch := omega) only [lnB, wrap64, wrap32] <;> omega) | (simp; done) | (simp <;> omega))) | ((conv => whnf); refine ⟨?_, ?_⟩) | exact trivial | (simp; done) | rfl)))
    · exact FIN.here h0 (Oc := [(0, rdBox a (ps.length - a) p E S R v x P)]) rfl rfl rfl ⟨rfl, trivial⟩ ⟨a, ps.length - a, p, E, ha, by rw [hL]; rfl, by rw [hL]; rintro l ⟨⟩; exact fin (.inl (by assumption)), rfl, rfl⟩
  · have h : c = 3 := by simp at h; omega
    conv => whnf
    repeat' ((first | with_reducible refine IF.tt ?_ | with_reducible refine IF.ff ?_ | refine NEED.au ?_ | ((with_reducible apply GET.at); rfl) | ((with_reducible apply GETG.at); rfl) | ((with_reducible refine UNK.mk (fun h => ?_) ?_) <;> try (exfalso; omega)) | ((with_reducible refine IF.mk (fun h => ?_) (fun h => ?_)) <;> (try simp (disch := omega) only [hsB, hsC, lnB, wrap64, wrap32, simprocAttr] at h) <;> try (exfalso; omega))) <;> conv => whnf)
    exact FIN.here h0 (Oc := [(0, rdBox a (ps.length - a) p E S R v x P)]) rfl rfl rfl ⟨rfl, trivial⟩ ⟨a, ps.length - a, p, E, ha, by rw [hL]; rfl, by rw [hL]; rintro l ⟨⟩; exact fin (.inr h), rfl, rfl⟩
theorem skip_no {p : List UInt8 → Bool} {ps : List (List UInt8)} {i : Nat} (h : seesM p ps i = false) : skipIf p (ps.drop i) = ps.drop i := by
  rcases sees_no h with h | ⟨s, _, h1, h2⟩
  · rw [h]; rfl
  · rw [h1]; simp only [skipIf]; rw [if_neg (by simp [h2])]
theorem skip_yes {p : List UInt8 → Bool} {ps : List (List UInt8)} {i : Nat} {s : List UInt8} (h : ps[i]? = some s) (hp : p s = true) : skipIf p (ps.drop i) = ps.drop (i + 1) := by
  rw [drop_at h]; simp only [skipIf]; rw [if_pos hp]
theorem index_st_does (l : List (List UInt8)) (s : List UInt8) (hl : l.length ≤ 1152921504606846976) : Does Tryz.prog tab 124 1 [.sl (.loc 0) 0 1 l.length none, .str s] [] [(0, .rows 1 (l.map strRow))]
    (fun r O nx => ∃ n : Int, (0 ≤ n ↔ s ∈ l) ∧ r = .int .i64 n ∧ O = [] ∧ nx = 1) := by
  refine Does.enter tabOK (g := 124) (fn := Tryz.f124) Tryz.call124 Tryz.func124 rfl 19 rfl rfl [.tmp 4] rfl ?_
  intro w0 F η0 h0
  conv => whnf
  refine LOOP.go tabOK [0, 1, 7] (X := Nat) (fun i => i ≤ l.length ∧ s ∉ l.take i) (fun i => [(8, .int .i64 (i : Int))]) (fun i => []) 1 (fun i => l.length - i) 0 ⟨by omega, by simp⟩ ?_
  conv => whnf
  refine ⟨by (refine GOES.cutting h0 rfl rfl rfl (by first | rfl | simp [belowO, belowH, plainLL_below, plainLL_map, plainL, plain]) ?_ ?_ <;> (repeat' (first | (with_reducible rfl) | (exact congrArg (fun n => SV.sl _ _ _ n _) (by simp)) | (exact congrArg (Hp.rows _) (by simp)) | (exact congrArg (SV.int _) (by first | omega | (simp (disch := omega) only [lnB, wrap64, wrap32] <;> omega) | (simp; done) | (simp <;> omega))) | ((conv => whnf); refine ⟨?_, ?_⟩) | exact trivial | (simp; done) | rfl))), ?_⟩
  rintro i ⟨hi, hc⟩
  conv => whnf
  repeat' ((first | with_reducible refine IF.tt ?_ | with_reducible refine IF.ff ?_ | (refine GET.at (row := strRow (l[i]'(by omega))) (by rw [List.getElem?_map, show 0 + (i : Int).toNat = i by omega, List.getElem?_eq_getElem (by omega)]; rfl) ?_; conv => whnf) | refine NEED.au ?_ | ((with_reducible apply GET.at); rfl) | ((with_reducible apply GETG.at); rfl) | ((with_reducible refine UNK.mk (fun h => ?_) ?_) <;> try (exfalso; omega)) | ((with_reducible refine IF.mk (fun h => ?_) (fun h => ?_)) <;> (try simp (disch := omega) only [hsB, hsC, lnB, wrap64, wrap32, simprocAttr] at h) <;> try (exfalso; omega))) <;> conv => whnf)
  · have hl : i < l.length := by omega
    exact FIN.val h0 rfl ⟨i, ⟨fun _ => by subst h; exact List.getElem_mem hl, fun _ => by omega⟩, rfl, rfl, rfl⟩
  · have hl : i < l.length := by omega
    refine ⟨i + 1, ⟨by omega, ?_⟩, by omega, ?_⟩
    · rw [List.take_succ_eq_append_getElem hl]
      simp only [List.mem_append, List.mem_singleton]
      rintro (h1 | h1)
      · exact hc h1
      · exact h h1
    · conv => whnf
      (refine GOES.cutting h0 rfl rfl rfl (by first | rfl | simp [belowO, belowH, plainLL_below, plainLL_map, plainL, plain]) ?_ ?_ <;> (repeat' (first | (with_reducible rfl) | (exact congrArg (fun n => SV.sl _ _ _ n _) (by simp)) | (exact congrArg (Hp.rows _) (by simp)) | (exact congrArg (SV.int _) (by first | omega | (simp (disch := omega) only [lnB, wrap64, wrap32] <;> omega) | (simp; done) | (simp <;> omega))) | ((conv => whnf); refine ⟨?_, ?_⟩) | exact trivial | (simp; done) | rfl)))
  · refine FIN.val h0 rfl ⟨-1, ⟨fun h => by omega, fun h1 => ?_⟩, rfl, rfl, rfl⟩
    rw [List.take_of_length_le (by omega)] at hc
    exact (hc h1).elim
theorem contains_does (l : List (List UInt8)) (s : List UInt8) (hl : l.length ≤ 1152921504606846976) : Does Tryz.prog tab 112 1 [.sl (.loc 0) 0 1 l.length none, .str s] [] [(0, .rows 1 (l.map strRow))] (ValK 1 (.bool (decide (s ∈ l)))) := by
  refine Does.enter tabOK (g := 112) (fn := Tryz.f112) Tryz.call112 Tryz.func112 rfl 9 rfl rfl [.tmp 4] rfl ?_
  intro w0 F η0 h0
  conv => whnf
  refine CALL.here (index_st_does l s hl) rfl rfl (by first | rfl | (simp only [belowO, belowH, plainLL_below _ (plainStrs _), Bool.and_self, Bool.and_true] <;> rfl)) (by first | rfl | (simp only [belowO, belowH, plainLL_below _ (plainStrs _), Bool.and_self, Bool.and_true] <;> rfl)) (by repeat' (first | exact trivial | exact rfl | ((conv => whnf); refine ⟨?_, ?_⟩))) (by repeat' (first | exact trivial | exact rfl | ((conv => whnf); refine ⟨?_, ?_⟩))) rfl ?_ ?_
  · rintro r O' nx' ⟨n, _, rfl, rfl, rfl⟩; exact ⟨rfl, rfl, rfl⟩
  rintro r O' ⟨n, hn, rfl, rfl, _⟩
  conv => whnf
  exact FIN.valueK h0 rfl (congrArg SV.bool (decide_eq_decide.2 hn))
def orE : List Int → Int
  | [] => 0
  | a :: l => if a ≠ 0 then a else orE l
def intRowE (a : Int) : List SV := [.int .i64 a]
theorem cmpOrErr_does (xs : List Int) (hn : xs.length ≤ 1152921504606846976) : Does Tryz.prog tab 52 1 [.sl (.loc 0) 0 1 xs.length none] [] [(0, .rows 1 (xs.map intRowE))] (ValK 1 (.int .i64 (orE xs))) := by
  refine Does.enter tabOK (g := 52) (fn := Tryz.f52) Tryz.call52 Tryz.func52 rfl 18 rfl rfl [.tmp 2] rfl ?_
  intro w0 F η0 h0
  conv => whnf
  refine LOOP.go tabOK [3, 6, 7] (X := Nat) (fun i => i ≤ xs.length ∧ orE xs = orE (xs.drop i)) (fun i => [(8, .int .i64 (i : Int))]) (fun i => []) 1 (fun i => xs.length - i) 0 ⟨by omega, rfl⟩ ?_
  conv => whnf
  refine ⟨by (refine GOES.cutting h0 rfl rfl rfl (by first | rfl | simp [belowO, belowH, plainLL_below, plainLL_map, plainL, plain]) ?_ ?_ <;> (repeat' (first | (with_reducible rfl) | (exact congrArg (fun n => SV.sl _ _ _ n _) (by simp)) | (exact congrArg (Hp.rows _) (by simp)) | (exact congrArg (SV.int _) (by first | omega | (simp (disch := omega) only [lnB, wrap64, wrap32] <;> omega) | (simp; done) | (simp <;> omega))) | ((conv => whnf); refine ⟨?_, ?_⟩) | exact trivial | (simp; done) | rfl))), ?_⟩
  rintro i ⟨hi, ho⟩
  conv => whnf
  repeat' ((first | with_reducible refine IF.tt ?_ | with_reducible refine IF.ff ?_ | (refine GET.at (row := intRowE (xs[i]'(by omega))) (by rw [List.getElem?_map, show 0 + (i : Int).toNat = i by omega, List.getElem?_eq_getElem (by omega)]; rfl) ?_; conv => whnf) | refine NEED.au ?_ | ((with_reducible apply GET.at); rfl) | ((with_reducible apply GETG.at); rfl) | ((with_reducible refine UNK.mk (fun h => ?_) ?_) <;> try (exfalso; omega)) | ((with_reducible refine IF.mk (fun h => ?_) (fun h => ?_)) <;> (try simp (disch := omega) only [hsB, hsC, lnB, wrap64, wrap32, simprocAttr] at h) <;> try (exfalso; omega))) <;> conv => whnf)
  · have hl : i < xs.length := by omega
    refine FIN.valueK h0 rfl (congrArg (SV.int _) ?_)
    rw [ho, List.drop_eq_getElem_cons hl]; simp only [orE]; rw [if_pos h]
  · have hl : i < xs.length := by omega
    refine ⟨i + 1, ⟨by omega, ?_⟩, by omega, ?_⟩
    · rw [ho, List.drop_eq_getElem_cons hl]; simp only [orE]; rw [if_neg (by simpa using h)]
    · conv => whnf
      (refine GOES.cutting h0 rfl rfl rfl (by first | rfl | simp [belowO, belowH, plainLL_below, plainLL_map, plainL, plain]) ?_ ?_ <;> (repeat' (first | (with_reducible rfl) | (exact congrArg (fun n => SV.sl _ _ _ n _) (by simp)) | (exact congrArg (Hp.rows _) (by simp)) | (exact congrArg (SV.int _) (by first | omega | (simp (disch := omega) only [lnB, wrap64, wrap32] <;> omega) | (simp; done) | (simp <;> omega))) | ((conv => whnf); refine ⟨?_, ?_⟩) | exact trivial | (simp; done) | rfl)))
  · refine FIN.valueK h0 rfl (congrArg (SV.int _) ?_)
    rw [ho, List.drop_eq_nil_of_le (by omega)]; rfl
end Go.Proofs.YtillkgjdbnjnoaaGreatDoor
