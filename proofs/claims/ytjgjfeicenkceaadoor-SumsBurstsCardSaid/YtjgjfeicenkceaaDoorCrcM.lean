/- Walks of the matrices: times, twice, Combine. -/
import Derived.Test.YtjgjfeicenkceaaDoorCrcL
set_option linter.unusedVariables false
namespace Go.Proofs.YtjgjfeicenkceaaDoor
open Go.RowKit Go.Our Go.Crc

def matCells (c : Nat → BitVec 32) : Array Value := ((List.range 32).map fun i => Value.int .u32 (U (c i))).toArray
theorem matCells_at (c : Nat → BitVec 32) (i : Nat) (h : i < 32) : (matCells c)[i]? = some (.int .u32 (U (c i))) := by
  simp [matCells, h]
theorem matCells_eq (c : Nat → BitVec 32) (cs : Array Value) (hs : cs.size = 32) (h : ∀ i, i < 32 → cs[i]? = some (.int .u32 (U (c i)))) : cs = matCells c := by
  apply Array.ext_getElem?
  intro i
  by_cases hi : i < 32
  · rw [h i hi, matCells_at c i hi]
  · rw [Array.getElem?_eq_none (by omega), Array.getElem?_eq_none (by simp [matCells]; omega)]

theorem times_any (w : World) (b : Nat) (t : TypeId) (c : Nat → BitVec 32) (r : BitVec 32) (hm : Blk w b t (matCells c)) :
    Calls Tryd.prog 27 #[.pointer (some ⟨b, 0, none⟩), .int .u32 (U r)] w fun e w' => e = .returned (.int .u32 (U (matMul c r))) ∧ w = w' := by
  have hc : ∀ i, i < 32 → w.cell? ⟨b, i, none⟩ = some (.int .u32 (U (c i))) := fun i hi => (hm.cell i).trans (matCells_at c i hi)
  clear hm
  go_enter Tryd.func27, Tryd.ntmps27
  go_wp2
  go_loop [5, 6, 7] (fun o _ i => ∃ k : Nat, k ≤ 32 ∧ i = .int .i64 k ∧ o = .int .u32 (U (matPart c r k))) (fun _ _ i => 32 - (intOf i).toNat)
  case atStart => exact ⟨0, by omega, rfl, rfl⟩
  case round =>
    obtain ⟨k, hk, rfl, rfl⟩ := hrel
    by_cases hlt : k < 32
    · have hck := hc k hlt
      have hbit := bit_one r k
      clear hc
      cases hb : r.getLsbD k
      · rw [hb] at hbit
        have HB := Lib.hid hb
        clear hb
        go_wp2
        go_round
        case rel => exact ⟨k + 1, by omega, by go_num, by simp [matPart, HB.out]⟩
        case measure => simp [intOf]; omega
      · rw [hb] at hbit
        have HB := Lib.hid hb
        clear hb
        go_wp2
        go_round
        case rel => exact ⟨k + 1, by omega, by go_num, by simp [matPart, HB.out]⟩
        case measure => simp [intOf]; omega
    · obtain rfl : k = 32 := by omega
      go_wp2
      go_ret
      exact ⟨rfl, rfl⟩

theorem matCells_one (c : Nat → BitVec 32) : (matCells c).all (·.oneCell') = true := by
  rw [Array.all_eq_true_iff_forall_mem]
  intro x hx
  simp [matCells] at hx
  obtain ⟨i, _, rfl⟩ := hx
  rfl
theorem size50 : (Tryd.prog.info? 50).map (·.size) = some 32 := by kernel_rfl

theorem twice_any (w : World) (b : Nat) (t : TypeId) (c : Nat → BitVec 32) (hm : Blk w b t (matCells c)) :
    Calls Tryd.prog 28 #[.pointer (some ⟨b, 0, none⟩)] w fun e w' => e = .returned (.agg (matCells fun i => matMul c (c i))) ∧ Below w.heap.size w w' := by
  have hb := hm.lt
  go_enter Tryd.func28, Tryd.ntmps28
  go_wp2_with fail
  go_loopw [4, 5] (fun _ i wr => ∃ k : Nat, k ≤ 32 ∧ i = .int .i64 k ∧ (∃ z, Blk wr w.heap.size 50 z ∧ z.size = 32) ∧
      (∃ cs, Blk wr (w.heap.size + 1) 50 cs ∧ cs.size = 32 ∧ ∀ j, j < k → cs[j]? = some (.int .u32 (U (matMul c (c j))))) ∧ Below w.heap.size w wr) (fun _ i _ => 32 - (intOf i).toNat)
  case atStart =>
    refine ⟨0, by omega, rfl, ⟨_, (Blk.new w _ _).alloc _, ?_⟩, ⟨_, Blk.new' (by simp), ?_, fun j hj => by omega⟩, ((Below.refl _ _).alloc (Nat.le_refl _) _).alloc (by simp) _⟩ <;> rfl
  case round =>
    obtain ⟨k, hk, rfl, ⟨z, hz, hzs⟩, ⟨cs, hcs, hsz, hdone⟩, hbel⟩ := hrel
    by_cases hlt : k < 32
    · have hmr := hm.below hbel hb
      have hck : wr.cell? ⟨b, k, none⟩ = some (.int .u32 (U (c k))) := (hmr.cell k).trans (matCells_at c k hlt)
      have hold : wr.cell? ⟨w.heap.size + 1, k, none⟩ = some cs[k] := (hcs.cell k).trans (Array.getElem?_eq_getElem (by omega))
      have hfr : wr.frozen? ⟨w.heap.size + 1, k, none⟩ = false := hcs.free k
      have HD := Lib.hid hdone
      clear hdone
      go_wp2_with (go_at_call 27; refine (times_any _ b t c _ hmr).mono ?_; rintro e w' ⟨rfl, rfl⟩)
      go_roundw
      case rel =>
        refine ⟨k + 1, by omega, by go_num, ⟨z, hz.far (by simp) _, hzs⟩, ⟨_, hcs.set_ k _, by simpa using hsz, fun j hj => ?_⟩, hbel.setCell (by simp) _⟩
        by_cases hjk : j = k
        · subst hjk; simp [hsz, hlt]
        · rw [Array.getElem?_setIfInBounds_ne (by omega)]; exact HD.out j (by omega)
      case measure => simp [intOf]; omega
    · obtain rfl : k = 32 := by omega
      have he := matCells_eq (fun i => matMul c (c i)) cs hsz hdone
      clear hdone
      subst he
      have hs1 := hsz
      clear hsz
      go_wp2_with (first
        | (refine wpList_loadB rfl 50 (.tmp 3) rfl rfl hcs Tryd.underlying50 rfl size50 ?_)
        | (refine wpList_storeB rfl 50 (.tmp 2) (.tmp 18) rfl rfl hz rfl ?h1 size50 (matCells_one _) ?_))
      case h1 => rw [hzs]; rfl
      intro w2 hz2 hg2
      go_wp2
      refine post_cell rfl rfl hz2 Tryd.underlying50 rfl size50 rfl ⟨rfl, ?_⟩
      exact hbel.grown hg2 hbel.size (fun k hk => by cases hk; exact Nat.le_refl _)

theorem twice_cols (w : World) (b : Nat) (t : TypeId) (m : Nat) (hm : Blk w b t (matCells (cols m))) :
    Calls Tryd.prog 28 #[.pointer (some ⟨b, 0, none⟩)] w fun e w' => e = .returned (.agg (matCells (cols (m + m)))) ∧ Below w.heap.size w w' :=
  (twice_any w b t _ hm).mono fun e w' ⟨he, hb⟩ => ⟨by rw [he]; congr 3; funext i; exact cols_twice m i, hb⟩
theorem toNat_max (n : Int) : ((max n 0).toNat : Int) = max n 0 := by omega
set_option maxRecDepth 100000 in
set_option maxHeartbeats 2000000 in
theorem combine_any (w : World) (x y : BitVec 32) (n : Int) (ht : Tab w) (hn : n ≤ 9223372036854775807) :
    Calls Tryd.prog 15 #[.int .u32 (U x), .int .u32 (U y), .int .i64 n] w fun e w' => e = .returned (.int .u32 (U (combine x y n.toNat))) ∧ Below w.heap.size w w' := by
  go_enter Tryd.func15, Tryd.ntmps15
  go_wp2_with fail
  go_loopw [8, 9] (fun _ i wr => ∃ k : Nat, k ≤ 32 ∧ i = .int .i64 k ∧ (∃ cs, Blk wr w.heap.size 50 cs ∧ cs.size = 32 ∧ ∀ j, j < k → cs[j]? = some (.int .u32 (U (cols 8 j)))) ∧ Below w.heap.size w wr) (fun _ i _ => 32 - (intOf i).toNat)
  case atStart =>
    refine ⟨0, by omega, rfl, ⟨_, Blk.new' (by simp), ?_, fun j hj => by omega⟩, (Below.refl _ _).alloc (Nat.le_refl _) _⟩
    rfl
  case round =>
    obtain ⟨k, hk, rfl, ⟨cs, hcs, hsz, hdone⟩, hbel⟩ := hrel
    by_cases hlt : k < 32
    · have hT := tab_on ht hbel
      have hold : wr.cell? ⟨w.heap.size, k, none⟩ = some cs[k] := (hcs.cell k).trans (Array.getElem?_eq_getElem (by omega))
      have hfr : wr.frozen? ⟨w.heap.size, k, none⟩ = false := hcs.free k
      have HD := Lib.hid hdone
      clear hdone
      go_wp2_with (go_at_call 25; refine (through_any _ (BitVec.twoPow 32 k) 0 hT).mono ?_; rintro e w' ⟨rfl, rfl⟩)
      go_roundw
      case rel =>
        refine ⟨k + 1, by omega, by go_num, ⟨_, hcs.set_ k _, by simpa using hsz, fun j hj => ?_⟩, hbel.setCell (by simp) _⟩
        by_cases hjk : j = k
        · subst hjk; simp [hsz, hlt, cols_first]
        · rw [Array.getElem?_setIfInBounds_ne (by omega)]; exact HD.out j (by omega)
      case measure => simp [intOf]; omega
    · obtain rfl : k = 32 := by omega
      have he := matCells_eq (cols 8) cs hsz hdone
      clear hdone
      subst he
      clear hsz
      rw [show (Value.int .i64 ((32 : Nat) : Int)) = .int .i64 32 from rfl]
      obtain ⟨M, hM⟩ : ∃ M, M = n.toNat := ⟨_, rfl⟩
      obtain ⟨m, hm63, hmM, hcase⟩ : ∃ m : Nat, m < 9223372036854775808 ∧ M = m ∧ (n < 0 ∧ m = 0 ∨ 0 ≤ n ∧ n = (m : Int)) := ⟨M, by omega, rfl, by omega⟩
      have HM := Lib.hid hM
      have HmM := Lib.hid hmM
      clear hM hmM
      rcases hcase with ⟨h0, rfl⟩ | ⟨h0, rfl⟩
      all_goals
        go_wp2_with fail
        have hwr := hcs.lt
        go_loopw [0, 2] (fun f i wq => ∃ (m' p : Nat) (z : BitVec 32), m' < 9223372036854775808 ∧ i = .int .i64 m' ∧ f = .int .u32 (U z) ∧ shN (p * m') z = combine x 0#32 M ∧ Blk wq w.heap.size 50 (matCells (cols p)) ∧ Below w.heap.size w wq) (fun _ i _ => (intOf i).toNat)
        case atStart => exact ⟨_, 8, x, hm63, rfl, rfl, by rw [HmM.out]; simp [combine], hcs, hbel⟩
        case round =>
          obtain ⟨m', p, z, hm', rfl, rfl, hz, hblk, hbq⟩ := hrel
          have HZ := Lib.hid hz
          clear hz hcs hbel
          have hand := and_one_i64 m' hm'
          by_cases hpos : m' = 0
          · subst hpos
            go_wp2
            go_ret
            refine ⟨congrArg (fun x => Ending.returned (.int .u32 (U x))) ?_, hbq⟩
            have := HZ.out
            simp only [Nat.mul_zero, shN] at this
            rw [this, ← HM.out]; simp [combine]
          · have hgt : (0 : Int) < (m' : Int) := by omega
            rcases Nat.mod_two_eq_zero_or_one m' with hodd | hodd
            all_goals
              have hbit : (((m' % 2 : Nat) : Int) == 1) = decide (m' % 2 = 1) := by rw [hodd]; rfl
              rw [hodd] at hbit hand
              go_wp2_with (first
                | (go_at_call 27; refine (times_any _ _ _ _ _ hblk).mono ?_; rintro e w' ⟨rfl, rfl⟩)
                | (go_at_call 28; refine (twice_cols _ _ _ _ hblk).mono ?_; rintro e w2 ⟨rfl, hb2⟩; have hblk2 := hblk.on hb2)
                | ((with_reducible show wpList _ _ _ (⟨none, Op.store _ (.tmp 7) (.tmp 29), _, _, _, _⟩ :: _) _ _); refine wpList_storeB rfl 50 (.tmp 7) (.tmp 29) rfl rfl hblk2 rfl rfl size50 (matCells_one _) ?_; intro w3 hblk3 hg3; have hb3 : Below w.heap.size w w3 := (hbq.trans (hb2.mono hbq.size)).grown hg3 (Nat.le_of_lt hblk2.lt) (fun k hk => by cases hk; exact Nat.le_refl _)))
              go_roundw
              case rel =>
                refine ⟨m' / 2, p + p, _, by omega, by go_num, rfl, ?_, hblk3, hb3⟩
                rw [← HZ.out]
                try rw [matMul_cols]
                try rw [← shN_add]
                congr 1
                have e : m' = m' / 2 + m' / 2 + m' % 2 := by omega
                rw [hodd] at e
                conv => rhs; rw [e]
                simp [Nat.mul_add, Nat.add_mul]
              case measure => simp [intOf]; omega
end Go.Proofs.YtjgjfeicenkceaaDoor
