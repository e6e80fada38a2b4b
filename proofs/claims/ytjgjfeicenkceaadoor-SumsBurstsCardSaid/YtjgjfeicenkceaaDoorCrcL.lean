/- Walks of the law's helpers on bytes: copied, same, joined. -/
import Derived.Test.YtjgjfeicenkceaaDoorCrcR
import Derived.Test.YtjgjfeicenkceaaDoorMem
set_option linter.unusedVariables false
namespace Go.Proofs.YtjgjfeicenkceaaDoor
open Go.RowKit Go.Our Go.Crc

theorem elB : Elem Tryd.prog 22 5 (.int .u8 0) 1 1 := ⟨Tryd.underlying22, by kernel_rfl, rfl, by decide⟩

theorem tab_on {w w' : World} (h : Tab w) (hb : Below w.heap.size w w') : Tab w' := fun x => by
  have hx := h x
  have hlt := World.block_lt_of_cell? w _ hx
  rw [hb.cell (p := ⟨_, _, _⟩) hlt]; exact hx
theorem own_form {w : World} {base : Nat} {e : TypeId} {size n : Nat} {v : Value} {xs : List Value} (h : w.ownsRow base e size v n xs) (hn : 0 < n) :
    ∃ g cap, v = .slice (some ⟨g, 0, none⟩) n cap ∧ n ≤ cap := by
  rcases h.2 with ⟨_, h0⟩ | ⟨g, cap, cur, hv, _, _, hnc, _⟩
  · omega
  · exact ⟨g, cap, hv, hnc⟩

theorem copied_any (w : World) (A : Option Addr) (cap : Nat) (bs : List UInt8) (hb : Bytes w w.heap.size A bs) (hn : bs.length ≤ 140737488351232) :
    Calls Tryd.prog 9 #[.slice A bs.length cap] w fun e w' => ∃ g, e = .returned (.slice (some ⟨g, 0, none⟩) bs.length bs.length) ∧
      w'.ownsRow w.heap.size 5 1 (.slice (some ⟨g, 0, none⟩) bs.length bs.length) bs.length (bs.map byteV) ∧ Below w.heap.size w w' := by
  go_enter Tryd.func9, Tryd.ntmps9
  go_wp2_with (at_make; refine wpList_makeE rfl _ _ elB rfl w.heap.size bs.length bs.length rfl rfl rfl rfl (Nat.le_refl _) ?c1 ?c2 (Nat.le_refl _) ?_)
  case c1 => omega
  case c2 => unfold maxLen; omega
  intro w1 hown hg
  have hb1 : Below w.heap.size w w1 := (Below.refl _ _).grown hg (Nat.le_refl _) (fun k hk => by cases hk)
  have hB := (hb.below hb1).arr
  clear hg
  go_wp2_with (with_reducible refine wpList_copyE rfl _ _ elB rfl rfl hown rfl hB (by simp) (byteV_one _) (Nat.le_refl _) ?_)
  intro w2 hown2 hg2
  have hb2 : Below w.heap.size w w2 := hb1.grown hg2 hb1.size (fun k hk => by cases hk; exact Nat.le_refl _)
  clear hg2 hown hB
  go_wp2
  go_ret
  exact ⟨_, rfl, by simpa using hown2, hb2⟩

theorem same_any (w : World) (B B' : Nat) (A A' : Option Addr) (cap cap' : Nat) (xs bs : List UInt8) (ha : Bytes w B A xs) (hb : Bytes w B' A' bs) (hn : xs.length ≤ 9223372036854775807) :
    Calls Tryd.prog 14 #[.slice A xs.length cap, .slice A' bs.length cap'] w fun e w' => e = .returned (.bool (decide (xs = bs))) ∧ Below w.heap.size w w' := by
  by_cases hl : xs.length = bs.length
  · have h1 : ((xs.length : Int) != (bs.length : Int)) = false := by simp [hl]
    have HL := Lib.hid hl
    clear hl
    go_enter Tryd.func14, Tryd.ntmps14
    go_wp2
    go_loopw [5] (fun i wr => ∃ k : Nat, k ≤ xs.length ∧ i = .int .i64 k ∧ xs.take k = bs.take k ∧ ∃ n, wr = w.drewN n) (fun i _ => xs.length - (intOf i).toNat)
    case atStart => exact ⟨0, Nat.zero_le _, rfl, rfl, 0, rfl⟩
    case round =>
      obtain ⟨k, hk, rfl, heq, n, rfl⟩ := hrel
      have HE := Lib.hid heq
      clear heq
      by_cases hlt : k < xs.length
      · have hlt' : k < bs.length := by have := HL.out; omega
        obtain ⟨b, o, hA, _, hc⟩ := ha.at_ hlt
        obtain ⟨b', o', hA', _, hc'⟩ := hb.at_ hlt'
        subst hA hA'
        have hkk : (k : Int) < (bs.length : Int) := by omega
        have hne : ((xs[k].toNat : Int) != (bs[k].toNat : Int)) = !decide (xs[k] = bs[k]) := by
          by_cases h : xs[k] = bs[k]
          · simp [h]
          · have : xs[k].toNat ≠ bs[k].toNat := fun e => h (UInt8.toNat_inj.1 e)
            simp [h, bne]; omega
        by_cases hx : xs[k] = bs[k]
        · have hne2 : ((xs[k].toNat : Int) != (bs[k].toNat : Int)) = false := by rw [hne]; simp [hx]
          have HX := Lib.hid hx
          clear hne hx ha hb
          go_wp2_with fail
          go_quiet (fail)
          go_wp2
          go_roundw
          case rel => exact ⟨k + 1, by omega, by go_num, by rw [List.take_succ_eq_append_getElem hlt, List.take_succ_eq_append_getElem hlt', HE.out, HX.out], _, rfl⟩
          case measure => simp [intOf]; omega
        · have hne2 : ((xs[k].toNat : Int) != (bs[k].toNat : Int)) = true := by rw [hne]; simp [hx]
          have HX := Lib.hid hx
          clear hne hx ha hb
          go_wp2_with fail
          go_quiet (fail)
          go_wp2
          go_ret
          refine ⟨congrArg (fun x => Ending.returned (.bool x)) ?_, below_drewN (below_of_drewN _ _) _⟩
          symm; simp only [decide_eq_false_iff_not]
          intro h; subst h; exact HX.out rfl
      · go_wp2
        go_ret
        refine ⟨congrArg (fun x => Ending.returned (.bool x)) ?_, below_of_drewN _ _⟩
        symm; simp only [decide_eq_true_eq]
        have h := HE.out
        rw [List.take_of_length_le (by omega), List.take_of_length_le (by have := HL.out; omega)] at h
        exact h
  · have h1 : ((xs.length : Int) != (bs.length : Int)) = true := by simp; omega
    have HL := Lib.hid hl
    clear hl
    go_enter Tryd.func14, Tryd.ntmps14
    go_wp2
    go_ret
    refine ⟨congrArg (fun x => Ending.returned (.bool x)) ?_, Below.refl _ _⟩
    symm; simp only [decide_eq_false_iff_not]
    intro h; subst h; exact HL.out rfl
end Go.Proofs.YtjgjfeicenkceaaDoor
