/- The walk of SumsCRC. -/
import Derived.Test.YtjgjfeicenkceaaDoorCrcL
set_option linter.unusedVariables false
namespace Go.Proofs.YtjgjfeicenkceaaDoor
open Go.RowKit Go.Our Go.Crc

theorem lawCRC_any (w : World) (A : Option Addr) (cap : Nat) (bs : List UInt8) (c : BitVec 32) (ht : Tab w) (hb : Bytes w w.heap.size A bs) (hn : bs.length ≤ 140737488351232) :
    Calls Tryd.prog 3 #[.slice A bs.length cap, .int .u32 (U c)] w fun e w' => e = .returned (.bool true) ∧ Below w.heap.size w w' := by
  go_enter Tryd.func3, Tryd.ntmps3
  go_wp2_with (first | (go_at_call 9; refine (copied_any w A cap bs hb hn).mono ?_; rintro e w1 ⟨g, rfl, hown1, hb1⟩) | (at_builtin; refine wpList_appendE rfl (.tmp 8) (.tmp 9) elB rfl rfl (hown1.alloc _) rfl (Arr.new w1 _ _) rfl ?c1 ?c2 ?c3 ?c4 ?_))
  case c1 => rfl
  case c2 => unfold maxLen; omega
  case c3 => omega
  case c4 => have := hb1.size; simp; omega
  intro v2 w2 hown2 hg2 _
  obtain ⟨g2, cap2, rfl, hc2⟩ := own_form hown2 (by omega)
  have hb2 : Below w.heap.size w w2 := by
    refine (hb1.alloc hb1.size _).grown hg2 (by have := hb1.size; simp; omega) (fun k hk => ?_)
    have := (hown1.lt k hk).1; omega
  have hA2 : Arr w2 w2.heap.size (some ⟨g2, 0, none⟩) (bs.map byteV ++ [.int .u8 8]) := Arr.of_own hown2
  have hB2 : Bytes w2 w2.heap.size (some ⟨g2, 0, none⟩) bs := hA2.prefix_
  have hT := tab_on ht hb2
  have hbb := hb.below hb2
  have h8 : w2.cell? ⟨g2, bs.length, none⟩ = some (.int .u8 8) := by
    rcases hA2 with h | ⟨b, o, hA, _, hc⟩
    · simp at h
    · injection hA with hA; injection hA with e1 e2; subst e1 e2
      have := hc bs.length (.int .u8 8) (by simp)
      simpa using this
  have hne : (bs.length : Int) ≤ (cap2 : Int) := by omega
  have hu1 : (U (update 0#32 bs) == U (update 0#32 bs)) = true := by simp
  have hu2 : (U (update c bs) == U (update c bs)) = true := by simp
  clear hg2 hown1 hb1 hown2 hA2
  have hn2 : bs.length ≤ 9223372036854775807 := by omega
  have hd : decide (bs = bs) = true := by simp
  have hlt : (bs.length : Int) < (bs.length : Int) + 1 := by omega
  go_wp2_with (first
    | (go_at_call 10; refine (sum_any w2 _ _ _ _ hT hB2 hn2).mono ?_; rintro e w' ⟨rfl, rfl⟩)
    | (go_at_call 11; refine (refsum_any w2 _ _ _ _ hbb hn2).mono ?_; rintro e w' ⟨rfl, rfl⟩)
    | (go_at_call 12; refine (update_any w2 _ _ _ _ _ hT hB2 hn2).mono ?_; rintro e w' ⟨rfl, rfl⟩)
    | (go_at_call 13; refine (refupdate_any w2 _ _ _ _ _ hbb hn2).mono ?_; rintro e w' ⟨rfl, rfl⟩)
    | (go_at_call 14; refine (same_any w2 _ _ _ _ _ _ _ _ hB2 hbb hn2).mono ?_; rintro e w3 ⟨rfl, hb3⟩; have h83 := (hb3.cell (p := ⟨_, _, _⟩) (World.block_lt_of_cell? w2 _ h8)).trans h8))
  go_ret
  exact ⟨rfl, below_trans hb2 hb3⟩
end Go.Proofs.YtjgjfeicenkceaaDoor
