/- Walks of the CRC functions: each function's contract. -/
import Derived.Test.YtjgjfeicenkceaaDoorChecked
import Derived.Test.YtjgjfeicenkceaaDoorBase
import Derived.Test.YtjgjfeicenkceaaDoorCrc
namespace Go.Proofs.YtjgjfeicenkceaaDoor
open Go.RowKit Go.Our Go.Crc


/-- The table of half bytes lies where it was laid. -/
def Tab (w : World) : Prop := ∀ x : BitVec 32, w.cell? ⟨1, (U (x &&& 15#32)).toNat, none⟩ = some (.int .u32 (U (shN 4 (x &&& 15#32))))
theorem tab_of (w : World) (zs : List Int) (hz : zs = (List.range 16).map fun k => U (shN 4 (BitVec.ofNat 32 k))) (h : ∀ i, i < 16 → w.cell? ⟨1, i, none⟩ = some (.int .u32 (zs.getD i 0))) : Tab w := by
  intro x
  have hlt : (x &&& 15#32).toNat < 16 := by rw [BitVec.toNat_and]; exact Nat.and_lt_two_pow (n := 4) _ (by decide)
  have := h _ hlt
  rw [hz] at this
  simp only [List.getD_eq_getElem?_getD, List.getElem?_map, List.getElem?_range hlt, Option.map_some, Option.getD_some] at this
  rw [BitVec.ofNat_toNat, BitVec.setWidth_eq] at this
  simpa [U] using this
theorem and15_lt (x : BitVec 32) : (x &&& 15#32).toNat < 16 := by
  rw [BitVec.toNat_and]; exact Nat.and_lt_two_pow (n := 4) _ (by decide)
@[local go_sem] theorem and15_ok (x : BitVec 32) : (0 ≤ U (x &&& 15#32) ∧ U (x &&& 15#32) < 16) = True := eq_true (by have := and15_lt x; unfold U; omega)
@[local go_sem] theorem xor_wide (r : BitVec 32) (b : UInt8) : bits .xor .u32 (U r) (b.toNat : Int) = U (r ^^^ wide b) := by
  have : (b.toNat : Int) = U (wide b) := by
    unfold wide U; rw [BitVec.toNat_setWidth, Nat.mod_eq_of_lt (by have := b.toBitVec.isLt; omega)]; rfl
  rw [this, bits_xor_u32]

theorem through_any (w : World) (r : BitVec 32) (b : UInt8) (ht : Tab w) :
    Calls Tryd.prog 25 #[.int .u32 (U r), .int .u8 (b.toNat : Int)] w fun e w' => e = .returned (.int .u32 (U (byteStep r b))) ∧ w = w' := by
  have h1 := ht (r ^^^ wide b)
  have h2 := ht (shN 4 (r ^^^ wide b))
  have n1 := nib (r ^^^ wide b)
  have n2 := nib (shN 4 (r ^^^ wide b))
  clear ht
  go_enter Tryd.func25, Tryd.ntmps25
  go_wp2
  go_ret
  refine ⟨congrArg (fun x => Ending.returned (.int .u32 (U x))) ?_, rfl⟩
  unfold byteStep; rw [show (8 : Nat) = 4 + 4 from rfl, shN_add]

theorem update_any (w : World) (B : Nat) (c : BitVec 32) (A : Option Addr) (cap : Nat) (bs : List UInt8) (ht : Tab w) (hb : Bytes w B A bs) (hn : bs.length ≤ 9223372036854775807) :
    Calls Tryd.prog 12 #[.int .u32 (U c), .slice A bs.length cap] w fun e w' => e = .returned (.int .u32 (U (update c bs))) ∧ w = w' := by
  go_enter Tryd.func12, Tryd.ntmps12
  go_wp2
  go_loop [5, 12] (fun r i => ∃ k : Nat, k ≤ bs.length ∧ i = .int .i64 k ∧ r = .int .u32 (U (upd (~~~ c) (bs.take k)))) (fun _ i => bs.length - (intOf i).toNat)
  case atStart => exact ⟨0, Nat.zero_le _, rfl, rfl⟩
  case round =>
    obtain ⟨k, hk, rfl, rfl⟩ := hrel
    by_cases hlt : k < bs.length
    · obtain ⟨b, o, hA, _, hc⟩ := hb.at_ hlt
      have hs : upd (~~~ c) (bs.take (k + 1)) = byteStep (upd (~~~ c) (bs.take k)) bs[k] := by rw [List.take_succ_eq_append_getElem hlt, upd_snoc]
      have HS := Lib.hid hs
      clear hs hb
      subst hA
      go_wp2_with (go_at_call 25; refine (through_any _ _ _ ht).mono ?_; rintro e w' ⟨rfl, rfl⟩)
      go_round
      case rel => exact ⟨k + 1, by omega, by go_num, by rw [HS.out]⟩
      case measure => simp [intOf]; omega
    · go_wp2
      go_ret
      refine ⟨congrArg (fun x => Ending.returned (.int .u32 (U x))) ?_, rfl⟩
      unfold update; rw [List.take_of_length_le (by omega)]

theorem sum_any (w : World) (B : Nat) (A : Option Addr) (cap : Nat) (bs : List UInt8) (ht : Tab w) (hb : Bytes w B A bs) (hn : bs.length ≤ 9223372036854775807) :
    Calls Tryd.prog 10 #[.slice A bs.length cap] w fun e w' => e = .returned (.int .u32 (U (update 0#32 bs))) ∧ w = w' := by
  go_enter Tryd.func10, Tryd.ntmps10
  go_wp2_with (go_at_call 12; refine (update_any _ B 0#32 _ _ _ ht hb hn).mono ?_; rintro e w' ⟨rfl, rfl⟩)
  go_ret
  exact ⟨rfl, rfl⟩

/-! ### The reference -/
@[local go_sem] theorem xor_bitW (r : BitVec 32) (b : UInt8) (k : Nat) : bits .xor .u32 (U r) (U (bitW b k)) = U (r ^^^ bitW b k) := bits_xor_u32 _ _
theorem step_core (r x : BitVec 32) (hx : x = 0#32 ∨ x = 1#32) : ((r &&& 1#32) ^^^ x = 1#32 → (r >>> 1) ^^^ 3988292384#32 = sh (r ^^^ x)) ∧ (¬ (r &&& 1#32) ^^^ x = 1#32 → r >>> 1 = sh (r ^^^ x)) := by
  have hb : r &&& 1#32 = if r.getLsbD 0 then 1#32 else 0#32 := by
    ext i hi
    have : (1#32).getLsbD i = decide (i = 0) := by
      have : ∀ i, i < 32 → (1#32).getLsbD i = decide (i = 0) := by decide
      exact this i hi
    rw [← BitVec.getLsbD_eq_getElem, ← BitVec.getLsbD_eq_getElem, BitVec.getLsbD_and, this]
    by_cases h0 : i = 0
    · subst h0; cases r.getLsbD 0 <;> simp
    · cases r.getLsbD 0
      · simp [h0]
      · simp only [if_true]; rw [this]; simp [h0]
  have hs : (r ^^^ x) >>> 1 = r >>> 1 := by
    rw [BitVec.ushiftRight_xor_distrib]
    rcases hx with rfl | rfl
    · simp
    · rw [show (1#32 : BitVec 32) >>> 1 = 0#32 from by decide]; simp
  unfold sh
  rw [hs, BitVec.getLsbD_xor, hb]
  rcases hx with rfl | rfl <;> cases r.getLsbD 0 <;> simp [poly]
theorem refstep_any (w : World) (r x : BitVec 32) (hx : x = 0#32 ∨ x = 1#32) :
    Calls Tryd.prog 26 #[.int .u32 (U r), .int .u8 (U x)] w fun e w' => e = .returned (.int .u32 (U (sh (r ^^^ x)))) ∧ w = w' := by
  have hc := step_core r x hx
  have hw : (IntKind.u32.wrap (U x)) = U x := by unfold U; exact wrap_u32_nat _ x.isLt
  have hm : U x % 4294967296 = U x := by have := U_lt x; omega
  have hq := U_one ((r &&& 1#32) ^^^ x)
  have HC := Lib.hid hc
  clear hc hx
  by_cases ho : (r &&& 1#32) ^^^ x = 1#32
  · have hd := (U_one ((r &&& 1#32) ^^^ x)).1 ho
    have HS := Lib.hid (HC.out.1 ho)
    clear hq ho
    go_enter Tryd.func26, Tryd.ntmps26
    go_wp2
    go_ret
    refine ⟨congrArg (fun x => Ending.returned (.int .u32 x)) ?_, rfl⟩
    rw [← HS.out]
    exact bits_xor_u32_lit _ _ (by decide)
  · have hd := (U_not_one ((r &&& 1#32) ^^^ x)).1 ho
    have HS := Lib.hid (HC.out.2 ho)
    clear hq ho
    go_enter Tryd.func26, Tryd.ntmps26
    go_wp2
    go_ret
    refine ⟨congrArg (fun x => Ending.returned (.int .u32 (U x))) ?_, rfl⟩
    exact HS.out
end Go.Proofs.YtjgjfeicenkceaaDoor
