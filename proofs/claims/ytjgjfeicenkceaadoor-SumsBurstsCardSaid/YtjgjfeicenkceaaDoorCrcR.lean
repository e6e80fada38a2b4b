/- Walks of the CRC reference and of the law's helpers. -/
import Derived.Test.YtjgjfeicenkceaaDoorCrcW
set_option linter.unusedVariables false
namespace Go.Proofs.YtjgjfeicenkceaaDoor
open Go.RowKit Go.Our Go.Crc

/-- A bit of a byte, as the reference's text reckons it. -/
theorem bit_of (b : UInt8) (k : Nat) (hk : k < 8) : bits .and .u8 ((b.toNat : Int) / 2 ^ k) 1 = U (bitW b k) := by
  have h : (b.toNat : Int) / 2 ^ k = ((b.toNat / 2 ^ k : Nat) : Int) := by norm_cast
  have hb : b.toNat < 256 := b.toBitVec.isLt
  have hle : b.toNat / 2 ^ k ≤ b.toNat := Nat.div_le_self _ _
  rw [h, show (1 : Int) = ((1 : Nat) : Int) from rfl, u8_and_nat _ _ (by omega) (by decide), nat_mask1]
  unfold bitW U
  have ht : b.toBitVec.getLsbD k = decide (b.toNat / 2 ^ k % 2 = 1) := by
    rw [BitVec.getLsbD, Nat.testBit_eq_decide_div_mod_eq]; rfl
  rw [ht]
  have : b.toNat / 2 ^ k % 2 = 0 ∨ b.toNat / 2 ^ k % 2 = 1 := by omega
  rcases this with h | h <;> rw [h] <;> decide
theorem bitW_or (b : UInt8) (k : Nat) : bitW b k = 0#32 ∨ bitW b k = 1#32 := by unfold bitW; split <;> simp

theorem refupdate_any (w : World) (B : Nat) (c : BitVec 32) (A : Option Addr) (cap : Nat) (bs : List UInt8) (hb : Bytes w B A bs) (hn : bs.length ≤ 9223372036854775807) :
    Calls Tryd.prog 13 #[.int .u32 (U c), .slice A bs.length cap] w fun e w' => e = .returned (.int .u32 (U (update c bs))) ∧ w = w' := by
  go_enter Tryd.func13, Tryd.ntmps13
  go_wp2
  go_loop [5, 6, 7] (fun r i _ => ∃ k : Nat, k ≤ bs.length ∧ i = .int .i64 k ∧ r = .int .u32 (U (upd (~~~ c) (bs.take k)))) (fun _ i _ => bs.length - (intOf i).toNat)
  case atStart => exact ⟨0, Nat.zero_le _, rfl, rfl⟩
  case round =>
    obtain ⟨k, hk, rfl, rfl⟩ := hrel
    by_cases hlt : k < bs.length
    · obtain ⟨b, o, hA, _, hc⟩ := hb.at_ hlt
      have hs : upd (~~~ c) (bs.take (k + 1)) = byteStep (upd (~~~ c) (bs.take k)) bs[k] := by rw [List.take_succ_eq_append_getElem hlt, upd_snoc]
      have HS := Lib.hid hs
      clear hs hb
      subst hA
      obtain ⟨x, hx⟩ : ∃ x, x = bs[k] := ⟨_, rfl⟩
      rw [← hx] at hc
      have HX := Lib.hid hx
      obtain ⟨r0, hr0⟩ : ∃ r0, r0 = upd (~~~ c) (bs.take k) := ⟨_, rfl⟩
      rw [← hr0]
      have HR := Lib.hid hr0
      clear hx hr0
      go_wp2
      go_loop [5, 7] (fun r j => ∃ m : Nat, m ≤ 8 ∧ j = .int .i64 m ∧ r = .int .u32 (U (refK r0 x m))) (fun _ j => 8 - (intOf j).toNat)
      case atStart => exact ⟨0, Nat.zero_le _, rfl, rfl⟩
      case round =>
        obtain ⟨m, hm, rfl, rfl⟩ := hrel
        by_cases hm8 : m < 8
        · have hbit := bit_of x m hm8
          go_wp2_with (go_at_call 26; refine (refstep_any _ _ _ (bitW_or x m)).mono ?_; rintro e w' ⟨rfl, rfl⟩)
          go_round
          case rel => exact ⟨m + 1, by omega, by go_num, rfl⟩
          case measure => simp [intOf]; omega
        · obtain rfl : m = 8 := by omega
          go_wp2
          go_round
          case rel => exact ⟨k + 1, by omega, by go_num, by rw [HS.out, refK_byte, HR.out, HX.out]⟩
          case measure => simp [intOf]; omega
    · go_wp2
      go_ret
      refine ⟨congrArg (fun x => Ending.returned (.int .u32 (U x))) ?_, rfl⟩
      unfold update; rw [List.take_of_length_le (by omega)]

theorem refsum_any (w : World) (B : Nat) (A : Option Addr) (cap : Nat) (bs : List UInt8) (hb : Bytes w B A bs) (hn : bs.length ≤ 9223372036854775807) :
    Calls Tryd.prog 11 #[.slice A bs.length cap] w fun e w' => e = .returned (.int .u32 (U (update 0#32 bs))) ∧ w = w' := by
  go_enter Tryd.func11, Tryd.ntmps11
  go_wp2_with (go_at_call 13; refine (refupdate_any _ B 0#32 _ _ _ hb hn).mono ?_; rintro e w' ⟨rfl, rfl⟩)
  go_ret
  exact ⟨rfl, rfl⟩
end Go.Proofs.YtjgjfeicenkceaaDoor
