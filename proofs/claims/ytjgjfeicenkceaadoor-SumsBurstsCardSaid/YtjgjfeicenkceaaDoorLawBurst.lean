/- The walk of SumsBursts. -/
import Derived.Test.YtjgjfeicenkceaaDoorLawJC
set_option linter.unusedVariables false
namespace Go.Proofs.YtjgjfeicenkceaaDoor
open Go.RowKit Go.Our Go.Crc

theorem place_of (at_ : Int) (n : Nat) (h4 : 4 ≤ n) (hn : n ≤ 140737488351232) :
    ∃ K : Nat, wrap64 ((IntKind.u64.wrap at_).tmod (8 * (n : Int) - 31)) = (K : Int) ∧ K + 32 ≤ 8 * n := by
  have h0 : 0 ≤ IntKind.u64.wrap at_ := by rw [IntKind.wrap_u64]; omega
  rw [Int.tmod_eq_emod_of_nonneg h0]
  have h1 := Int.emod_nonneg (IntKind.u64.wrap at_) (b := 8 * (n : Int) - 31) (by omega)
  have h2 := Int.emod_lt_of_pos (IntKind.u64.wrap at_) (b := 8 * (n : Int) - 31) (by omega)
  generalize (IntKind.u64.wrap at_) % (8 * (n : Int) - 31) = v at *
  refine ⟨v.toNat, ?_, by omega⟩
  rw [IntWalk.wrap64_in v ⟨by omega, by omega⟩]; omega

/-- One bit of a row of bytes turned. -/
def flipAt (l : List UInt8) (p : Nat) (b : Bool) : List UInt8 := l.set (p / 8) (l.getD (p / 8) 0 ^^^ (if b then ⟨BitVec.twoPow 8 (p % 8)⟩ else 0))
def flipN (l : List UInt8) (k : Nat) (x : BitVec 32) : Nat → List UInt8
  | 0 => l
  | j + 1 => flipAt (flipN l k x j) (k + j) (x.getLsbD j)
theorem flipN_length (l : List UInt8) (k : Nat) (x : BitVec 32) (j : Nat) : (flipN l k x j).length = l.length := by
  induction j with
  | zero => rfl
  | succ j ih => simp [flipN, flipAt, ih]

theorem flip_num (c : UInt8) (x : BitVec 32) (j p : Nat) : bits .xor .u8 (c.toNat : Int) (U (x >>> j &&& 1#32) % 256 * 2 ^ (p % 8) % 256) = ((c ^^^ (if x.getLsbD j then ⟨BitVec.twoPow 8 (p % 8)⟩ else 0)).toNat : Int) := by
  have hb := bit_one x j
  have hc : c.toNat < 256 := c.toBitVec.isLt
  have hp : 2 ^ (p % 8) < 256 := by
    have : 2 ^ (p % 8) ≤ 2 ^ 7 := Nat.pow_le_pow_right (by decide) (by omega)
    omega
  have h01 : U (x >>> j &&& 1#32) = 0 ∨ U (x >>> j &&& 1#32) = 1 := by
    have : ((x >>> j) &&& 1#32).toNat < 2 := by rw [BitVec.toNat_and]; exact Nat.and_lt_two_pow (n := 1) _ (by decide)
    unfold U; omega
  cases hx : x.getLsbD j
  · rw [hx] at hb
    rcases h01 with h | h
    · rw [h]
      have := u8_xor_nat c.toNat 0 hc (by decide)
      simpa using this
    · rw [h] at hb; simp at hb
  · rw [hx] at hb
    rcases h01 with h | h
    · rw [h] at hb; simp at hb
    · rw [h]
      have e : (1 % 256 * 2 ^ (p % 8) % 256 : Int) = ((2 ^ (p % 8) : Nat) : Int) := by
        have : ((2 : Int) ^ (p % 8)) = ((2 ^ (p % 8) : Nat) : Int) := by norm_cast
        rw [this, show (1 : Int) % 256 = 1 from rfl, Int.one_mul]
        generalize 2 ^ (p % 8) = q at hp
        omega
      rw [e, u8_xor_nat _ _ hc hp]
      simp only [if_true, UInt8.toNat_xor]
      congr 2
      show _ = (BitVec.twoPow 8 (p % 8)).toNat
      rw [BitVec.toNat_twoPow, Nat.mod_eq_of_lt hp]
/-- A bit of a row of bytes. -/
def bitAt (l : List UInt8) (t : Nat) : Bool := (l.getD (t / 8) 0).toBitVec.getLsbD (t % 8)
theorem bitsOf_length (l : List UInt8) : (bitsOf l).length = 8 * l.length := by
  unfold bitsOf
  induction l with
  | nil => rfl
  | cons a l ih => rw [List.flatMap_cons, List.length_append, ih]; simp [bits8]; omega
theorem bitsOf_at (l : List UInt8) : ∀ t, t < 8 * l.length → (bitsOf l)[t]? = some (bitAt l t) := by
  induction l with
  | nil => intro t ht; simp at ht
  | cons a l ih =>
    intro t ht
    have e : bitsOf (a :: l) = bits8 a ++ bitsOf l := rfl
    rw [e]
    by_cases h : t < 8
    · rw [List.getElem?_append_left (by simpa [bits8] using h)]
      have h1 : t / 8 = 0 := by omega
      have h2 : t % 8 = t := by omega
      simp [bits8, bitAt, h, h1, h2]
    · rw [List.getElem?_append_right (by simp [bits8]; omega)]
      have : (bits8 a).length = 8 := by simp [bits8]
      rw [this, ih (t - 8) (by simp at ht; omega)]
      have h1 : t / 8 = (t - 8) / 8 + 1 := by omega
      have h2 : t % 8 = (t - 8) % 8 := by omega
      simp [bitAt, h1, h2]
theorem bitAt_flip (l : List UInt8) (p t : Nat) (b : Bool) (hp : p / 8 < l.length) : bitAt (flipAt l p b) t = (bitAt l t ^^ (b && decide (t = p))) := by
  unfold bitAt flipAt
  by_cases h : t / 8 = p / 8
  · rw [h]
    simp only [List.getD_eq_getElem?_getD, List.getElem?_set_self hp, Option.getD_some]
    cases b
    · simp
    · simp only [if_true, Bool.true_and, UInt8.toBitVec_xor, BitVec.getLsbD_xor]
      congr 1
      rw [BitVec.getLsbD_twoPow]
      by_cases e : t = p
      · subst e; simp; omega
      · have : ¬ p % 8 = t % 8 := by omega
        simp [e, this]
  · have : ¬ t = p := by rintro rfl; exact h rfl
    simp only [List.getD_eq_getElem?_getD]
    rw [List.getElem?_set_ne (fun e => h e.symm)]
    simp [this]
theorem bitAt_flipN (l : List UInt8) (k : Nat) (x : BitVec 32) (j t : Nat) (hk : k + 32 ≤ 8 * l.length) (hj : j ≤ 32) :
    bitAt (flipN l k x j) t = (bitAt l t ^^ (decide (k ≤ t) && (decide (t < k + j) && x.getLsbD (t - k)))) := by
  induction j with
  | zero =>
    have : (decide (k ≤ t) && (decide (t < k + 0) && x.getLsbD (t - k))) = false := by
      by_cases h : k ≤ t
      · have : ¬ t < k + 0 := by omega
        simp; omega
      · simp [h]
    rw [this]; simp [flipN]
  | succ j ih =>
    simp only [flipN]
    rw [bitAt_flip _ _ _ _ (by rw [flipN_length]; omega), ih (by omega), Bool.xor_assoc]
    congr 1
    by_cases h : t = k + j
    · subst h
      have : k + j - k = j := by omega
      simp [this]
    · have h2 : decide (t < k + (j + 1)) = decide (t < k + j) := by simp; omega
      rw [h2]; simp [h]
theorem flipN_bits (l : List UInt8) (k : Nat) (x : BitVec 32) (hk : k + 32 ≤ 8 * l.length) : bitsOf (flipN l k x 32) = List.zipWith xor (bitsOf l) (burstBits (8 * l.length) k x) := by
  apply List.ext_getElem?
  intro t
  by_cases ht : t < 8 * l.length
  · rw [bitsOf_at _ t (by rw [flipN_length]; exact ht), bitAt_flipN l k x 32 t hk (by omega), List.getElem?_zipWith, bitsOf_at l t ht]
    simp [burstBits, ht]
  · rw [List.getElem?_eq_none (by rw [bitsOf_length, flipN_length]; omega), List.getElem?_eq_none (by simp [bitsOf_length, burstBits]; omega)]

set_option maxHeartbeats 1000000 in
theorem lawBursts_any (w : World) (A : Option Addr) (cap : Nat) (bs : List UInt8) (at_ : Int) (x : BitVec 32) (ht : Tab w) (hb : Bytes w w.heap.size A bs) (hn : bs.length ≤ 140737488351232)
    (ha : -9223372036854775808 ≤ at_) (ha' : at_ ≤ 9223372036854775807) (h4 : 4 ≤ bs.length) (hx : (U x == 0) = false) :
    Calls Tryd.prog 4 #[.slice A bs.length cap, .int .i64 at_, .int .u32 (U x)] w fun e w' => e = .returned (.bool true) ∧ Below w.heap.size w w' := by
  have hnx : bs.length ≤ 9223372036854775807 := by omega
  have hd4 : decide ((bs.length : Int) < 4) = false := by simp; omega
  obtain ⟨K, hK, hKl⟩ := place_of at_ bs.length h4 hn
  have HK := Lib.hid hK
  clear hK
  have kc := fun (w : World) (C : Array Value) (n c : Nat) => Lib.run_convert_bytes_const (P := Tryd.prog) w 22 5 C n c Tryd.underlying22 Tryd.underlying5
  go_enter Tryd.func4, Tryd.ntmps4
  go_wp2_with fail
  refine (nine_any _ (tab_on ht ((Below.refl _ _).alloc (Nat.le_refl _) _)) _ _ ?_).mono ?_
  · exact (Arr.newF w _ _ _).more (by simp)
  rintro e w1 ⟨rfl, hwe⟩
  have hb1 : Below w.heap.size w w1 := by rw [← hwe]; exact (Below.refl _ _).alloc (Nat.le_refl _) _
  have ht1 := tab_on ht hb1
  have hb1' := hb.on hb1
  clear hwe kc
  go_wp2_with fail
  refine (copied_any w1 A cap bs hb1' hn).mono ?_
  rintro e w2 ⟨g, rfl, hown, hb2⟩
  go_wp2_with fail
  rw [HK.out]
  have hb12 := below_trans hb1 hb2
  go_loopw [9] (fun i wr => ∃ j : Nat, j ≤ 32 ∧ i = .int .i64 j ∧ wr.ownsRow w.heap.size 5 1 (.slice (some ⟨g, 0, none⟩) bs.length bs.length) bs.length ((flipN bs K x j).map byteV) ∧ Below w.heap.size w wr) (fun i _ => 32 - (intOf i).toNat)
  case atStart => exact ⟨0, by omega, rfl, own_base hown hb1.size, hb12⟩
  case round =>
    obtain ⟨j, hj, rfl, hwn, hbel⟩ := hrel
    by_cases hlt : j < 32
    · have hq : (K + j) / 8 < bs.length := by omega
      obtain ⟨c, hcc⟩ : ∃ c, c = (flipN bs K x j).getD ((K + j) / 8) 0 := ⟨_, rfl⟩
      have hcell : wr.cell? ⟨g, (K + j) / 8, none⟩ = some (.int .u8 (c.toNat : Int)) := by
        rw [hwn.cellAt _ (by omega), hcc]
        rw [List.getElem?_map, List.getD_eq_getElem?_getD, List.getElem?_eq_getElem (by rw [flipN_length]; exact hq)]
        rfl
      have hfr : wr.frozen? ⟨g, (K + j) / 8, none⟩ = false := hwn.frozenAt _
      have HC := Lib.hid hcc
      clear hcc hown hb1' hb1 hb2 hb12 ht1 ht hb
      go_wp2_with fail
      go_region
      go_wp2
      go_roundw
      case rel =>
        refine ⟨j + 1, by omega, by go_num, ?_, (hbel.setCell (p := ⟨g, _, none⟩) (hwn.lt g rfl).1 _).drew⟩
        rw [flip_num]
        have := hwn.stored ((K + j) / 8) (.int .u8 ((c ^^^ (if x.getLsbD j then ⟨BitVec.twoPow 8 ((K + j) % 8)⟩ else 0)).toNat : Int))
        have e : (flipN bs K x (j + 1)).map byteV = ((flipN bs K x j).map byteV).set ((K + j) / 8) (.int .u8 ((c ^^^ (if x.getLsbD j then ⟨BitVec.twoPow 8 ((K + j) % 8)⟩ else 0)).toNat : Int)) := by
          rw [flipN, flipAt, List.map_set, ← HC.out]
        rw [e]
        exact World.ownsRow.drew this.1
      case measure => simp [intOf]; omega
    · obtain rfl : j = 32 := by omega
      have hfl : Bytes wr wr.heap.size (some ⟨g, 0, none⟩) (flipN bs K x 32) := Arr.of_own hwn
      have htr := tab_on ht hbel
      have hbr := hb.on hbel
      have hne : (U (update 0#32 (flipN bs K x 32)) != U (update 0#32 bs)) = true := by
        have := burst_ne bs (flipN bs K x 32) K x (by rintro rfl; simp [U] at hx) hKl (flipN_bits bs K x hKl)
        rw [bne_iff_ne]
        exact fun e => this (U_inj e)
      clear hwn
      go_wp2_with fail
      refine (sum_len wr _ _ _ _ (flipN bs K x 32) (flipN_length _ _ _ _) htr hfl hnx).mono ?_
      rintro e w' ⟨rfl, rfl⟩
      go_wp2_with fail
      refine (sum_any wr _ _ _ _ htr hbr hnx).mono ?_
      rintro e w' ⟨rfl, rfl⟩
      go_wp2_with fail
      go_ret
      exact ⟨rfl, hbel⟩

set_option maxHeartbeats 1000000 in
theorem lawBursts_short (w : World) (A : Option Addr) (cap : Nat) (bs : List UInt8) (at_ : Int) (x : BitVec 32) (ht : Tab w) (h4 : bs.length < 4) :
    Calls Tryd.prog 4 #[.slice A bs.length cap, .int .i64 at_, .int .u32 (U x)] w fun e w' => e = .returned (.bool true) ∧ Below w.heap.size w w' := by
  have kc := fun (w : World) (C : Array Value) (n c : Nat) => Lib.run_convert_bytes_const (P := Tryd.prog) w 22 5 C n c Tryd.underlying22 Tryd.underlying5
  have hd4 : decide ((bs.length : Int) < 4) = true := by simp; omega
  go_enter Tryd.func4, Tryd.ntmps4
  go_wp2_with fail
  refine (nine_any _ (tab_on ht ((Below.refl _ _).alloc (Nat.le_refl _) _)) _ _ ?_).mono ?_
  · exact (Arr.newF w _ _ _).more (by simp)
  rintro e w1 ⟨rfl, hwe⟩
  have hb1 : Below w.heap.size w w1 := by rw [← hwe]; exact (Below.refl _ _).alloc (Nat.le_refl _) _
  clear hwe kc
  go_wp2_with fail
  go_ret
  exact ⟨rfl, hb1⟩
set_option maxHeartbeats 1000000 in
theorem lawBursts_none (w : World) (A : Option Addr) (cap : Nat) (bs : List UInt8) (at_ : Int) (x : BitVec 32) (ht : Tab w) (h4 : 4 ≤ bs.length) (hn : bs.length ≤ 140737488351232) (hx : (U x == 0) = true) :
    Calls Tryd.prog 4 #[.slice A bs.length cap, .int .i64 at_, .int .u32 (U x)] w fun e w' => e = .returned (.bool true) ∧ Below w.heap.size w w' := by
  have kc := fun (w : World) (C : Array Value) (n c : Nat) => Lib.run_convert_bytes_const (P := Tryd.prog) w 22 5 C n c Tryd.underlying22 Tryd.underlying5
  have hd4 : decide ((bs.length : Int) < 4) = false := by simp; omega
  go_enter Tryd.func4, Tryd.ntmps4
  go_wp2_with fail
  refine (nine_any _ (tab_on ht ((Below.refl _ _).alloc (Nat.le_refl _) _)) _ _ ?_).mono ?_
  · exact (Arr.newF w _ _ _).more (by simp)
  rintro e w1 ⟨rfl, hwe⟩
  have hb1 : Below w.heap.size w w1 := by rw [← hwe]; exact (Below.refl _ _).alloc (Nat.le_refl _) _
  clear hwe kc
  go_wp2_with fail
  go_ret
  exact ⟨rfl, hb1⟩
theorem lawBursts_all (w : World) (A : Option Addr) (cap : Nat) (bs : List UInt8) (at_ : Int) (x : BitVec 32) (ht : Tab w) (hb : Bytes w w.heap.size A bs) (hn : bs.length ≤ 140737488351232)
    (ha : -9223372036854775808 ≤ at_) (ha' : at_ ≤ 9223372036854775807) :
    Calls Tryd.prog 4 #[.slice A bs.length cap, .int .i64 at_, .int .u32 (U x)] w fun e w' => e = .returned (.bool true) ∧ Below w.heap.size w w' := by
  by_cases h4 : bs.length < 4
  · exact lawBursts_short w A cap bs at_ x ht h4
  · cases hx : (U x == 0)
    · exact lawBursts_any w A cap bs at_ x ht hb hn ha ha' (by omega) hx
    · exact lawBursts_none w A cap bs at_ x ht (by omega) hn hx
end Go.Proofs.YtjgjfeicenkceaaDoor
