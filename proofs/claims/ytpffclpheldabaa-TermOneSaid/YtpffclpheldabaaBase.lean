/- Words of our own for walks: a slice that reads as a list of cells; 32-bit registers in the walk's numbers. -/
import Derived.WalkKit
import Derived.BigQuiet
import Derived.Deep.QuietTactic
import Derived.WalkSpells
import Derived.WalkLawsBesides
import Derived.Lib.Hide
import Derived.Laws.CopyOwn
import Derived.Laws.BitsAllLaws
import Derived.Deep.Draws
namespace Go.Our
open Go.RowKit

/-! ### Worlds -/
theorem below_drewN {B : Nat} {a w : World} (h : Below B a w) (n : Nat) : Below B a (w.drewN n) := ⟨h.os, h.tape, h.output, h.size, h.block⟩
theorem below_of_drewN {B : Nat} (w : World) (n : Nat) : Below B w (w.drewN n) := below_drewN (Below.refl _ _) n
theorem below_trans {a b c : World} (h : Below a.heap.size a b) (k : Below b.heap.size b c) : Below a.heap.size a c := h.trans (k.mono h.size)
theorem drewN_drewN (w : World) (m n : Nat) : (w.drewN m).drewN n = w.drewN (m + n) := World.drewN_drewN w m n

theorem cell_on {w w' : World} {p : Addr} {v : Value} (hb : Below w.heap.size w w') (h : w.cell? p = some v) : w'.cell? p = some v :=
  (hb.cell (World.block_lt_of_cell? w p h)).trans h
/-- A block that is known whole, none of it frozen. -/
def Blk (w : World) (g : Nat) (t : TypeId) (cs : Array Value) : Prop := w.heap[g]? = some (.cells cs t (0, 0))
section
variable {w w' : World} {g : Nat} {t : TypeId} {cs : Array Value}
theorem Blk.lt (h : Blk w g t cs) : g < w.heap.size := by
  rcases Nat.lt_or_ge g w.heap.size with hlt | hge
  · exact hlt
  · unfold Blk at h; rw [Array.getElem?_eq_none hge] at h; cases h
theorem Blk.cell (h : Blk w g t cs) (i : Nat) : w.cell? ⟨g, i, none⟩ = cs[i]? := by unfold Blk at h; simp [World.cell?, h]
theorem Blk.free (h : Blk w g t cs) (i : Nat) : w.frozen? ⟨g, i, none⟩ = false := by unfold Blk at h; simp [World.frozen?, h]
theorem Blk.new (w : World) (t : TypeId) (cs : Array Value) : Blk (w.alloc (.cells cs t)) w.heap.size t cs := heap_alloc_new w _
theorem Blk.new' {w : World} {g : Nat} {t : TypeId} {cs : Array Value} (h : g = w.heap.size) : Blk (w.alloc (.cells cs t)) g t cs := by subst h; exact Blk.new w t cs
theorem Blk.set_ (h : Blk w g t cs) (i : Nat) (u : Value) : Blk (w.setCell ⟨g, i, none⟩ u) g t (cs.setIfInBounds i u) := by
  unfold Blk at h ⊢; simp [World.setCell, Array.getElem?_modify, h]
theorem Blk.below {B : Nat} (h : Blk w g t cs) (hb : Below B w w') (hg : g < B) : Blk w' g t cs := (hb.block g hg).trans h
theorem Blk.on (h : Blk w g t cs) (hb : Below w.heap.size w w') : Blk w' g t cs := h.below hb h.lt
theorem Blk.far (h : Blk w g t cs) {p : Addr} (hp : g ≠ p.block) (u : Value) : Blk (w.setCell p u) g t cs := (Below.heap_setCell w p u g hp).trans h
theorem Blk.alloc (h : Blk w g t cs) (o : Obj) : Blk (w.alloc o) g t cs := (Below.heap_alloc w o g h.lt).trans h
end

/-! ### A slice's cells -/
/-- From address A on the cells 'xs' lie (a row below block B), or there is none. -/
def Arr (w : World) (B : Nat) (A : Option Addr) (xs : List Value) : Prop :=
  xs = [] ∨ ∃ b o, A = some ⟨b, o, none⟩ ∧ b < B ∧ ∀ j u, xs[j]? = some u → w.cell? ⟨b, o + j, none⟩ = some u

section
variable {w w' : World} {B B' : Nat} {A : Option Addr} {xs ys : List Value}
theorem Arr.nil : Arr w B A [] := .inl rfl
theorem Arr.keep (h : Arr w B A xs) (hk : ∀ p : Addr, p.block < B → w'.cell? p = w.cell? p) : Arr w' B A xs := by
  rcases h with h | ⟨b, o, hA, hb, hc⟩
  · exact .inl h
  · exact .inr ⟨b, o, hA, hb, fun j u hu => (hk _ hb).trans (hc j u hu)⟩
theorem Arr.more (h : Arr w B A xs) (hB : B ≤ B') : Arr w B' A xs := by
  rcases h with h | ⟨b, o, hA, hb, hc⟩
  · exact .inl h
  · exact .inr ⟨b, o, hA, by omega, hc⟩
theorem Arr.below (h : Arr w B A xs) (hb : Below B w w') : Arr w' B A xs := h.keep fun _ hp => hb.cell hp
theorem Arr.on (h : Arr w w.heap.size A xs) (hb : Below w.heap.size w w') : Arr w' w'.heap.size A xs := (h.below hb).more hb.size
theorem Arr.drewN (h : Arr w B A xs) (n : Nat) : Arr (w.drewN n) B A xs := h
theorem Arr.prefix_ (h : Arr w B A (xs ++ ys)) : Arr w B A xs := by
  rcases h with h | ⟨b, o, hA, hb, hc⟩
  · exact .inl (List.append_eq_nil_iff.1 h).1
  · refine .inr ⟨b, o, hA, hb, fun j u hu => hc j u ?_⟩
    rw [List.getElem?_append_left]
    · exact hu
    · exact (List.getElem?_eq_some_iff.1 hu).1
theorem Arr.take (h : Arr w B A xs) (n : Nat) : Arr w B A (xs.take n) := by
  rw [← List.take_append_drop n xs] at h; exact h.prefix_
theorem Arr.at_ (h : Arr w B A xs) {k : Nat} (hk : k < xs.length) : ∃ b o, A = some ⟨b, o, none⟩ ∧ b < B ∧ w.cell? ⟨b, o + k, none⟩ = some xs[k] := by
  rcases h with h | ⟨b, o, hA, hb, hc⟩
  · subst h; simp at hk
  · exact ⟨b, o, hA, hb, hc k _ (List.getElem?_eq_getElem hk)⟩
theorem Arr.of_own {base : Nat} {e : TypeId} {size n c : Nat} (h : w.ownsRow base e size (.slice A n c) n xs) : Arr w w.heap.size A xs := by
  obtain ⟨hl, h⟩ := h
  rcases h with ⟨h, hn⟩ | ⟨g, cap, cur, hv, _, hg, _, _, _, hx⟩
  · subst hn; left; simpa using hl
  · right
    have hA : A = some ⟨g, 0, none⟩ := by injection hv
    refine ⟨g, 0, hA, ?_, fun j u hu => ?_⟩
    · rcases Nat.lt_or_ge g w.heap.size with h | h
      · exact h
      · rw [Array.getElem?_eq_none h] at hg; cases hg
    · have : w.cell? ⟨g, 0 + j, none⟩ = cur[j]? := by simp [World.cell?, hg]
      rw [this, ← Array.getElem?_toList]
      rw [← hx] at hu
      rw [List.getElem?_take] at hu
      split at hu
      · exact hu
      · cases hu
end

/-! ### Bytes -/
abbrev byteV (b : UInt8) : Value := .int .u8 (b.toNat : Int)
def Bytes (w : World) (B : Nat) (A : Option Addr) (bs : List UInt8) : Prop := Arr w B A (bs.map byteV)
section
variable {w w' : World} {B B' : Nat} {A : Option Addr} {bs : List UInt8}
theorem Bytes.at_ (h : Bytes w B A bs) {k : Nat} (hk : k < bs.length) : ∃ b o, A = some ⟨b, o, none⟩ ∧ b < B ∧ w.cell? ⟨b, o + k, none⟩ = some (.int .u8 (bs[k].toNat : Int)) := by
  obtain ⟨b, o, hA, hb, hc⟩ := Arr.at_ h (k := k) (by simpa using hk)
  exact ⟨b, o, hA, hb, by simpa using hc⟩
theorem Bytes.arr (h : Bytes w B A bs) : Arr w B A (bs.map byteV) := h
theorem Bytes.below (h : Bytes w B A bs) (hb : Below B w w') : Bytes w' B A bs := Arr.below h hb
theorem Bytes.on (h : Bytes w w.heap.size A bs) (hb : Below w.heap.size w w') : Bytes w' w'.heap.size A bs := Arr.on h hb
theorem Bytes.more (h : Bytes w B A bs) (hB : B ≤ B') : Bytes w B' A bs := Arr.more h hB
theorem Bytes.take (h : Bytes w B A bs) (n : Nat) : Bytes w B A (bs.take n) := by
  unfold Bytes at *; rw [List.map_take]; exact Arr.take h n
end
theorem byteV_one (bs : List UInt8) : ∀ u ∈ bs.map byteV, u.oneCell' = true := by
  intro u hu; obtain ⟨b, _, rfl⟩ := List.mem_map.1 hu; rfl

theorem byte_lt (b : UInt8) : (b.toNat : Int) < 256 := by have := b.toBitVec.isLt; have h : b.toNat < 256 := this; omega
@[go_sem] theorem byte_mod32 (b : UInt8) : (b.toNat : Int) % 4294967296 = (b.toNat : Int) := by have := byte_lt b; omega
@[go_sem] theorem byte_mod8 (b : UInt8) : (b.toNat : Int) % 256 = (b.toNat : Int) := by have := byte_lt b; omega

/-! ### Registers of 32 bits -/
section
/-- A register as the walk's number (behind a name of its own: simp would write 'toNat' of a sum of bits otherwise). -/
def U (a : BitVec 32) : Int := (a.toNat : Int)
theorem U_inj {a b : BitVec 32} (h : U a = U b) : a = b := by unfold U at h; exact BitVec.eq_of_toNat_eq (by omega)
theorem U_lt (a : BitVec 32) : 0 ≤ U a ∧ U a < 4294967296 := by unfold U; have := a.isLt; omega
theorem U_one (a : BitVec 32) : a = 1#32 ↔ (U a == 1) = true := by
  rw [beq_iff_eq]
  constructor
  · rintro rfl; rfl
  · intro h; exact U_inj (h.trans (by rfl))
theorem U_not_one (a : BitVec 32) : ¬ a = 1#32 ↔ (U a == 1) = false := by
  rw [U_one]; simp
theorem wrap_u32_nat (a : Nat) (h : a < 4294967296) : IntKind.u32.wrap (a : Int) = (a : Int) := by rw [IntKind.wrap_u32']; omega
theorem toNat32 (a : BitVec 32) : BitVec.ofInt 32 (a.toNat : Int) = a := by
  rw [BitVec.ofInt_natCast]; simp
@[go_sem] theorem bits_xor_u32 (a b : BitVec 32) : bits .xor .u32 (U a) (U b) = U (a ^^^ b) := by
  show IntKind.u32.wrap ((BitVec.ofInt 32 (a.toNat : Int) ^^^ BitVec.ofInt 32 (b.toNat : Int)).toNat : Int) = _
  rw [toNat32, toNat32]; exact wrap_u32_nat _ (a ^^^ b).isLt
@[go_sem] theorem bits_and_u32 (a b : BitVec 32) : bits .and .u32 (U a) (U b) = U (a &&& b) := by
  show IntKind.u32.wrap ((BitVec.ofInt 32 (a.toNat : Int) &&& BitVec.ofInt 32 (b.toNat : Int)).toNat : Int) = _
  rw [toNat32, toNat32]; exact wrap_u32_nat _ (a &&& b).isLt
@[go_sem] theorem bits_or_u32 (a b : BitVec 32) : bits .or .u32 (U a) (U b) = U (a ||| b) := by
  show IntKind.u32.wrap ((BitVec.ofInt 32 (a.toNat : Int) ||| BitVec.ofInt 32 (b.toNat : Int)).toNat : Int) = _
  rw [toNat32, toNat32]; exact wrap_u32_nat _ (a ||| b).isLt
theorem U_lit (n : Nat) (h : n < 4294967296) : (OfNat.ofNat n : Int) = U (BitVec.ofNat 32 n) := by
  unfold U; rw [BitVec.toNat_ofNat, Nat.mod_eq_of_lt h]; rfl
theorem bits_and_u32_lit (a : BitVec 32) (n : Nat) (h : n < 4294967296) : bits .and .u32 (U a) (OfNat.ofNat n) = U (a &&& BitVec.ofNat 32 n) := by
  rw [U_lit n h, bits_and_u32]
@[go_sem] theorem bits_and_u32_1 (a : BitVec 32) : bits .and .u32 (U a) 1 = U (a &&& 1#32) := bits_and_u32_lit a 1 (by decide)
@[go_sem] theorem bits_and_u32_15 (a : BitVec 32) : bits .and .u32 (U a) 15 = U (a &&& 15#32) := bits_and_u32_lit a 15 (by decide)
theorem bits_xor_u32_lit (a : BitVec 32) (n : Nat) (h : n < 4294967296) : bits .xor .u32 (U a) (OfNat.ofNat n) = U (a ^^^ BitVec.ofNat 32 n) := by
  rw [U_lit n h, bits_xor_u32]
@[go_sem] theorem bits_xor_u32_all (a : BitVec 32) : bits .xor .u32 4294967295 (U a) = U (~~~ a) := by
  have h : (4294967295 : Int) = U (BitVec.allOnes 32) := by decide
  rw [h, bits_xor_u32, BitVec.xor_comm, BitVec.xor_allOnes]
@[go_sem] theorem bits_xor_u32_max (a : BitVec 32) : bits .xor .u32 IntKind.u32.max (U a) = U (~~~ a) := bits_xor_u32_all a
theorem U_div (a : BitVec 32) (n : Nat) : U a / 2 ^ n = U (a >>> n) := by
  unfold U; simp only [BitVec.toNat_ushiftRight, Nat.shiftRight_eq_div_pow]; norm_cast
@[go_sem ↓] theorem shr_u32_nat (a : BitVec 32) (yk : IntKind) (k : Nat) : Op.shift .shr .u32 (U a) yk (k : Int) = pure (.int .u32 (U (a >>> k))) := by
  have h : (U a).fdiv (2 ^ min k 32) = U (a >>> k) := by
    rw [show (2 : Int) ^ min k 32 = ((2 ^ min k 32 : Nat) : Int) by norm_cast, Int.fdiv_eq_ediv_of_nonneg _ (Int.natCast_nonneg _)]
    unfold U
    rw [BitVec.toNat_ushiftRight, Nat.shiftRight_eq_div_pow]
    by_cases hk : k ≤ 32
    · rw [Nat.min_eq_left hk]; norm_cast
    · rw [Nat.min_eq_right (by omega)]
      have h1 : a.toNat / 2 ^ 32 = 0 := Nat.div_eq_of_lt a.isLt
      have h2 : a.toNat / 2 ^ k = 0 := Nat.div_eq_of_lt (Nat.lt_of_lt_of_le a.isLt (Nat.pow_le_pow_right (by decide) (by omega)))
      rw [h2]; norm_cast
  have hn : ¬ ((k : Int) < 0) := by omega
  simp only [Op.shift, hn, if_false, Int.toNat_natCast]
  rw [show IntKind.u32.bits = 32 from rfl, h]
@[go_sem ↓] theorem shl_one_u32 (yk : IntKind) (k : Nat) : Op.shift .shl .u32 1 yk (k : Int) = pure (.int .u32 (U (BitVec.twoPow 32 k))) := by
  have h : IntKind.u32.wrap (1 * 2 ^ min k 32) = U (BitVec.twoPow 32 k) := by
    rw [Int.one_mul, show (2 : Int) ^ min k 32 = ((2 ^ min k 32 : Nat) : Int) by norm_cast, IntKind.wrap_u32']
    unfold U
    rw [BitVec.toNat_twoPow]
    by_cases hk : k ≤ 32
    · rw [Nat.min_eq_left hk, Int.natCast_emod]; rfl
    · rw [Nat.min_eq_right (by omega)]
      have h2 : 2 ^ k % 2 ^ 32 = 0 := Nat.mod_eq_zero_of_dvd (Nat.pow_dvd_pow 2 (by omega))
      rw [h2]; decide
  have hn : ¬ ((k : Int) < 0) := by omega
  simp only [Op.shift, hn, if_false, Int.toNat_natCast]
  rw [show IntKind.u32.bits = 32 from rfl, h]
theorem bit_one (a : BitVec 32) (k : Nat) : (U ((a >>> k) &&& 1#32) == 1) = a.getLsbD k := by
  have h1 : ((a >>> k) &&& 1#32).toNat = a.toNat / 2 ^ k % 2 := by
    rw [BitVec.toNat_and, BitVec.toNat_ushiftRight, Nat.shiftRight_eq_div_pow]; exact Nat.and_two_pow_sub_one_eq_mod _ 1
  have h2 : a.getLsbD k = decide (a.toNat / 2 ^ k % 2 = 1) := by rw [BitVec.getLsbD, Nat.testBit_eq_decide_div_mod_eq]
  unfold U
  rw [h1, h2]
  have : a.toNat / 2 ^ k % 2 = 0 ∨ a.toNat / 2 ^ k % 2 = 1 := by omega
  rcases this with h | h <;> rw [h] <;> decide
theorem and_one_i64 (n : Nat) (h : n < 9223372036854775808) : bits .and .i64 (n : Int) 1 = ((n % 2 : Nat) : Int) := by
  have e : (BitVec.ofInt 64 (n : Int) &&& BitVec.ofInt 64 1).toNat = n % 2 := by
    rw [BitVec.toNat_and, BitVec.ofInt_natCast, BitVec.toNat_ofNat, Nat.mod_eq_of_lt (by omega)]
    exact Nat.and_two_pow_sub_one_eq_mod _ 1
  show IntKind.i64.wrap ((BitVec.ofInt 64 (n : Int) &&& BitVec.ofInt 64 1).toNat : Int) = _
  rw [e, IntKind.wrap_i64]
  omega
theorem shift_shr_u32_bv (a : BitVec 32) (yk : IntKind) (n : Nat) (h : n ≤ 32) : Op.shift .shr .u32 (U a) yk (OfNat.ofNat n) = pure (.int .u32 (U (a >>> n))) := by
  rw [shift_shr .u32 yk _ _ (by simp) (by show ((n : Nat) : Int) ≤ 32; omega), ← U_div]
  rfl
@[go_sem ↓] theorem shr_u32_1 (a : BitVec 32) (yk : IntKind) : Op.shift .shr .u32 (U a) yk 1 = pure (.int .u32 (U (a >>> 1))) := shift_shr_u32_bv a yk 1 (by decide)
@[go_sem ↓] theorem shr_u32_4 (a : BitVec 32) (yk : IntKind) : Op.shift .shr .u32 (U a) yk 4 = pure (.int .u32 (U (a >>> 4))) := shift_shr_u32_bv a yk 4 (by decide)
end
end Go.Our
