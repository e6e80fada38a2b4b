/- Words of our own for walks: a slice that reads as a list of cells; 32-bit registers in the walk's numbers. -/
import Derived.WalkKit
import Derived.BigQuiet
import Derived.Deep.QuietTactic
import Derived.WalkSpells
import Derived.WalkLawsBesides
import Derived.Lib.Hide
import Derived.Laws.CopyOwn
import Derived.Laws.BitsAllLaws
import Derived.Deep.Draws
namespace Go.Our
open Go.RowKit

/-! ### Worlds -/
theorem below_drewN {B : Nat} {a w : World} (h : Below B a w) (n : Nat) : Below B a (w.drewN n) := ⟨h.os, h.tape, h.output, h.size, h.block⟩
theorem below_of_drewN {B : Nat} (w : World) (n : Nat) : Below B w (w.drewN n) := below_drewN (Below.refl _ _) n
theorem below_trans {a b c : World} (h : Below a.heap.size a b) (k : Below b.heap.size b c) : Below a.heap.size a c := h.trans (k.mono h.size)
theorem drewN_drewN (w : World) (m n : Nat) : (w.drewN m).drewN n = w.drewN (m + n) := World.drewN_drewN w m n

/-! ### A slice's cells -/
/-- From address A on the cells 'xs' lie (a row below block B), or there is none. -/
def Arr (w : World) (B : Nat) (A : Option Addr) (xs : List Value) : Prop :=
  xs = [] ∨ ∃ b o, A = some ⟨b, o, none⟩ ∧ b < B ∧ ∀ j u, xs[j]? = some u → w.cell? ⟨b, o + j, none⟩ = some u

section
variable {w w' : World} {B B' : Nat} {A : Option Addr} {xs ys : List Value}
theorem Arr.nil : Arr w B A [] := .inl rfl
theorem Arr.keep (h : Arr w B A xs) (hk : ∀ p : Addr, p.block < B → w'.cell? p = w.cell? p) : Arr w' B A xs := by
  rcases h with h | ⟨b, o, hA, hb, hc⟩
  · exact .inl h
  · exact .inr ⟨b, o, hA, hb, fun j u hu => (hk _ hb).trans (hc j u hu)⟩
theorem Arr.more (h : Arr w B A xs) (hB : B ≤ B') : Arr w B' A xs := by
  rcases h with h | ⟨b, o, hA, hb, hc⟩
  · exact .inl h
  · exact .inr ⟨b, o, hA, by omega, hc⟩
theorem Arr.below (h : Arr w B A xs) (hb : Below B w w') : Arr w' B A xs := h.keep fun _ hp => hb.cell hp
theorem Arr.on (h : Arr w w.heap.size A xs) (hb : Below w.heap.size w w') : Arr w' w'.heap.size A xs := (h.below hb).more hb.size
theorem Arr.drewN (h : Arr w B A xs) (n : Nat) : Arr (w.drewN n) B A xs := h
theorem Arr.prefix_ (h : Arr w B A (xs ++ ys)) : Arr w B A xs := by
  rcases h with h | ⟨b, o, hA, hb, hc⟩
  · exact .inl (List.append_eq_nil_iff.1 h).1
  · refine .inr ⟨b, o, hA, hb, fun j u hu => hc j u ?_⟩
    rw [List.getElem?_append_left]
    · exact hu
    · exact (List.getElem?_eq_some_iff.1 hu).1
theorem Arr.take (h : Arr w B A xs) (n : Nat) : Arr w B A (xs.take n) := by
  rw [← List.take_append_drop n xs] at h; exact h.prefix_
theorem Arr.at_ (h : Arr w B A xs) {k : Nat} (hk : k < xs.length) : ∃ b o, A = some ⟨b, o, none⟩ ∧ b < B ∧ w.cell? ⟨b, o + k, none⟩ = some xs[k] := by
  rcases h with h | ⟨b, o, hA, hb, hc⟩
  · subst h; simp at hk
  · exact ⟨b, o, hA, hb, hc k _ (List.getElem?_eq_getElem hk)⟩
theorem Arr.of_own {base : Nat} {e : TypeId} {size n c : Nat} (h : w.ownsRow base e size (.slice A n c) n xs) : Arr w w.heap.size A xs := by
  obtain ⟨hl, h⟩ := h
  rcases h with ⟨h, hn⟩ | ⟨g, cap, cur, hv, _, hg, _, _, _, hx⟩
  · subst hn; left; simpa using hl
  · right
    have hA : A = some ⟨g, 0, none⟩ := by injection hv
    refine ⟨g, 0, hA, ?_, fun j u hu => ?_⟩
    · rcases Nat.lt_or_ge g w.heap.size with h | h
      · exact h
      · rw [Array.getElem?_eq_none h] at hg; cases hg
    · have : w.cell? ⟨g, 0 + j, none⟩ = cur[j]? := by simp [World.cell?, hg]
      rw [this, ← Array.getElem?_toList]
      rw [← hx] at hu
      rw [List.getElem?_take] at hu
      split at hu
      · exact hu
      · cases hu
end

/-! ### Bytes -/
abbrev byteV (b : UInt8) : Value := .int .u8 (b.toNat : Int)
def Bytes (w : World) (B : Nat) (A : Option Addr) (bs : List UInt8) : Prop := Arr w B A (bs.map byteV)
section
variable {w w' : World} {B B' : Nat} {A : Option Addr} {bs : List UInt8}
theorem Bytes.at_ (h : Bytes w B A bs) {k : Nat} (hk : k < bs.length) : ∃ b o, A = some ⟨b, o, none⟩ ∧ b < B ∧ w.cell? ⟨b, o + k, none⟩ = some (.int .u8 (bs[k].toNat : Int)) := by
  obtain ⟨b, o, hA, hb, hc⟩ := Arr.at_ h (k := k) (by simpa using hk)
  exact ⟨b, o, hA, hb, by simpa using hc⟩
theorem Bytes.arr (h : Bytes w B A bs) : Arr w B A (bs.map byteV) := h
theorem Bytes.below (h : Bytes w B A bs) (hb : Below B w w') : Bytes w' B A bs := Arr.below h hb
theorem Bytes.on (h : Bytes w w.heap.size A bs) (hb : Below w.heap.size w w') : Bytes w' w'.heap.size A bs := Arr.on h hb
theorem Bytes.more (h : Bytes w B A bs) (hB : B ≤ B') : Bytes w B' A bs := Arr.more h hB
theorem Bytes.take (h : Bytes w B A bs) (n : Nat) : Bytes w B A (bs.take n) := by
  unfold Bytes at *; rw [List.map_take]; exact Arr.take h n
end
theorem byteV_one (bs : List UInt8) : ∀ u ∈ bs.map byteV, u.oneCell' = true := by
  intro u hu; obtain ⟨b, _, rfl⟩ := List.mem_map.1 hu; rfl

theorem byte_lt (b : UInt8) : (b.toNat : Int) < 256 := by have := b.toBitVec.isLt; have h : b.toNat < 256 := this; omega
@[go_sem] theorem byte_mod32 (b : UInt8) : (b.toNat : Int) % 4294967296 = (b.toNat : Int) := by have := byte_lt b; omega
@[go_sem] theorem byte_mod8 (b : UInt8) : (b.toNat : Int) % 256 = (b.toNat : Int) := by have := byte_lt b; omega

/-! ### Registers of 32 bits -/
section
/-- A register as the walk's number (behind a name of its own: simp would write 'toNat' of a sum of bits otherwise). -/
def U (a : BitVec 32) : Int := (a.toNat : Int)
theorem U_inj {a b : BitVec 32} (h : U a = U b) : a = b := by unfold U at h; exact BitVec.eq_of_toNat_eq (by omega)
theorem U_lt (a : BitVec 32) : 0 ≤ U a ∧ U a < 4294967296 := by unfold U; have := a.isLt; omega
theorem U_one (a : BitVec 32) : a = 1#32 ↔ (U a == 1) = true := by
  rw [beq_iff_eq]
  constructor
  · rintro rfl; rfl
  · intro h; exact U_inj (h.trans (by rfl))
theorem U_not_one (a : BitVec 32) : ¬ a = 1#32 ↔ (U a == 1) = false := by
  rw [U_one]; simp
theorem wrap_u32_nat (a : Nat) (h : a < 4294967296) : IntKind.u32.wrap (a : Int) = (a : Int) := by rw [IntKind.wrap_u32']; omega
theorem toNat32 (a : BitVec 32) : BitVec.ofInt 32 (a.toNat : Int) = a := by
  rw [BitVec.ofInt_natCast]; simp
@[go_sem] theorem bits_xor_u32 (a b : BitVec 32) : bits .xor .u32 (U a) (U b) = U (a ^^^ b) := by
  show IntKind.u32.wrap ((BitVec.ofInt 32 (a.toNat : Int) ^^^ BitVec.ofInt 32 (b.toNat : Int)).toNat : Int) = _
  rw [toNat32, toNat32]; exact wrap_u32_nat _ (a ^^^ b).isLt
@[go_sem] theorem bits_and_u32 (a b : BitVec 32) : bits .and .u32 (U a) (U b) = U (a &&& b) := by
  show IntKind.u32.wrap ((BitVec.ofInt 32 (a.toNat : Int) &&& BitVec.ofInt 32 (b.toNat : Int)).toNat : Int) = _
  rw [toNat32, toNat32]; exact wrap_u32_nat _ (a &&& b).isLt
@[go_sem] theorem bits_or_u32 (a b : BitVec 32) : bits .or .u32 (U a) (U b) = U (a ||| b) := by
  show IntKind.u32.wrap ((BitVec.ofInt 32 (a.toNat : Int) ||| BitVec.ofInt 32 (b.toNat : Int)).toNat : Int) = _
  rw [toNat32, toNat32]; exact wrap_u32_nat _ (a ||| b).isLt
theorem U_lit (n : Nat) (h : n < 4294967296) : (OfNat.ofNat n : Int) = U (BitVec.ofNat 32 n) := by
  unfold U; rw [BitVec.toNat_ofNat, Nat.mod_eq_of_lt h]; rfl
theorem bits_and_u32_lit (a : BitVec 32) (n : Nat) (h : n < 4294967296) : bits .and .u32 (U a) (OfNat.ofNat n) = U (a &&& BitVec.ofNat 32 n) := by
  rw [U_lit n h, bits_and_u32]
@[go_sem] theorem bits_and_u32_1 (a : BitVec 32) : bits .and .u32 (U a) 1 = U (a &&& 1#32) := bits_and_u32_lit a 1 (by decide)
@[go_sem] theorem bits_and_u32_15 (a : BitVec 32) : bits .and .u32 (U a) 15 = U (a &&& 15#32) := bits_and_u32_lit a 15 (by decide)
theorem bits_xor_u32_lit (a : BitVec 32) (n : Nat) (h : n < 4294967296) : bits .xor .u32 (U a) (OfNat.ofNat n) = U (a ^^^ BitVec.ofNat 32 n) := by
  rw [U_lit n h, bits_xor_u32]
@[go_sem] theorem bits_xor_u32_all (a : BitVec 32) : bits .xor .u32 4294967295 (U a) = U (~~~ a) := by
  have h : (4294967295 : Int) = U (BitVec.allOnes 32) := by decide
  rw [h, bits_xor_u32, BitVec.xor_comm, BitVec.xor_allOnes]
@[go_sem] theorem bits_xor_u32_max (a : BitVec 32) : bits .xor .u32 IntKind.u32.max (U a) = U (~~~ a) := bits_xor_u32_all a
theorem U_div (a : BitVec 32) (n : Nat) : U a / 2 ^ n = U (a >>> n) := by
  unfold U; simp only [BitVec.toNat_ushiftRight, Nat.shiftRight_eq_div_pow]; norm_cast
theorem shift_shr_u32_bv (a : BitVec 32) (yk : IntKind) (n : Nat) (h : n ≤ 32) : Op.shift .shr .u32 (U a) yk (OfNat.ofNat n) = pure (.int .u32 (U (a >>> n))) := by
  rw [shift_shr .u32 yk _ _ (by simp) (by show ((n : Nat) : Int) ≤ 32; omega), ← U_div]
  rfl
@[go_sem ↓] theorem shr_u32_1 (a : BitVec 32) (yk : IntKind) : Op.shift .shr .u32 (U a) yk 1 = pure (.int .u32 (U (a >>> 1))) := shift_shr_u32_bv a yk 1 (by decide)
@[go_sem ↓] theorem shr_u32_4 (a : BitVec 32) (yk : IntKind) : Op.shift .shr .u32 (U a) yk 4 = pure (.int .u32 (U (a >>> 4))) := shift_shr_u32_bv a yk 4 (by decide)
end
end Go.Our
