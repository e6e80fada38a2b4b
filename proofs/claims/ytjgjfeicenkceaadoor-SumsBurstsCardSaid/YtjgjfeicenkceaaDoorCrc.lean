/- Plain facts on CRC-32 registers: one bit's step is linear; four, eight and 32 steps; bursts. No program in sight. -/
namespace Go.Crc
def poly : BitVec 32 := 0xedb88320#32
/-- One step with no bit coming in. -/
def sh (r : BitVec 32) : BitVec 32 := (r >>> 1) ^^^ (if r.getLsbD 0 then poly else 0#32)
def shN : Nat → BitVec 32 → BitVec 32
  | 0, r => r
  | n + 1, r => sh (shN n r)
theorem x4 (a b c d : BitVec 32) : (a ^^^ b) ^^^ (c ^^^ d) = (a ^^^ c) ^^^ (b ^^^ d) := by
  ext i; simp; cases a[i] <;> cases b[i] <;> cases c[i] <;> cases d[i] <;> rfl
theorem sh_xor (a b : BitVec 32) : sh (a ^^^ b) = sh a ^^^ sh b := by
  unfold sh
  rw [BitVec.ushiftRight_xor_distrib, BitVec.getLsbD_xor, x4]
  cases a.getLsbD 0 <;> cases b.getLsbD 0 <;> simp
theorem shN_xor (n : Nat) (a b : BitVec 32) : shN n (a ^^^ b) = shN n a ^^^ shN n b := by
  induction n with
  | zero => rfl
  | succ n ih => simp only [shN, ih, sh_xor]
theorem sh_zero : sh 0#32 = 0#32 := by decide
theorem shN_zero (n : Nat) : shN n 0#32 = 0#32 := by
  induction n with
  | zero => rfl
  | succ n ih => simp only [shN, ih, sh_zero]
theorem shN_add (m n : Nat) (r : BitVec 32) : shN (m + n) r = shN m (shN n r) := by
  induction m with
  | zero => simp [shN]
  | succ m ih => rw [Nat.succ_add]; simp only [shN, ih]
theorem sh_even (r : BitVec 32) (h : r.getLsbD 0 = false) : sh r = r >>> 1 := by unfold sh; rw [h]; simp
theorem shN4_shift (r : BitVec 32) : shN 4 (r <<< 4) = (r <<< 4) >>> 4 := by
  have h0 : sh (r <<< 4) = r <<< 4 >>> 1 := sh_even _ (by simp)
  have h1 : sh (r <<< 4 >>> 1) = r <<< 4 >>> 2 := (sh_even _ (by simp)).trans (by simp only [← BitVec.shiftRight_add])
  have h2 : sh (r <<< 4 >>> 2) = r <<< 4 >>> 3 := (sh_even _ (by simp)).trans (by simp only [← BitVec.shiftRight_add])
  have h3 : sh (r <<< 4 >>> 3) = r <<< 4 >>> 4 := (sh_even _ (by simp)).trans (by simp only [← BitVec.shiftRight_add])
  simp only [shN, h0, h1, h2, h3]
theorem split4 (r : BitVec 32) : r = (r &&& 15#32) ^^^ ((r >>> 4) <<< 4) := by
  ext i hi
  have h15 : (15#32).getLsbD i = decide (i < 4) := by
    have : ∀ i, i < 32 → (15#32).getLsbD i = decide (i < 4) := by decide
    exact this i hi
  rw [← BitVec.getLsbD_eq_getElem, ← BitVec.getLsbD_eq_getElem, BitVec.getLsbD_xor, BitVec.getLsbD_and, h15, BitVec.getLsbD_shiftLeft, BitVec.getLsbD_ushiftRight]
  by_cases h : i < 4
  · simp [h, hi]
  · have : 4 + (i - 4) = i := by omega
    simp [h, hi, this]
/-- Four steps by the table. -/
theorem nib (r : BitVec 32) : shN 4 (r &&& 15#32) ^^^ (r >>> 4) = shN 4 r := by
  conv => rhs; rw [split4 r]
  rw [shN_xor, shN4_shift]
  congr 1
  ext i hi
  rw [← BitVec.getLsbD_eq_getElem, ← BitVec.getLsbD_eq_getElem, BitVec.getLsbD_ushiftRight, BitVec.getLsbD_ushiftRight, BitVec.getLsbD_shiftLeft, BitVec.getLsbD_ushiftRight]
  by_cases h : 4 + i < 32
  · simp [h]
  · simp [h]; exact BitVec.getLsbD_of_ge _ _ (by omega)
/-- A byte's bits as a word. -/
def wide (b : UInt8) : BitVec 32 := b.toBitVec.setWidth 32
def byteStep (r : BitVec 32) (b : UInt8) : BitVec 32 := shN 8 (r ^^^ wide b)
def upd (r : BitVec 32) (l : List UInt8) : BitVec 32 := l.foldl byteStep r
def update (c : BitVec 32) (l : List UInt8) : BitVec 32 := ~~~ upd (~~~ c) l
theorem upd_append (r : BitVec 32) (a b : List UInt8) : upd r (a ++ b) = upd (upd r a) b := by simp [upd]
theorem upd_snoc (r : BitVec 32) (a : List UInt8) (b : UInt8) : upd r (a ++ [b]) = byteStep (upd r a) b := by simp [upd]
theorem update_append (c : BitVec 32) (a b : List UInt8) : update c (a ++ b) = update (update c a) b := by
  simp only [update, upd_append, BitVec.not_not]

/-- One bit of a byte, as the reference reads it. -/
def bitW (b : UInt8) (k : Nat) : BitVec 32 := if b.toBitVec.getLsbD k then 1#32 else 0#32
def refK (r : BitVec 32) (b : UInt8) : Nat → BitVec 32
  | 0 => r
  | k + 1 => sh (refK r b k ^^^ bitW b k)
theorem refK_lin (r : BitVec 32) (b : UInt8) (k : Nat) : refK r b k = shN k r ^^^ refK 0#32 b k := by
  induction k with
  | zero => simp [refK, shN]
  | succ k ih => simp only [refK, shN]; rw [ih, BitVec.xor_assoc, sh_xor]
theorem refK_zero : ∀ b : BitVec 8, refK 0#32 ⟨b⟩ 8 = shN 8 (wide ⟨b⟩) := by decide +kernel
theorem refK_byte (r : BitVec 32) (b : UInt8) : refK r b 8 = byteStep r b := by
  rw [refK_lin, show refK 0#32 b 8 = shN 8 (wide b) from refK_zero b.toBitVec, ← shN_xor]; rfl

/-- Zeros. -/
theorem upd_zeros (n : Nat) (r : BitVec 32) : upd r (List.replicate n 0) = shN (8 * n) r := by
  induction n generalizing r with
  | zero => rfl
  | succ n ih =>
    rw [List.replicate_succ]
    show upd (byteStep r 0) _ = _
    rw [ih]
    have : byteStep r 0 = shN 8 r := by unfold byteStep; rw [show wide 0 = 0#32 from by decide]; simp
    rw [this, ← shN_add]
    rfl
def combine (x y : BitVec 32) (n : Nat) : BitVec 32 := shN (8 * n) x ^^^ y
theorem combine_ref (x y : BitVec 32) (n : Nat) : update x (List.replicate n 0) ^^^ y ^^^ update 0#32 (List.replicate n 0) = combine x y n := by
  unfold update combine
  rw [upd_zeros, upd_zeros]
  have h : shN (8 * n) x = shN (8 * n) (~~~ x) ^^^ shN (8 * n) (~~~ 0#32) := by
    rw [← shN_xor]; congr 1
    rw [show (~~~ 0#32 : BitVec 32) = BitVec.allOnes 32 from by decide, BitVec.xor_allOnes, BitVec.not_not]
  rw [h]
  generalize shN (8 * n) (~~~ x) = a
  generalize shN (8 * n) (~~~ 0#32) = b
  ext i; simp; cases a[i] <;> cases b[i] <;> cases y[i] <;> rfl
theorem combine_assoc (x y z : BitVec 32) (m n : Nat) : combine (combine x y m) z n = combine x (combine y z n) (m + n) := by
  unfold combine
  rw [shN_xor, ← shN_add, BitVec.xor_assoc]
  congr 2
  omega
/-- What is added to the register at the start comes out behind as many steps. -/
theorem upd_lin (r d : BitVec 32) (l : List UInt8) : upd (r ^^^ d) l = upd r l ^^^ shN (8 * l.length) d := by
  induction l generalizing r d with
  | nil => rfl
  | cons b l ih =>
    show upd (byteStep (r ^^^ d) b) l = upd (byteStep r b) l ^^^ _
    have : byteStep (r ^^^ d) b = byteStep r b ^^^ shN 8 d := by
      unfold byteStep
      rw [← shN_xor]; congr 1
      ext i; simp; cases r[i] <;> cases d[i] <;> cases (wide b)[i] <;> rfl
    rw [this, ih, ← shN_add, List.length_cons]
    congr 2
theorem combine_join (a b : List UInt8) : combine (update 0#32 a) (update 0#32 b) b.length = update 0#32 (a ++ b) := by
  rw [update_append]
  generalize update 0#32 a = x
  unfold combine update
  have h : ~~~ x = ~~~ 0#32 ^^^ x := by
    rw [show (~~~ 0#32 : BitVec 32) = BitVec.allOnes 32 from by decide, BitVec.xor_comm, BitVec.xor_allOnes]
  rw [h, upd_lin]
  generalize upd (~~~ 0#32) b = u
  generalize shN (8 * b.length) x = v
  ext i; simp; cases u[i] <;> cases v[i] <;> rfl
theorem combine_neg (x y : BitVec 32) : combine x y 0 = x ^^^ y := rfl

/-! ### Injectivity -/
theorem sh_inj0 (r : BitVec 32) (h : sh r = 0#32) : r = 0#32 := by
  have h31 : (sh r).getLsbD 31 = r.getLsbD 0 := by
    unfold sh
    rw [BitVec.getLsbD_xor, BitVec.getLsbD_ushiftRight]
    have : r.getLsbD (1 + 31) = false := BitVec.getLsbD_of_ge _ _ (by omega)
    rw [this]
    cases r.getLsbD 0 <;> decide
  have h0 : r.getLsbD 0 = false := by rw [← h31, h]; decide
  rw [sh_even r h0] at h
  ext i hi
  rw [← BitVec.getLsbD_eq_getElem]
  cases i with
  | zero => rw [h0]; simp
  | succ i =>
    have := congrArg (fun x => BitVec.getLsbD x i) h
    simp only [BitVec.getLsbD_ushiftRight] at this
    rw [Nat.add_comm] at this
    rw [this]; simp
theorem shN_inj0 (n : Nat) (r : BitVec 32) (h : shN n r = 0#32) : r = 0#32 := by
  induction n with
  | zero => exact h
  | succ n ih => exact ih (sh_inj0 _ h)

/-! ### The bits of a row of bytes, and a burst -/
def bitR (r : BitVec 32) (l : List Bool) : BitVec 32 := l.foldl (fun r b => sh (r ^^^ (if b then 1#32 else 0#32))) r
def bits8 (b : UInt8) : List Bool := (List.range 8).map fun k => b.toBitVec.getLsbD k
def bitsOf (l : List UInt8) : List Bool := l.flatMap bits8
theorem bitR_append (r : BitVec 32) (a b : List Bool) : bitR r (a ++ b) = bitR (bitR r a) b := by simp [bitR]
theorem bitR_range (r : BitVec 32) (b : UInt8) (n : Nat) : bitR r ((List.range n).map fun k => b.toBitVec.getLsbD k) = refK r b n := by
  induction n with
  | zero => rfl
  | succ n ih => rw [List.range_succ, List.map_append, bitR_append, ih]; rfl
theorem upd_bits (r : BitVec 32) (l : List UInt8) : upd r l = bitR r (bitsOf l) := by
  induction l generalizing r with
  | nil => rfl
  | cons b l ih =>
    show upd (byteStep r b) l = _
    rw [ih, show bitsOf (b :: l) = bits8 b ++ bitsOf l from rfl, bitR_append, bits8, bitR_range, refK_byte]
theorem bitR_xor (l m : List Bool) (h : l.length = m.length) : ∀ r s : BitVec 32, bitR (r ^^^ s) (List.zipWith xor l m) = bitR r l ^^^ bitR s m := by
  induction l generalizing m with
  | nil => intro r s; cases m with
    | nil => rfl
    | cons => simp at h
  | cons a l ih => cases m with
    | nil => simp at h
    | cons b m =>
      intro r s
      simp only [List.length_cons, Nat.add_right_cancel_iff] at h
      show bitR (sh (r ^^^ s ^^^ _)) _ = bitR (sh (r ^^^ _)) l ^^^ bitR (sh (s ^^^ _)) m
      rw [← ih m h, ← sh_xor]
      congr 2
      rw [x4]
      congr 1
      cases a <;> cases b <;> decide
theorem bitR_falses (n : Nat) (r : BitVec 32) : bitR r (List.replicate n false) = shN n r := by
  induction n generalizing r with
  | zero => rfl
  | succ n ih =>
    rw [List.replicate_succ]
    show bitR (sh (r ^^^ 0#32)) _ = _
    rw [ih, show r ^^^ 0#32 = r from by simp]
    show shN n (shN 1 r) = _
    rw [← shN_add]
def low (x : BitVec 32) : Nat → BitVec 32
  | 0 => 0#32
  | n + 1 => low x n ^^^ (if x.getLsbD n then BitVec.twoPow 32 n else 0#32)
theorem low_bit (x : BitVec 32) (n i : Nat) (hi : i < 32) : (low x n).getLsbD i = (decide (i < n) && x.getLsbD i) := by
  induction n with
  | zero => simp [low]
  | succ n ih =>
    simp only [low, BitVec.getLsbD_xor, ih]
    by_cases h : i = n
    · subst h
      by_cases hx : x.getLsbD i
      · simp [hx, hi]
      · simp [hx]
    · have h1 : (BitVec.twoPow 32 n).getLsbD i = false := by simp; omega
      have h2 : decide (i < n + 1) = decide (i < n) := by simp; omega
      rw [h2]
      split <;> simp [h1]
theorem low_all (x : BitVec 32) : low x 32 = x := by
  ext i hi
  rw [← BitVec.getLsbD_eq_getElem, low_bit x 32 i hi, ← BitVec.getLsbD_eq_getElem]
  simp [hi]
theorem shN_two : ∀ n, n < 32 → shN n (BitVec.twoPow 32 n) = 1#32 := by decide +kernel
theorem bitR_low (x : BitVec 32) (n : Nat) (hn : n ≤ 32) : bitR 0#32 ((List.range n).map x.getLsbD) = shN n (low x n) := by
  induction n with
  | zero => rfl
  | succ n ih =>
    rw [List.range_succ, List.map_append, bitR_append, ih (by omega)]
    show sh (shN n (low x n) ^^^ _) = sh (shN n (low x n ^^^ _))
    rw [shN_xor]
    congr 2
    split
    · rw [shN_two n (by omega)]
    · rw [shN_zero]
/-- The bits of a burst at bit k of n bits. -/
def burstBits (n k : Nat) (x : BitVec 32) : List Bool := (List.range n).map fun j => decide (k ≤ j) && (decide (j < k + 32) && x.getLsbD (j - k))
theorem burstBits_split (n k : Nat) (x : BitVec 32) (h : k + 32 ≤ n) :
    burstBits n k x = List.replicate k false ++ (List.range 32).map x.getLsbD ++ List.replicate (n - k - 32) false := by
  apply List.ext_getElem
  · simp [burstBits]; omega
  · intro i h1 h2
    simp only [burstBits, List.getElem_map, List.getElem_range]
    by_cases ha : i < k
    · rw [List.getElem_append_left (by simp; omega), List.getElem_append_left (by simp; omega)]
      simp; omega
    · by_cases hb : i < k + 32
      · rw [List.getElem_append_left (by simp; omega), List.getElem_append_right (by simp; omega)]
        simp; simp [hb]; omega
      · rw [List.getElem_append_right (by simp; omega)]
        simp; intro _ _; omega
theorem burst_ne (l : List UInt8) (c : List UInt8) (k : Nat) (x : BitVec 32) (hx : x ≠ 0#32) (hk : k + 32 ≤ 8 * l.length)
    (h : bitsOf c = List.zipWith xor (bitsOf l) (burstBits (8 * l.length) k x)) : update 0#32 c ≠ update 0#32 l := by
  intro he
  have hlen : (bitsOf l).length = 8 * l.length := by
    unfold bitsOf; clear hk h he
    induction l with
    | nil => rfl
    | cons a l ih => rw [List.flatMap_cons, List.length_append, ih]; simp [bits8]; omega
  unfold update at he
  have he2 : upd (~~~ 0#32) c = upd (~~~ 0#32) l := by
    have := congrArg (fun y => ~~~ y) he
    simpa using this
  rw [upd_bits, upd_bits, h] at he2
  have hz : ~~~ 0#32 = ~~~ 0#32 ^^^ 0#32 := by simp
  conv at he2 => lhs; rw [hz]
  rw [bitR_xor _ _ (by rw [hlen]; simp [burstBits])] at he2
  have hb : bitR 0#32 (burstBits (8 * l.length) k x) = 0#32 := by
    generalize bitR (~~~ 0#32) (bitsOf l) = a at he2
    generalize bitR 0#32 (burstBits (8 * l.length) k x) = b at he2
    have := congrArg (fun y => a ^^^ y) he2
    simpa [← BitVec.xor_assoc] using this
  rw [burstBits_split _ _ _ hk, bitR_append, bitR_append, bitR_falses, bitR_falses, shN_zero, bitR_low x 32 (by omega), low_all] at hb
  exact hx (shN_inj0 _ _ (shN_inj0 _ _ hb))

/-! ### Matrices -/
def matPart (c : Nat → BitVec 32) (r : BitVec 32) : Nat → BitVec 32
  | 0 => 0#32
  | n + 1 => if r.getLsbD n then matPart c r n ^^^ c n else matPart c r n
def matMul (c : Nat → BitVec 32) (r : BitVec 32) : BitVec 32 := matPart c r 32
def cols (m : Nat) (i : Nat) : BitVec 32 := shN m (BitVec.twoPow 32 i)
theorem matPart_cols (m : Nat) (r : BitVec 32) (n : Nat) : matPart (cols m) r n = shN m (low r n) := by
  induction n with
  | zero => simp [matPart, low, shN_zero]
  | succ n ih =>
    simp only [matPart, low, ih]
    split
    · rw [shN_xor]; rfl
    · simp
theorem matMul_cols (m : Nat) (r : BitVec 32) : matMul (cols m) r = shN m r := by
  unfold matMul; rw [matPart_cols, low_all]
theorem cols_twice (m i : Nat) : matMul (cols m) (cols m i) = cols (m + m) i := by
  rw [matMul_cols]; unfold cols; rw [shN_add]
theorem cols_first (i : Nat) : byteStep (BitVec.twoPow 32 i) 0 = cols 8 i := by
  unfold byteStep cols; rw [show wide 0 = 0#32 from by decide]; simp
end Go.Crc
