/- Part 8: Tab, Sha1, Sha2, Sha3, Sha4, Sha5, Sha6, Sha7, Sha8, LawDigest, Hash2. Conditions: as each part says. -/
import Derived.Test.YtgjnlngljmfefaaDoorProg
import Derived.Test.YtgjnlngljmfefaaDoorHsh5
import Derived.Test.YtgjnlngljmfefaaDoorHsh7
set_option maxRecDepth 100000
namespace Go.Proofs.YtgjnlngljmfefaaDoor
open Go.Sx
def bt {α : Type} (t n : Nat) (a b : α) : α := match Nat.ble t n with | true => a | false => b
theorem Z3R {α : Type} {t n : Nat} {a b : α} (h : Nat.ble t n = false) : bt t n a b = b := by unfold bt; rw [h]
def Z5e (t : TypeId) : Sh := bt t 65 (bt t 32 (bt t 15 (bt t 7 (bt t 3 (bt t 1 (bt t 0 .plain .func) (.int .i64)) (bt t 5 (bt t 4 .bool (.int .u8)) (bt t 6 (.int .u8) (.struct [(0, 2), (1, 3), (2, 4), (3, 6)])))) (bt t 11 (bt t 9 (bt t 8 (.struct [(0, 2), (1, 3), (2, 4), (3, 6)]) .str) .str) (bt t 13 (bt t 12 (.int .u64) (.struct [(0, 9), (1, 12)])) (bt t 14 (.struct [(0, 9), (1, 12)]) (.ptr 53))))) (bt t 23 (bt t 19 (bt t 17 (bt t 16 (.ptr 56) (.ptr 64)) (.struct [(0, 17)])) (bt t 21 (bt t 20 .iface (.int .i32)) (bt t 22 (.slice 29) (.ptr 43)))) (bt t 27 (bt t 25 (bt t 24 (.array 3 23) (.slice 5)) (bt t 26 (.array 3 25) .func)) (bt t 29 (.struct [(0, 3), (1, 3), (2, 3), (3, 25)]) (bt t 30 (.int .u64) .func))))) (bt t 48 (bt t 40 (bt t 36 (bt t 34 .func (bt t 35 (.array 32 5) .func)) (bt t 38 .func (bt t 39 .func (.int .u32)))) (bt t 44 (bt t 42 (bt t 41 (.array 8 40) (.struct [(0, 41), (8, 25), (9, 3)])) (bt t 43 (.struct [(0, 41), (8, 25), (9, 3)]) .func)) (bt t 46 (bt t 45 .func (.array 64 40)) (bt t 47 (.int .u64) .func)))) (bt t 56 (bt t 52 (bt t 50 .func (bt t 51 .func (.struct [(0, 17), (1, 17), (2, 17), (3, 9)]))) (bt t 54 (bt t 53 (.struct [(0, 17), (1, 17), (2, 17), (3, 9)]) (.array 0 16)) (.struct [(0, 54)]))) (bt t 60 (bt t 58 (.int .u8) (bt t 59 .func (.ptr 5))) (bt t 62 (.int .i32) (bt t 63 (.struct [(0, 12), (1, 12), (2, 40), (3, 57), (4, 5), (5, 5), (6, 58), (7, 59), (8, 60), (9, 61), (10, 62)]) (bt t 64 (.struct [(0, 12), (1, 12), (2, 40), (3, 57), (4, 5), (5, 5), (6, 58), (7, 59), (8, 60), (9, 61), (10, 62)]) .plain))))))) .other
def Z4I (t : TypeId) : Nat := bt t 65 (bt t 32 (bt t 15 (bt t 7 (bt t 3 1 (bt t 5 1 (bt t 6 1 4))) (bt t 11 (bt t 9 (bt t 8 4 1) 1) (bt t 13 (bt t 12 1 2) (bt t 14 2 1)))) (bt t 23 1 (bt t 27 (bt t 25 (bt t 24 3 1) (bt t 26 3 1)) (bt t 29 4 1)))) (bt t 48 (bt t 40 (bt t 36 (bt t 34 1 (bt t 35 32 1)) 1) (bt t 44 (bt t 42 (bt t 41 8 10) (bt t 43 10 1)) (bt t 46 (bt t 45 1 64) 1))) (bt t 56 (bt t 52 (bt t 50 1 (bt t 51 1 4)) (bt t 54 (bt t 53 4 0) 0)) (bt t 60 1 (bt t 62 1 (bt t 63 11 (bt t 64 11 1))))))) 0
def Z2U (t : TypeId) : List SV := bt t 65 (bt t 32 (bt t 15 (bt t 7 (bt t 3 (bt t 1 (bt t 0 [] [.val .nilFunc]) [.int .i64 (0)]) (bt t 5 (bt t 4 [.bool false] [.int .u8 (0)]) (bt t 6 [.int .u8 (0)] [.int .i64 (0), .int .i64 (0), .bool false, .int .u8 (0)]))) (bt t 11 (bt t 9 (bt t 8 [.int .i64 (0), .int .i64 (0), .bool false, .int .u8 (0)] [.str []]) ([.str []])) (bt t 13 (bt t 12 [.int .u64 (0)] [.str [], .int .u64 (0)]) (bt t 14 [.str [], .int .u64 (0)] [.val (.pointer none)])))) (bt t 23 (bt t 19 [.val (.pointer none)] (bt t 21 (bt t 20 [.val .nilIface] [.int .i32 (0)]) (bt t 22 [.val (.slice none 0 0)] [.val (.pointer none)]))) (bt t 27 (bt t 25 (bt t 24 [.val (.pointer none), .val (.pointer none), .val (.pointer none)] [.val (.slice none 0 0)]) (bt t 26 [.val (.slice none 0 0), .val (.slice none 0 0), .val (.slice none 0 0)] [.val .nilFunc])) (bt t 29 [.int .i64 (0), .int .i64 (0), .int .i64 (0), .val (.slice none 0 0)] (bt t 30 [.int .u64 (0)] [.val .nilFunc]))))) (bt t 48 (bt t 40 (bt t 36 (bt t 34 [.val .nilFunc] (bt t 35 [.int .u8 (0), .int .u8 (0), .int .u8 (0), .int .u8 (0), .int .u8 (0), .int .u8 (0), .int .u8 (0), .int .u8 (0), .int .u8 (0), .int .u8 (0), .int .u8 (0), .int .u8 (0), .int .u8 (0), .int .u8 (0), .int .u8 (0), .int .u8 (0), .int .u8 (0), .int .u8 (0), .int .u8 (0), .int .u8 (0), .int .u8 (0), .int .u8 (0), .int .u8 (0), .int .u8 (0), .int .u8 (0), .int .u8 (0), .int .u8 (0), .int .u8 (0), .int .u8 (0), .int .u8 (0), .int .u8 (0), .int .u8 (0)] [.val .nilFunc])) (bt t 38 [.val .nilFunc] (bt t 39 [.val .nilFunc] [.int .u32 (0)]))) (bt t 44 (bt t 42 (bt t 41 [.int .u32 (0), .int .u32 (0), .int .u32 (0), .int .u32 (0), .int .u32 (0), .int .u32 (0), .int .u32 (0), .int .u32 (0)] [.int .u32 (0), .int .u32 (0), .int .u32 (0), .int .u32 (0), .int .u32 (0), .int .u32 (0), .int .u32 (0), .int .u32 (0), .val (.slice none 0 0), .int .i64 (0)]) (bt t 43 [.int .u32 (0), .int .u32 (0), .int .u32 (0), .int .u32 (0), .int .u32 (0), .int .u32 (0), .int .u32 (0), .int .u32 (0), .val (.slice none 0 0), .int .i64 (0)] [.val .nilFunc])) (bt t 46 (bt t 45 [.val .nilFunc] [.int .u32 (0), .int .u32 (0), .int .u32 (0), .int .u32 (0), .int .u32 (0), .int .u32 (0), .int .u32 (0), .int .u32 (0), .int .u32 (0), .int .u32 (0), .int .u32 (0), .int .u32 (0), .int .u32 (0), .int .u32 (0), .int .u32 (0), .int .u32 (0), .int .u32 (0), .int .u32 (0), .int .u32 (0), .int .u32 (0), .int .u32 (0), .int .u32 (0), .int .u32 (0), .int .u32 (0), .int .u32 (0), .int .u32 (0), .int .u32 (0), .int .u32 (0), .int .u32 (0), .int .u32 (0), .int .u32 (0), .int .u32 (0), .int .u32 (0), .int .u32 (0), .int .u32 (0), .int .u32 (0), .int .u32 (0), .int .u32 (0), .int .u32 (0), .int .u32 (0), .int .u32 (0), .int .u32 (0), .int .u32 (0), .int .u32 (0), .int .u32 (0), .int .u32 (0), .int .u32 (0), .int .u32 (0), .int .u32 (0), .int .u32 (0), .int .u32 (0), .int .u32 (0), .int .u32 (0), .int .u32 (0), .int .u32 (0), .int .u32 (0), .int .u32 (0), .int .u32 (0), .int .u32 (0), .int .u32 (0), .int .u32 (0), .int .u32 (0), .int .u32 (0), .int .u32 (0)]) (bt t 47 [.int .u64 (0)] [.val .nilFunc])))) (bt t 56 (bt t 52 (bt t 50 [.val .nilFunc] (bt t 51 [.val .nilFunc] [.val (.pointer none), .val (.pointer none), .val (.pointer none), .str []])) (bt t 54 (bt t 53 [.val (.pointer none), .val (.pointer none), .val (.pointer none), .str []] []) [])) (bt t 60 (bt t 58 [.int .u8 (0)] (bt t 59 [.val .nilFunc] [.val (.pointer none)])) (bt t 62 [.int .i32 (0)] (bt t 63 [.int .u64 (0), .int .u64 (0), .int .u32 (0), .int .u8 (0), .int .u8 (0), .int .u8 (0), .int .u8 (0), .val .nilFunc, .val (.pointer none), .int .i32 (0), .int .i32 (0)] (bt t 64 [.int .u64 (0), .int .u64 (0), .int .u32 (0), .int .u8 (0), .int .u8 (0), .int .u8 (0), .int .u8 (0), .val .nilFunc, .val (.pointer none), .int .i32 (0), .int .i32 (0)] [.val (.pointer none)]))))))) []
def Z3S (t : TypeId) : Nat := bt t 65 (bt t 32 (bt t 15 (bt t 7 (bt t 3 (bt t 1 (bt t 0 0 8) 8) (bt t 5 1 (bt t 6 1 24))) (bt t 11 (bt t 9 (bt t 8 24 16) 16) (bt t 13 (bt t 12 8 24) (bt t 14 24 8)))) (bt t 23 (bt t 19 8 (bt t 21 (bt t 20 16 4) (bt t 22 24 8))) (bt t 27 (bt t 25 24 (bt t 26 72 8)) (bt t 29 48 8)))) (bt t 48 (bt t 40 (bt t 36 (bt t 34 8 (bt t 35 32 8)) (bt t 38 8 (bt t 39 8 4))) (bt t 44 (bt t 42 (bt t 41 32 64) (bt t 43 64 8)) (bt t 46 (bt t 45 8 256) 8))) (bt t 56 (bt t 52 (bt t 50 8 (bt t 51 8 40)) (bt t 54 (bt t 53 40 0) 0)) (bt t 60 (bt t 58 1 8) (bt t 62 4 (bt t 63 48 (bt t 64 48 8))))))) 0
def Z2V (t : TypeId) : Option (List CK) := bt t 65 (bt t 32 none (bt t 48 (bt t 40 (bt t 36 (bt t 34 none (bt t 35 (some [.int .u8, .int .u8, .int .u8, .int .u8, .int .u8, .int .u8, .int .u8, .int .u8, .int .u8, .int .u8, .int .u8, .int .u8, .int .u8, .int .u8, .int .u8, .int .u8, .int .u8, .int .u8, .int .u8, .int .u8, .int .u8, .int .u8, .int .u8, .int .u8, .int .u8, .int .u8, .int .u8, .int .u8, .int .u8, .int .u8, .int .u8, .int .u8]) none)) none) (bt t 44 (bt t 42 (bt t 41 (some [.int .u32, .int .u32, .int .u32, .int .u32, .int .u32, .int .u32, .int .u32, .int .u32]) none) none) (bt t 46 (bt t 45 none (some [.int .u32, .int .u32, .int .u32, .int .u32, .int .u32, .int .u32, .int .u32, .int .u32, .int .u32, .int .u32, .int .u32, .int .u32, .int .u32, .int .u32, .int .u32, .int .u32, .int .u32, .int .u32, .int .u32, .int .u32, .int .u32, .int .u32, .int .u32, .int .u32, .int .u32, .int .u32, .int .u32, .int .u32, .int .u32, .int .u32, .int .u32, .int .u32, .int .u32, .int .u32, .int .u32, .int .u32, .int .u32, .int .u32, .int .u32, .int .u32, .int .u32, .int .u32, .int .u32, .int .u32, .int .u32, .int .u32, .int .u32, .int .u32, .int .u32, .int .u32, .int .u32, .int .u32, .int .u32, .int .u32, .int .u32, .int .u32, .int .u32, .int .u32, .int .u32, .int .u32, .int .u32, .int .u32, .int .u32, .int .u32])) none))) none)) none
def Z4k (_ : TypeId) : Option (Bool × List CK) := none
def Z0i : List Int := [1779033703, 3144134277, 1013904242, 2773480762, 1359893119, 2600822924, 528734635, 1541459225]
def Z24 : List SV := [.int .u32 1779033703, .int .u32 3144134277, .int .u32 1013904242, .int .u32 2773480762, .int .u32 1359893119, .int .u32 2600822924, .int .u32 528734635, .int .u32 1541459225]
def roundsInts : List Int := [1116352408, 1899447441, 3049323471, 3921009573, 961987163, 1508970993, 2453635748, 2870763221, 3624381080, 310598401, 607225278, 1426881987, 1925078388, 2162078206, 2614888103, 3248222580, 3835390401, 4022224774, 264347078, 604807628, 770255983, 1249150122, 1555081692, 1996064986, 2554220882, 2821834349, 2952996808, 3210313671, 3336571891, 3584528711, 113926993, 338241895, 666307205, 773529912, 1294757372, 1396182291, 1695183700, 1986661051, 2177026350, 2456956037, 2730485921, 2820302411, 3259730800, 3345764771, 3516065817, 3600352804, 4094571909, 275423344, 430227734, 506948616, 659060556, 883997877, 958139571, 1322822218, 1537002063, 1747873779, 1955562222, 2024104815, 2227730452, 2361852424, 2428436474, 2756734187, 3204031479, 3329325298]
def Jg : List (List SV) := roundsInts.map fun x => [.int .u32 x]
def tab : Tab := { sh := Z5e, size := Z4I, zero := Z2U, bytes := Z3S, flat := Z2V, key := Z4k, globs := [(0, .box Z24), (1, .rows 1 Jg)] }
theorem Z0 : TabOK Tryd.prog tab := by
 refine Z3Q 66 (by kernel_rfl) (fun t ht => ?_)
 have h : Nat.ble t 65 = false := by
   cases e : Nat.ble t 65
   · rfl
   · have := Nat.le_of_ble_eq_true e; omega
 exact ⟨by (simp only [tab, Z5e] <;> first | exact Z3R h | rfl), by (simp only [tab, Z2U] <;> first | exact Z3R h | rfl), by (simp only [tab, Z2V] <;> first | exact Z3R h | rfl), by (simp only [tab, Z4k] <;> first | exact Z3R h | rfl)⟩
theorem Z1 : Tryd.prog.follows .mixedOrders = true := by kernel_rfl
end Go.Proofs.YtgjnlngljmfefaaDoor
set_option linter.unusedVariables false
set_option linter.unusedSimpArgs false
set_option maxRecDepth 20000
set_option maxHeartbeats 8000000
namespace Go.Proofs.YtgjnlngljmfefaaDoor
open Go.Sx Go.Our
def Z4O : Plan := (ZV [(0, 1), (1, 1), (2, 1), (3, 1), (4, 1), (5, 1), (6, 1), (7, 1), (8, 1)])
theorem V0 (a : BitVec 32) : BitVec.ofInt 32 (a.toNat : Int) = a := by rw [BitVec.ofInt_natCast]; simp
theorem WH (a : Nat) (h : a < 4294967296) : IntKind.u32.wrap (a : Int) = (a : Int) := by rw [IntKind.wrap_u32']; omega
theorem Z34 (a b : BitVec 32) : iXor .u32 (Uw a) (Uw b) = Uw (a ^^^ b) := by
 show IntKind.u32.wrap ((BitVec.ofInt 32 (a.toNat : Int) ^^^ BitVec.ofInt 32 (b.toNat : Int)).toNat : Int) = _
 rw [V0, V0]; exact WH _ (a ^^^ b).isLt
theorem Z5g (a b : BitVec 32) : iAnd .u32 (Uw a) (Uw b) = Uw (a &&& b) := by
 show IntKind.u32.wrap ((BitVec.ofInt 32 (a.toNat : Int) &&& BitVec.ofInt 32 (b.toNat : Int)).toNat : Int) = _
 rw [V0, V0]; exact WH _ (a &&& b).isLt
theorem uwOr (a b : BitVec 32) : iOr .u32 (Uw a) (Uw b) = Uw (a ||| b) := by
 show IntKind.u32.wrap ((BitVec.ofInt 32 (a.toNat : Int) ||| BitVec.ofInt 32 (b.toNat : Int)).toNat : Int) = _
 rw [V0, V0]; exact WH _ (a ||| b).isLt
theorem Z5h (a : BitVec 32) : iXor .u32 (bif IntKind.u32.signed then -1 else IntKind.u32.max) (Uw a) = Uw (~~~a) := by
 have h : (bif IntKind.u32.signed then -1 else IntKind.u32.max) = Uw (BitVec.allOnes 32) := by decide
 rw [h, Z34, BitVec.xor_comm, BitVec.xor_allOnes]
theorem Z27 (a b : BitVec 32) : IntKind.u32.wrap (Uw a + Uw b) = Uw (a + b) := by
 unfold Uw
 rw [BitVec.toNat_add, IntKind.wrap_u32', ← Int.natCast_add]
 rfl
theorem Z28 (a : BitVec 32) (n : Int) (h : 0 ≤ n ∧ n ≤ 32) : iShr .u32 (Uw a) n = Uw (a >>> n.toNat) := by
 obtain ⟨m, rfl⟩ := Int.eq_ofNat_of_zero_le h.1
 unfold iShr Uw
 rw [Int.toNat_natCast, Nat.min_eq_left (by show m ≤ 32; omega), show (2 : Int) ^ m = ((2 ^ m : Nat) : Int) by norm_cast, Int.fdiv_eq_ediv_of_nonneg _ (Int.natCast_nonneg _)]
 simp only [BitVec.toNat_ushiftRight, Nat.shiftRight_eq_div_pow]
 norm_cast
theorem Z35 (a : BitVec 32) (n : Int) (h : 0 ≤ n ∧ n ≤ 32) : iShl .u32 (Uw a) n = Uw (a <<< n.toNat) := by
 obtain ⟨m, rfl⟩ := Int.eq_ofNat_of_zero_le h.1
 unfold iShl Uw
 rw [Int.toNat_natCast, Nat.min_eq_left (by show m ≤ 32; omega), show (2 : Int) ^ m = ((2 ^ m : Nat) : Int) by norm_cast, IntKind.wrap_u32']
 rw [BitVec.toNat_shiftLeft, Nat.shiftLeft_eq, ← Int.natCast_mul]
 rfl
theorem Z4n (c : UInt8) : IntKind.u32.wrap (c.toNat : Int) = Uw (BitVec.ofNat 32 c.toNat) := by
 have : c.toNat < 256 := c.toBitVec.isLt
 unfold Uw
 rw [WH _ (by omega), BitVec.toNat_ofNat, Nat.mod_eq_of_lt (by omega)]
def w32 (x : BitVec 32) : List SV := [.int .u32 (Uw x)]
def Uy (s : S8) : List SV := [.int .u32 (Uw s.a), .int .u32 (Uw s.b), .int .u32 (Uw s.c), .int .u32 (Uw s.d), .int .u32 (Uw s.e), .int .u32 (Uw s.f), .int .u32 (Uw s.g), .int .u32 (Uw s.h)]
def Uz (s : S8) : List (List SV) := [[.int .u32 (Uw s.a)], [.int .u32 (Uw s.b)], [.int .u32 (Uw s.c)], [.int .u32 (Uw s.d)], [.int .u32 (Uw s.e)], [.int .u32 (Uw s.f)], [.int .u32 (Uw s.g)], [.int .u32 (Uw s.h)]]
theorem ZO (l : List (BitVec 32)) : Zw (l.map w32) = true := Yt _ (fun _ => rfl) l
instance : PlF w32 := ⟨fun _ => rfl⟩
theorem Z5r : ∀ n : Fin 32, 0 < n.val → iAnd .u64 (IntKind.u64.wrap (IntKind.i64.wrap (0 - (n.val : Int)))) 31 = ((32 - n.val : Nat) : Int) := by decide
theorem W7 (x : BitVec 32) (n : Int) (hn : 0 < n ∧ n < 32) : Does Tryd.prog tab 19 0 [.int .u32 (Uw x), .int .i64 n] [] [] (Val (.int .u32 (Uw (rotr x n.toNat)))) := by
 have h1 : iAnd .u64 (IntKind.u64.wrap (IntKind.i64.wrap (0 - n))) 31 = 32 - n := by
   have := Z5r ⟨n.toNat, by omega⟩ (by show 0 < n.toNat; omega)
   simp only at this
   rw [show ((n.toNat : Nat) : Int) = n by omega] at this
   rw [this]; omega
 have h2 : IntKind.u64.wrap (32 - (32 - n)) = n := by rw [IntWalk.u64_in _ ⟨by omega, by omega⟩]; omega
 have hr : Does Tryd.prog tab 23 0 [.int .u32 (Uw x), .int .i64 (IntKind.i64.wrap (0 - n))] [] [] (Val (.int .u32 (Uw (rotr x n.toNat)))) := by
   refine Does.enter Z0 (g := 23) (fn := Tryd.f23) Tryd.call23 Tryd.func23 rfl 17 rfl rfl [.tmp 4] rfl ?_
   intro w0 F η0 h0
   conv => whnf
   rw [h1]
   repeat' ((first | (rw [h2]; conv => whnf) | refine AU ?_ | (refine IW (fun h => ?_) (fun h => ?_) <;> try (exfalso; omega))) <;> conv => whnf)
   refine FIN.value h0 rfl (congrArg (SV.int _) ?_)
   rw [Z35 _ _ ⟨by omega, by omega⟩, Z28 _ _ ⟨by omega, by omega⟩, uwOr, BitVec.or_comm]
   unfold rotr
   rw [show (32 - n).toNat = 32 - n.toNat by omega]
 refine Does.enter Z0 (g := 19) (fn := Tryd.f19) Tryd.call19 Tryd.func19 rfl 9 rfl rfl [.tmp 4] rfl ?_
 intro w0 F η0 h0
 conv => whnf
 repeat' ((first | refine CALL.value (hr) rfl rfl ?_ | refine AU ?_ | (refine IW (fun h => ?_) (fun h => ?_) <;> try (exfalso; omega))) <;> conv => whnf)
 exact FIN.value h0 rfl rfl
theorem UA (x : BitVec 32) (n : Int) (hn : 0 < n ∧ n < 32) : Does Tryd.prog tab 22 0 [.int .u32 (Uw x), .int .i64 n] [] [] (Val (.int .u32 (Uw (rotr x n.toNat)))) := by
 have h2 : IntKind.i64.wrap (32 - n) = 32 - n := by rw [Zc (by omega) (by omega)]
 refine Does.enter Z0 (g := 22) (fn := Tryd.f22) Tryd.call22 Tryd.func22 rfl 13 rfl rfl [.tmp 4] rfl ?_
 intro w0 F η0 h0
 conv => whnf
 repeat' ((first | refine DRAWN.of (id := 1) Z0 Z1 Z4O (by kernel_rfl) ?_ | refine ADD.mk (fun _ _ => ?_) | refine AD ?_ | refine FORK.mk ?_ ?_ | refine AU ?_ | (refine IW (fun h => ?_) (fun h => ?_) <;> try (exfalso; omega))) <;> conv => whnf)
 refine FIN.value h0 rfl (congrArg (SV.int _) ?_)
 rw [h2, Z35 _ _ ⟨by omega, by omega⟩, Z28 _ _ ⟨by omega, by omega⟩, uwOr]
 unfold rotr
 rw [show (32 - n).toNat = 32 - n.toNat by omega]
end Go.Proofs.YtgjnlngljmfefaaDoor
namespace Go.Proofs.YtgjnlngljmfefaaDoor
open Go.Sx Go.Our
def Z15 : Plan := (ZV [(0, 1), (1, 1), (2, 1), (4, 1), (5, 1), (6, 1), (3, 2), (8, 1), (7, 2), (9, 1)])
def Z16 : Plan := (ZV [(0, 1), (1, 1), (3, 1), (6, 1), (7, 1), (9, 1), (10, 1), (11, 1), (14, 1), (16, 1), (19, 1), (20, 1), (23, 1), (24, 1), (25, 1), (12, 2), (26, 2), (2, 3), (4, 3), (5, 1), (8, 1), (13, 1), (15, 3), (17, 3), (18, 1), (21, 1), (22, 1), (27, 1), (28, 1), (29, 0)])
def Z17 : Plan := (ZV [(0, 1), (2, 1), (1, 2), (4, 1), (3, 2), (5, 1)])
def Z18 : Plan := (ZV [(0, 1), (2, 1), (4, 1), (7, 1), (11, 1), (12, 1), (15, 1), (16, 1), (17, 1), (22, 1), (23, 1), (26, 1), (27, 1), (1, 2), (13, 2), (14, 1), (18, 2), (19, 1), (20, 1), (24, 2), (28, 2), (3, 3), (5, 3), (6, 1), (8, 3), (9, 1), (10, 1), (21, 1), (25, 1), (29, 1), (30, 1)])
def Z19 : Plan := (ZV [(0, 1), (2, 1), (5, 1), (8, 1), (9, 1), (12, 1), (13, 1), (17, 1), (19, 1), (10, 2), (11, 1), (14, 2), (15, 1), (16, 1), (18, 2), (20, 2), (21, 1), (22, 1), (1, 3), (3, 3), (4, 1), (6, 3), (7, 1), (23, 1), (24, 1)])
def Z1a : Plan := (ZV [(0, 1), (1, 1), (3, 1), (4, 1), (2, 2), (5, 2), (6, 1), (7, 1), (8, 0)])
theorem Z4o (a : BitVec 32) : iShl .u32 (Uw a) 8 = Uw (a <<< 8) := Z35 a 8 (by decide)
theorem Z36 (a : BitVec 32) : iShr .u32 (Uw a) 10 = Uw (a >>> 10) := Z28 a 10 (by decide)
theorem Z4p (a : BitVec 32) : iShr .u32 (Uw a) 3 = Uw (a >>> 3) := Z28 a 3 (by decide)
theorem Jj {η : Env} {es : Nat} {rs : List (List SV)} {v : Value} (h : Den η (.arr es rs) v) : Den η (.agg rs.flatten) v := by
 simp only [Den] at h ⊢
 obtain ⟨vs, h1, h2, h3⟩ := h
 exact ⟨vs, h1, YV h2, h3⟩
theorem FIN.arrAgg {M : Mx} {O : Hps} {nx k es : Nat} {rs : List (List SV)} {Q : SV → Hps → Nat → Prop} (hk : M.η0.length = k) (hp : Y9 rs.flatten = true) (hQ : Q (.agg rs.flatten) [] k) : FIN M O nx (.arr es rs) Q :=
 ⟨fun η w v H hd => (FIN.val (r := .agg rs.flatten) hk hp hQ).out η w v H (Jj hd)⟩
def L8 (s : S8) : List (BitVec 32) := [s.a, s.b, s.c, s.d, s.e, s.f, s.g, s.h]
def WI (s v : S8) (i : Nat) : List (BitVec 32) := (L8 (add8 s v)).take i ++ (L8 s).drop i
theorem Z0p {s v : S8} {i : Nat} (h : i ≤ 8) : (WI s v i).length = 8 := by simp [WI, L8]; omega
theorem Z0q (s v : S8) {i : Nat} (h : i < 8) : (WI s v i).getD i 0 = (L8 s).getD i 0 := by
 match i, h with
 | 0, _ => rfl
 | 1, _ => rfl
 | 2, _ => rfl
 | 3, _ => rfl
 | 4, _ => rfl
 | 5, _ => rfl
 | 6, _ => rfl
 | 7, _ => rfl
theorem Z0r (s v : S8) {i : Nat} (h : i < 8) : (WI s v i).set i ((L8 s).getD i 0 + (L8 v).getD i 0) = WI s v (i + 1) := by
 match i, h with
 | 0, _ => rfl
 | 1, _ => rfl
 | 2, _ => rfl
 | 3, _ => rfl
 | 4, _ => rfl
 | 5, _ => rfl
 | 6, _ => rfl
 | 7, _ => rfl
def z8 : List (List SV) := [[.int .u32 0], [.int .u32 0], [.int .u32 0], [.int .u32 0], [.int .u32 0], [.int .u32 0], [.int .u32 0], [.int .u32 0]]
theorem YR {b : List UInt8} {i : Nat} (h : i < b.length) : (b.map Sx.bytesRow)[i]? = some (Sx.bytesRow (b.getD i 0)) := by
 simp [List.getD_eq_getElem?_getD, List.getElem?_eq_getElem h]
theorem XN {ws : List (BitVec 32)} {i : Nat} (h : i < ws.length) : (ws.map w32)[i]? = some (w32 (ws.getD i 0)) := by
 simp [List.getD_eq_getElem?_getD, List.getElem?_eq_getElem h]
theorem Z37 (b : List UInt8) (r i : Nat) : bw (b.drop r) i = BitVec.ofNat 32 (b.getD (r + i) 0).toNat := by
 unfold bw; rw [List.getD_eq_getElem?_getD, List.getElem?_drop, List.getD_eq_getElem?_getD]
theorem UB (ws : List (BitVec 32)) (i : Nat) (x : BitVec 32) : (ws.map w32).set i [.int .u32 (Uw x)] = (ws.set i x).map w32 := by rw [List.map_set]; rfl
theorem Z38 (b : List UInt8) {t : Nat} (ht : t < 64) : (warr b t).set t 0 = warr b t := by
 unfold warr
 rw [List.set_append_right _ _ (by rw [YJ]; exact Nat.le_refl _), YJ, Nat.sub_self, show 64 - t = (64 - (t + 1)) + 1 by omega, List.replicate_succ, List.set_cons_zero]
theorem UC (b : List UInt8) {t i : Nat} (h : i < t) (ht : t ≤ 64) : (warr b t).getD i 0 = (Yh b t).getD i 0 := by
 rw [List.getD_eq_getElem?_getD, Z3U b h ht]; rfl
set_option maxHeartbeats 4000000 in
theorem W8 (s : S8) (b : List UInt8) (r n : Nat) (hr : r + n ≤ b.length) (hn : 64 ≤ n) (hb : b.length ≤ 140737488355328) : Does Tryd.prog tab 14 1 [.agg (Uy s), .sl (.loc 0) r 1 n none] [] [(0, .rows 1 (b.map Sx.bytesRow))] (ValK 1 (.agg (Uy (J3 s (b.drop r))))) := by
 refine Does.enter Z0 (g := 14) (fn := Tryd.f14) Tryd.call14 Tryd.func14 rfl 179 rfl rfl [.cell 4 41] rfl ?_
 intro w0 F η0 h0
 conv => whnf
 repeat' ((first | refine AU ?_ | (refine IW (fun h => ?_) (fun h => ?_) <;> try (exfalso; omega))) <;> conv => whnf)
 refine LOOP.go Z0 [1, 2, 4, 5] (X := Nat × List (BitVec 32)) (fun x => x.1 ≤ 64 ∧ x.2 = warr (b.drop r) x.1) (fun x => [(18, .int .i64 (x.1 : Int))]) (fun x => [(1, .rows 1 (Uz s)), (2, .rows 1 z8), (3, .rows 1 (x.2.map w32))]) 4 (fun x => 64 - x.1) (0, warr (b.drop r) 0) ⟨by simp, rfl⟩ ?_
 conv => whnf
 refine ⟨by (refine GOES.cutting h0 rfl rfl rfl (by first | rfl | simp [Zi, Zg, Z9, Yt, Y9, plain]) ?_ ?_ <;> (repeat' (first | (exact congrArg (Hp.rows _) rfl) | (with_reducible rfl) | (exact congrArg (fun n => SV.sl _ _ _ n _) (by simp)) | (exact congrArg (Hp.rows _) (by simp)) | (exact congrArg (SV.int _) (by first | omega | (simp (disch := omega) only [lnB, Zc, Zm] <;> omega) | (simp; done) | (simp <;> omega))) | ((conv => whnf); refine ⟨?_, ?_⟩) | exact trivial | (simp; done) | rfl))), ?_⟩
 rintro ⟨t, ws⟩ ⟨ht, hws⟩
 dsimp only at ht hws ⊢
 have hwl : ws.length = 64 := by rw [hws, WF _ ht]
 conv => whnf
 refine IF.mk (fun h => ?_) (fun h => ?_)
 · have h : t < 64 := by simp at h; omega
   conv => whnf
   refine IF.mk (fun h1 => ?_) (fun h1 => ?_)
   · have h1 : t < 16 := by simp at h1; omega
     have hw4 : IntKind.i64.wrap (4 * (t : Int)) = ((4 * t : Nat) : Int) := by rw [Zc (by omega) (by omega)]; omega
     have hw5 : IntKind.i64.wrap (((4 * t : Nat) : Int) + 4) = ((4 * t + 4 : Nat) : Int) := by rw [Zc (by omega) (by omega)]; omega
     conv => whnf
     rw [hw4, hw5]
     refine NEED.mk ⟨by omega, by omega, by show _ ≤ ((n : Nat) : Int); omega⟩ ?_
     rw [show ((4 * t + 4 : Nat) : Int).toNat - ((4 * t : Nat) : Int).toNat = 4 by omega, show ((4 * t : Nat) : Int).toNat = 4 * t by omega]
     conv => whnf
     refine LOOP.go Z0 [1, 2, 4, 5, 6, 18, 29, 30] (X := Nat × List (BitVec 32)) (fun x => x.1 ≤ 4 ∧ x.2 = ws.set t (pw (b.drop r) t x.1)) (fun x => [(31, .int .i64 (x.1 : Int))]) (fun x => [(1, .rows 1 (Uz s)), (2, .rows 1 z8), (3, .rows 1 (x.2.map w32))]) 4 (fun x => 4 - x.1) (0, ws) ⟨by simp, by rw [hws]; exact (Z38 _ h).symm⟩ ?_
     conv => whnf
     refine ⟨by (refine GOES.cutting h0 rfl rfl rfl (by first | rfl | (simp only [Zi, Zg, Z9 _ (ZO _), Bool.and_self, Bool.and_true] <;> rfl)) ?_ ?_ <;> (repeat' (first | (with_reducible rfl) | (exact ZY rfl (by first | (simp; done) | omega | (simp; omega))) | (exact congrArg (SV.int _) (by first | omega | (simp (disch := omega) only [lnB, Zc, Zm] <;> omega) | (simp; done) | (simp <;> omega))) | (exact congrArg (Hp.rows _) (by rfl)) | ((conv => whnf); refine ⟨?_, ?_⟩) | exact trivial | rfl))), ?_⟩
     rintro ⟨j, vs⟩ ⟨hj, hvs⟩
     dsimp only at hj hvs ⊢
     conv => whnf
     refine IF.mk (fun h2 => ?_) (fun h2 => ?_)
     · have h2 : j < 4 := by simp at h2; omega
       have hvl : vs.length = 64 := by rw [hvs, List.length_set, hwl]
       have hvt : vs.getD t 0 = pw (b.drop r) t j := by rw [hvs, List.getD_eq_getElem?_getD, List.getElem?_set_self (by omega)]; rfl
       conv => whnf
       repeat' ((first | (refine GET.at (row := Sx.bytesRow (b.getD (r + (4 * t + j)) 0)) (by rw [show r + 4 * t + (j : Int).toNat = r + (4 * t + j) by omega]; exact YR (by omega)) ?_; conv => whnf) | (refine GET.at (row := w32 (vs.getD t 0)) (by rw [show (t : Int).toNat = t by omega]; exact XN (by omega)) ?_; conv => whnf) | refine AU ?_ | (refine IW (fun h => ?_) (fun h => ?_) <;> try (exfalso; omega))) <;> conv => whnf)
       refine ⟨(j + 1, vs.set t (pw (b.drop r) t (j + 1))), ⟨by simp only; omega, by simp only [hvs, List.set_set]⟩, by simp only; omega, ?_⟩
       dsimp only
       conv => whnf
       (refine GOES.cutting h0 rfl rfl rfl (by first | rfl | (simp only [Zi, Zg, Z9 _ (ZO _), Bool.and_self, Bool.and_true] <;> rfl)) ?_ ?_ <;> (repeat' (first | (with_reducible rfl) | (exact ZY rfl (by first | (simp; done) | omega | (simp; omega))) | (exact congrArg (SV.int _) (by first | omega | (simp (disch := omega) only [lnB, Zc, Zm] <;> omega) | (simp; done) | (simp <;> omega))) | (exact congrArg (Hp.rows _) (by (rw [Z4n, Z4o, uwOr, UB, hvt]; simp only [pw, Z37]; rfl))) | ((conv => whnf); refine ⟨?_, ?_⟩) | exact trivial | rfl)))
     · have h2 : j = 4 := by simp at h2; omega
       subst h2
       conv => whnf
       refine ⟨(t + 1, warr (b.drop r) (t + 1)), ⟨by simp only; omega, rfl⟩, by simp only; omega, ?_⟩
       dsimp only
       conv => whnf
       (refine GOES.cutting h0 rfl rfl rfl (by first | rfl | (simp only [Zi, Zg, Z9 _ (ZO _), Bool.and_self, Bool.and_true] <;> rfl)) ?_ ?_ <;> (repeat' (first | (with_reducible rfl) | (exact ZY rfl (by first | (simp; done) | omega | (simp; omega))) | (exact congrArg (SV.int _) (by first | omega | (simp (disch := omega) only [lnB, Zc, Zm] <;> omega) | (simp; done) | (simp <;> omega))) | (exact congrArg (Hp.rows _) (by (rw [hvs, hws]; exact congrArg (List.map w32) (VA _ h _ (by unfold XJ; rw [if_pos h1, pw4]))))) | ((conv => whnf); refine ⟨?_, ?_⟩) | exact trivial | rfl)))
   · have h1 : 16 ≤ t := by simp at h1; omega
     have hg : ∀ i, i < t → (ws.map w32)[i]? = some (w32 ((Yh (b.drop r) t).getD i 0)) := fun i hi => by rw [XN (by omega), hws, UC _ hi ht]
     have htn : ((t : Nat) : Int).toNat = t := by omega
     have hfin : ∀ X, X = XJ (b.drop r) (Yh (b.drop r) t) t → (ws.map w32).set t [.int .u32 (Uw X)] = (warr (b.drop r) (t + 1)).map w32 := fun X hX => by rw [UB, hws, VA _ h X hX]
     have h15 : (IntKind.i64.wrap ((t : Int) - 15)).toNat = t - 15 := by rw [Zc (by omega) (by omega)]; omega
     have h2 : (IntKind.i64.wrap ((t : Int) - 2)).toNat = t - 2 := by rw [Zc (by omega) (by omega)]; omega
     have h7 : (IntKind.i64.wrap ((t : Int) - 7)).toNat = t - 7 := by rw [Zc (by omega) (by omega)]; omega
     have h16 : (IntKind.i64.wrap ((t : Int) - 16)).toNat = t - 16 := by rw [Zc (by omega) (by omega)]; omega
     conv => whnf
     repeat' ((first | refine DRAWN.of (id := 11) Z0 Z1 Z15 (by kernel_rfl) ?_ | refine DRAWN.of (id := 12) Z0 Z1 Z16 (by kernel_rfl) ?_ | refine DRAWN.of (id := 18) Z0 Z1 Z17 (by kernel_rfl) ?_ | refine DRAWN.of (id := 19) Z0 Z1 Z18 (by kernel_rfl) ?_ | refine DRAWN.of (id := 20) Z0 Z1 Z19 (by kernel_rfl) ?_ | refine DRAWN.of (id := 26) Z0 Z1 Z1a (by kernel_rfl) ?_ | refine ADD.mk (fun _ _ => ?_) | refine AD ?_ | refine FORK.mk ?_ ?_ | refine CALL.value (W7 _ _ (by decide)) rfl rfl ?_ | (refine GET.at (row := w32 ((Yh (b.drop r) t).getD (t - 15) 0)) (by rw [h15]; exact hg _ (by omega)) ?_; conv => whnf) | (refine GET.at (row := w32 ((Yh (b.drop r) t).getD (t - 2) 0)) (by rw [h2]; exact hg _ (by omega)) ?_; conv => whnf) | (refine GET.at (row := w32 ((Yh (b.drop r) t).getD (t - 7) 0)) (by rw [h7]; exact hg _ (by omega)) ?_; conv => whnf) | (refine GET.at (row := w32 ((Yh (b.drop r) t).getD (t - 16) 0)) (by rw [h16]; exact hg _ (by omega)) ?_; conv => whnf) | (refine GET.at (row := w32 (ws.getD t 0)) (by rw [show (t : Int).toNat = t by omega]; exact XN (by omega)) ?_; conv => whnf) | refine AU ?_ | (refine IW (fun h => ?_) (fun h => ?_) <;> try (exfalso; omega))) <;> conv => whnf)
     refine ⟨(t + 1, warr (b.drop r) (t + 1)), ⟨by simp only; omega, rfl⟩, by simp only; omega, ?_⟩
     dsimp only
     conv => whnf
     (refine GOES.cutting h0 rfl rfl rfl (by first | rfl | (simp only [Zi, Zg, Z9 _ (ZO _), Bool.and_self, Bool.and_true] <;> rfl)) ?_ ?_ <;> (repeat' (first | (with_reducible rfl) | (exact ZY rfl (by first | (simp; done) | omega | (simp; omega))) | (exact congrArg (SV.int _) (by first | omega | (simp (disch := omega) only [lnB, Zc, Zm] <;> omega) | (simp; done) | (simp <;> omega))) | (exact congrArg (Hp.rows _) (by (simp only [Z36, Z4p, Z34, Z27, Int.reduceToNat, htn]; exact hfin _ (by unfold XJ; rw [if_neg (by omega)])))) | ((conv => whnf); refine ⟨?_, ?_⟩) | exact trivial | rfl)))
 · have h : t = 64 := by simp at h; omega
   obtain ⟨W, hW⟩ : ∃ W, W = Yh (b.drop r) 64 := ⟨_, rfl⟩
   have hwg : ∀ i, i < 64 → (ws.map w32)[i]? = some (w32 (W.getD i 0)) := fun i hi => by rw [XN (by omega), hws, UC _ (by omega) ht, hW, h]
   have hkg : ∀ i, i < 64 → Jg[i]? = some (w32 (keyL.getD i 0)) := fun i hi => by
     have hk : Jg = keyL.map w32 := rfl
     rw [hk]; exact XN (by show i < 64; omega)
   unfold J3
   rw [← hW]
   clear hws hW
   conv => whnf
   repeat' ((first | (refine NEED.mk (by and_intros <;> (first | rfl | omega)) ?_; conv => whnf) | refine AU ?_ | (refine IW (fun h => ?_) (fun h => ?_) <;> try (exfalso; omega))) <;> conv => whnf)
   refine LOOP.go Z0 [2, 4, 5, 11] (X := Nat × S8) (fun x => x.1 ≤ 64 ∧ x.2 = rnds keyL W s x.1) (fun x => [(84, .int .i64 (x.1 : Int))]) (fun x => [(1, .rows 1 (Uz s)), (2, .rows 1 z8), (3, .rows 1 (ws.map w32)), (4, .rows 1 (Uz x.2))]) 5 (fun x => 64 - x.1) (0, s) ⟨by simp only; omega, rfl⟩ ?_
   conv => whnf
   refine ⟨by (refine GOES.cutting h0 rfl rfl rfl (by first | rfl | (simp only [Zi, Zg, Z9 _ (ZO _), Bool.and_self, Bool.and_true] <;> rfl)) ?_ ?_ <;> (repeat' (first | (with_reducible rfl) | (exact ZY rfl (by first | (simp; done) | omega | (simp; omega))) | (exact congrArg (SV.int _) (by first | omega | (simp (disch := omega) only [lnB, Zc, Zm] <;> omega) | (simp; done) | (simp <;> omega))) | (exact congrArg (Hp.rows _) (by rfl)) | ((conv => whnf); refine ⟨?_, ?_⟩) | exact trivial | rfl))), ?_⟩
   rintro ⟨i, v⟩ ⟨hi, hv⟩
   dsimp only at hi hv ⊢
   conv => whnf
   refine IF.mk (fun h => ?_) (fun h => ?_)
   · have h : i < 64 := by simp at h; omega
     conv => whnf
     repeat' ((first | refine DRAWN.of (id := 11) Z0 Z1 Z15 (by kernel_rfl) ?_ | refine DRAWN.of (id := 12) Z0 Z1 Z16 (by kernel_rfl) ?_ | refine DRAWN.of (id := 18) Z0 Z1 Z17 (by kernel_rfl) ?_ | refine DRAWN.of (id := 19) Z0 Z1 Z18 (by kernel_rfl) ?_ | refine DRAWN.of (id := 20) Z0 Z1 Z19 (by kernel_rfl) ?_ | refine DRAWN.of (id := 26) Z0 Z1 Z1a (by kernel_rfl) ?_ | refine ADD.mk (fun _ _ => ?_) | refine AD ?_ | refine FORK.mk ?_ ?_ | refine CALL.value (W7 _ _ (by decide)) rfl rfl ?_ | (refine NEED.mk (by and_intros <;> (first | rfl | omega)) ?_; conv => whnf) | (refine GET.at (row := w32 (W.getD i 0)) (by rw [show ((i : Nat) : Int).toNat = i by omega]; exact hwg i h) ?_; conv => whnf) | (refine GET.at (row := w32 (keyL.getD i 0)) (by rw [show ((i : Nat) : Int).toNat = i by omega]; exact hkg i h) ?_; conv => whnf) | refine AU ?_ | (refine IW (fun h => ?_) (fun h => ?_) <;> try (exfalso; omega))) <;> conv => whnf)
     refine ⟨(i + 1, rnd (keyL.getD i 0) (W.getD i 0) v), ⟨by simp only; omega, by simp only [hv]; rfl⟩, by simp only; omega, ?_⟩
     dsimp only
     conv => whnf
     (refine GOES.cutting h0 rfl rfl rfl (by first | rfl | (simp only [Zi, Zg, Z9 _ (ZO _), Bool.and_self, Bool.and_true] <;> rfl)) ?_ ?_ <;> (repeat' (first | (with_reducible rfl) | (exact congrArg (SV.int _) (by simp (disch := omega) only [lnB, Zc] <;> omega)) | (exact congrArg (Hp.rows _) (by simp only [Z5h, Z34, Z27, Z5g, Int.reduceToNat]; rfl)) | ((conv => whnf); refine ⟨?_, ?_⟩) | exact trivial | rfl)))
   · have h : i = 64 := by simp at h; omega
     subst h
     rw [← hv]
     clear hv
     conv => whnf
     refine LOOP.go Z0 [2, 4, 11] (X := Nat × List (BitVec 32)) (fun x => x.1 ≤ 8 ∧ x.2 = WI s v x.1) (fun x => [(166, .int .i64 (x.1 : Int))]) (fun x => [(1, .rows 1 (x.2.map w32)), (2, .rows 1 z8), (4, .rows 1 ((L8 v).map w32))]) 5 (fun x => 8 - x.1) (0, L8 s) ⟨by simp only; omega, rfl⟩ ?_
     conv => whnf
     refine ⟨by (refine GOES.cutting h0 rfl rfl rfl (by first | rfl | (simp only [Zi, Zg, Z9 _ (ZO _), Bool.and_self, Bool.and_true] <;> rfl)) ?_ ?_ <;> (repeat' (first | (with_reducible rfl) | (exact ZY rfl (by first | (simp; done) | omega | (simp; omega))) | (exact congrArg (SV.int _) (by first | omega | (simp (disch := omega) only [lnB, Zc, Zm] <;> omega) | (simp; done) | (simp <;> omega))) | (exact congrArg (Hp.rows _) (by rfl)) | ((conv => whnf); refine ⟨?_, ?_⟩) | exact trivial | rfl))), ?_⟩
     rintro ⟨i, l⟩ ⟨hi, hl⟩
     dsimp only at hi hl ⊢
     have hll : l.length = 8 := by rw [hl, Z0p hi]
     conv => whnf
     refine IF.mk (fun h => ?_) (fun h => ?_)
     · have h : i < 8 := by simp at h; omega
       have hls : l.getD i 0 = (L8 s).getD i 0 := by rw [hl, Z0q s v h]
       conv => whnf
       repeat' ((first | refine DRAWN.of (id := 11) Z0 Z1 Z15 (by kernel_rfl) ?_ | refine DRAWN.of (id := 12) Z0 Z1 Z16 (by kernel_rfl) ?_ | refine DRAWN.of (id := 18) Z0 Z1 Z17 (by kernel_rfl) ?_ | refine DRAWN.of (id := 19) Z0 Z1 Z18 (by kernel_rfl) ?_ | refine DRAWN.of (id := 20) Z0 Z1 Z19 (by kernel_rfl) ?_ | refine DRAWN.of (id := 26) Z0 Z1 Z1a (by kernel_rfl) ?_ | refine ADD.mk (fun _ _ => ?_) | refine AD ?_ | refine FORK.mk ?_ ?_ | (refine GET.at (row := w32 ((L8 v).getD i 0)) (by rw [show ((i : Nat) : Int).toNat = i by omega]; exact XN (by show i < 8; omega)) ?_; conv => whnf) | (refine GET.at (row := w32 (l.getD i 0)) (by rw [show ((i : Nat) : Int).toNat = i by omega]; exact XN (by omega)) ?_; conv => whnf) | refine AU ?_ | (refine IW (fun h => ?_) (fun h => ?_) <;> try (exfalso; omega))) <;> conv => whnf)
       refine ⟨(i + 1, WI s v (i + 1)), ⟨by simp only; omega, rfl⟩, by simp only; omega, ?_⟩
       dsimp only
       conv => whnf
       (refine GOES.cutting h0 rfl rfl rfl (by first | rfl | (simp only [Zi, Zg, Z9 _ (ZO _), Bool.and_self, Bool.and_true] <;> rfl)) ?_ ?_ <;> (repeat' (first | (with_reducible rfl) | (exact ZY rfl (by first | (simp; done) | omega | (simp; omega))) | (exact congrArg (SV.int _) (by first | omega | (simp (disch := omega) only [lnB, Zc, Zm] <;> omega) | (simp; done) | (simp <;> omega))) | (exact congrArg (Hp.rows _) (by (rw [Z27, show ((i : Nat) : Int).toNat = i by omega, UB, hls, hl, Z0r s v h]))) | ((conv => whnf); refine ⟨?_, ?_⟩) | exact trivial | rfl)))
     · have h : i = 8 := by simp at h; omega
       subst h
       subst hl
       conv => whnf
       repeat' ((first | (refine NEED.mk (by and_intros <;> (first | rfl | omega)) ?_; conv => whnf) | refine AU ?_ | (refine IW (fun h => ?_) (fun h => ?_) <;> try (exfalso; omega))) <;> conv => whnf)
       exact FIN.arrAgg h0 rfl ⟨rfl, rfl, rfl⟩
def Z39 : Plan := (ZV [(0, 1), (1, 1), (2, 1), (3, 1), (4, 1), (8, 1), (9, 1), (10, 1), (11, 1), (12, 1), (17, 1), (18, 1), (19, 1), (20, 1), (21, 1), (26, 1), (27, 1), (28, 1), (29, 1), (30, 1), (5, 2), (6, 1), (7, 1), (13, 2), (14, 1), (15, 1), (16, 1), (22, 2), (23, 1), (24, 1), (25, 1), (31, 2), (32, 1), (33, 1), (34, 1), (35, 0)])
def WJ : Plan := (ZV [(0, 1), (1, 1), (2, 1), (5, 1), (6, 1), (7, 1), (11, 1), (12, 1), (13, 1), (3, 2), (8, 2), (14, 2), (15, 1), (4, 3), (9, 3), (10, 1), (16, 1), (17, 1)])
def Z3a : Plan := (ZV [(0, 1), (1, 1), (2, 1), (3, 1), (4, 1), (7, 1), (9, 1), (10, 1), (11, 1), (5, 2), (6, 1), (8, 1), (12, 2), (13, 1), (14, 1), (15, 0)])
theorem Z4P (a : BitVec 32) : iShl .u32 (Uw a) 24 = Uw (a <<< 24) := Z35 a 24 (by decide)
theorem Z4Q (a : BitVec 32) : iShl .u32 (Uw a) 16 = Uw (a <<< 16) := Z35 a 16 (by decide)
theorem Z29 : Does Tryd.prog tab 17 0 [] [] [] (Val (.agg (Uy Yf))) := by
 refine Does.enter Z0 (g := 17) (fn := Tryd.f17) Tryd.call17 Tryd.func17 rfl 2 rfl rfl [.cell 0 41] rfl ?_
 intro w0 F η0 h0
 conv => whnf
 repeat' ((first | (refine NEED.mk (by and_intros <;> (first | rfl | omega)) ?_; conv => whnf) | refine AU ?_ | (refine IW (fun h => ?_) (fun h => ?_) <;> try (exfalso; omega))) <;> conv => whnf)
 exact FIN.arrAgg h0 rfl ⟨rfl, rfl, rfl⟩
theorem Z3b : Does Tryd.prog tab 21 0 [] [] [] (Val (.arr 1 (keyL.map w32))) := by
 refine Does.enter Z0 (g := 21) (fn := Tryd.f21) Tryd.call21 Tryd.func21 rfl 2 rfl rfl [.cell 0 46] rfl ?_
 intro w0 F η0 h0
 conv => whnf
 repeat' ((first | (refine NEED.mk (by and_intros <;> (first | rfl | omega)) ?_; conv => whnf) | refine AU ?_ | (refine IW (fun h => ?_) (fun h => ?_) <;> try (exfalso; omega))) <;> conv => whnf)
 exact FIN.value h0 rfl rfl
def W9 (l : List (BitVec 32)) (i : Nat) : List (BitVec 32) := l.take (i + 1) ++ (l.drop i).take (7 - i)
theorem Z2a (s : S8) {i : Nat} (h : i + 1 < 8) : (W9 (L8 s) (i + 1)).set (i + 1) ((L8 s).getD i 0) = W9 (L8 s) i := by
 match i, h with
 | 0, _ => rfl
 | 1, _ => rfl
 | 2, _ => rfl
 | 3, _ => rfl
 | 4, _ => rfl
 | 5, _ => rfl
 | 6, _ => rfl
theorem Z2b (s : S8) {i : Nat} (h : i + 1 < 8) : (W9 (L8 s) (i + 1)).getD i 0 = (L8 s).getD i 0 := by
 match i, h with
 | 0, _ => rfl
 | 1, _ => rfl
 | 2, _ => rfl
 | 3, _ => rfl
 | 4, _ => rfl
 | 5, _ => rfl
 | 6, _ => rfl
theorem Z2c (s : S8) {i : Nat} (h : i < 8) : (W9 (L8 s) i).length = 8 := by
 match i, h with
 | 0, _ => rfl
 | 1, _ => rfl
 | 2, _ => rfl
 | 3, _ => rfl
 | 4, _ => rfl
 | 5, _ => rfl
 | 6, _ => rfl
 | 7, _ => rfl
set_option maxHeartbeats 4000000 in
theorem Z2d (b : List UInt8) (r n : Nat) (hr : r + n ≤ b.length) (hn : 64 ≤ n) (hb : b.length ≤ 140737488355328) : Does Tryd.prog tab 20 1 [.sl (.loc 0) r 1 n none] [] [(0, .rows 1 (b.map Sx.bytesRow))] (ValK 1 (.arr 1 ((warr (b.drop r) 64).map w32))) := by
 refine Does.enter Z0 (g := 20) (fn := Tryd.f20) Tryd.call20 Tryd.func20 rfl 101 rfl rfl [.cell 2 46] rfl ?_
 intro w0 F η0 h0
 conv => whnf
 repeat' ((first | refine AU ?_ | (refine IW (fun h => ?_) (fun h => ?_) <;> try (exfalso; omega))) <;> conv => whnf)
 refine LOOP.go Z0 [0, 2, 3] (X := Nat × List (BitVec 32)) (fun x => x.1 ≤ 16 ∧ x.2 = warr (b.drop r) x.1) (fun x => [(4, .int .i64 (x.1 : Int))]) (fun x => [(1, .rows 1 ((warr [] 0).map w32)), (2, .rows 1 (x.2.map w32))]) 3 (fun x => 16 - x.1) (0, warr (b.drop r) 0) ⟨by simp, rfl⟩ ?_
 conv => whnf
 refine ⟨by (refine GOES.cutting h0 rfl rfl rfl (by first | rfl | simp [Zi, Zg, Z9, Yt, Y9, plain]) ?_ ?_ <;> (repeat' (first | (exact congrArg (Hp.rows _) rfl) | (with_reducible rfl) | (exact congrArg (fun n => SV.sl _ _ _ n _) (by simp)) | (exact congrArg (Hp.rows _) (by simp)) | (exact congrArg (SV.int _) (by first | omega | (simp (disch := omega) only [lnB, Zc, Zm] <;> omega) | (simp; done) | (simp <;> omega))) | ((conv => whnf); refine ⟨?_, ?_⟩) | exact trivial | (simp; done) | rfl))), ?_⟩
 rintro ⟨t, ws⟩ ⟨ht, hws⟩
 dsimp only at ht hws ⊢
 have hwl : ws.length = 64 := by rw [hws, WF _ (by omega)]
 conv => whnf
 refine IF.mk (fun h => ?_) (fun h => ?_)
 · have h : t < 16 := by simp at h; omega
   have hw4 : IntKind.i64.wrap (4 * (t : Int)) = ((4 * t : Nat) : Int) := by rw [Zc (by omega) (by omega)]; omega
   have hw41 : IntKind.i64.wrap (((4 * t : Nat) : Int) + 1) = ((4 * t + 1 : Nat) : Int) := by rw [Zc (by omega) (by omega)]; omega
   have hw42 : IntKind.i64.wrap (((4 * t : Nat) : Int) + 2) = ((4 * t + 2 : Nat) : Int) := by rw [Zc (by omega) (by omega)]; omega
   have hw43 : IntKind.i64.wrap (((4 * t : Nat) : Int) + 3) = ((4 * t + 3 : Nat) : Int) := by rw [Zc (by omega) (by omega)]; omega
   have g0 : ∀ k, k < 4 → (b.map Sx.bytesRow)[r + (((4 * t + k : Nat) : Int)).toNat]? = some (Sx.bytesRow (b.getD (r + (4 * t + k)) 0)) := fun k hk => by rw [Int.toNat_natCast]; exact YR (by omega)
   conv => whnf
   repeat' ((first | refine DRAWN.of (id := 5) Z0 Z1 Z39 (by kernel_rfl) ?_ | refine DRAWN.of (id := 9) Z0 Z1 WJ (by kernel_rfl) ?_ | refine DRAWN.of (id := 10) Z0 Z1 WJ (by kernel_rfl) ?_ | refine DRAWN.of (id := 11) Z0 Z1 Z3a (by kernel_rfl) ?_ | refine ADD.mk (fun _ _ => ?_) | refine AD ?_ | refine FORK.mk ?_ ?_ | (rw [hw4]; conv => whnf) | (rw [hw41]; conv => whnf) | (rw [hw42]; conv => whnf) | (rw [hw43]; conv => whnf) | (refine GET.at (g0 0 (by omega)) ?_; conv => whnf) | (refine GET.at (g0 1 (by omega)) ?_; conv => whnf) | (refine GET.at (g0 2 (by omega)) ?_; conv => whnf) | (refine GET.at (g0 3 (by omega)) ?_; conv => whnf) | (refine GET.at (row := w32 (ws.getD t 0)) (by rw [show (t : Int).toNat = t by omega]; exact XN (by omega)) ?_; conv => whnf) | refine AU ?_ | (refine IW (fun h => ?_) (fun h => ?_) <;> try (exfalso; omega))) <;> conv => whnf)
   refine ⟨(t + 1, warr (b.drop r) (t + 1)), ⟨by simp only; omega, rfl⟩, by simp only; omega, ?_⟩
   dsimp only
   have htn : ((t : Nat) : Int).toNat = t := by omega
   have hfin : ∀ X, X = XJ (b.drop r) (Yh (b.drop r) t) t → (ws.map w32).set t [.int .u32 (Uw X)] = (warr (b.drop r) (t + 1)).map w32 := fun X hX => by rw [UB, hws, VA _ (by omega) X hX]
   conv => whnf
   (refine GOES.cutting h0 rfl rfl rfl (by first | rfl | (simp only [Zi, Zg, Z9 _ (ZO _), Bool.and_self, Bool.and_true] <;> rfl)) ?_ ?_ <;> (repeat' (first | (with_reducible rfl) | (exact ZY rfl (by first | (simp; done) | omega | (simp; omega))) | (exact congrArg (SV.int _) (by first | omega | (simp (disch := omega) only [lnB, Zc, Zm] <;> omega) | (simp; done) | (simp <;> omega))) | (exact congrArg (Hp.rows _) (by (simp only [Z4n, Z4P, Z4Q, Z4o, uwOr, htn]; exact hfin _ (by unfold XJ W4; rw [if_pos h]; simp only [Z37, Nat.add_zero])))) | ((conv => whnf); refine ⟨?_, ?_⟩) | exact trivial | rfl)))
 · have h : t = 16 := by simp at h; omega
   subst h
   conv => whnf
   repeat' ((first | refine AU ?_ | (refine IW (fun h => ?_) (fun h => ?_) <;> try (exfalso; omega))) <;> conv => whnf)
   refine LOOP.go Z0 [2, 3] (X := Nat × List (BitVec 32)) (fun x => 16 ≤ x.1 ∧ x.1 ≤ 64 ∧ x.2 = warr (b.drop r) x.1) (fun x => [(5, .int .i64 (x.1 : Int))]) (fun x => [(1, .rows 1 ((warr [] 0).map w32)), (2, .rows 1 (x.2.map w32))]) 3 (fun x => 64 - x.1) (16, ws) ⟨by simp, by simp, hws⟩ ?_
   conv => whnf
   refine ⟨by (refine GOES.cutting h0 rfl rfl rfl (by first | rfl | (simp only [Zi, Zg, Z9 _ (ZO _), Bool.and_self, Bool.and_true] <;> rfl)) ?_ ?_ <;> (repeat' (first | (with_reducible rfl) | (exact ZY rfl (by first | (simp; done) | omega | (simp; omega))) | (exact congrArg (SV.int _) (by first | omega | (simp (disch := omega) only [lnB, Zc, Zm] <;> omega) | (simp; done) | (simp <;> omega))) | (exact congrArg (Hp.rows _) (by rfl)) | ((conv => whnf); refine ⟨?_, ?_⟩) | exact trivial | rfl))), ?_⟩
   rintro ⟨t, ws⟩ ⟨ht1, ht, hws⟩
   dsimp only at ht1 ht hws ⊢
   have hwl : ws.length = 64 := by rw [hws, WF _ (by omega)]
   have hg : ∀ i, i < t → (ws.map w32)[i]? = some (w32 ((Yh (b.drop r) t).getD i 0)) := fun i hi => by rw [XN (by omega), hws, UC _ hi ht]
   conv => whnf
   refine IF.mk (fun h => ?_) (fun h => ?_)
   · have h : t < 64 := by simp at h; omega
     have htn : ((t : Nat) : Int).toNat = t := by omega
     have hfin : ∀ X, X = XJ (b.drop r) (Yh (b.drop r) t) t → (ws.map w32).set t [.int .u32 (Uw X)] = (warr (b.drop r) (t + 1)).map w32 := fun X hX => by rw [UB, hws, VA _ h X hX]
     have h15 : (IntKind.i64.wrap ((t : Int) - 15)).toNat = t - 15 := by rw [Zc (by omega) (by omega)]; omega
     have h2 : (IntKind.i64.wrap ((t : Int) - 2)).toNat = t - 2 := by rw [Zc (by omega) (by omega)]; omega
     have h7 : (IntKind.i64.wrap ((t : Int) - 7)).toNat = t - 7 := by rw [Zc (by omega) (by omega)]; omega
     have h16 : (IntKind.i64.wrap ((t : Int) - 16)).toNat = t - 16 := by rw [Zc (by omega) (by omega)]; omega
     conv => whnf
     repeat' ((first | refine DRAWN.of (id := 5) Z0 Z1 Z39 (by kernel_rfl) ?_ | refine DRAWN.of (id := 9) Z0 Z1 WJ (by kernel_rfl) ?_ | refine DRAWN.of (id := 10) Z0 Z1 WJ (by kernel_rfl) ?_ | refine DRAWN.of (id := 11) Z0 Z1 Z3a (by kernel_rfl) ?_ | refine ADD.mk (fun _ _ => ?_) | refine AD ?_ | refine FORK.mk ?_ ?_ | refine CALL.value (UA _ _ (by decide)) rfl rfl ?_ | (refine GET.at (row := w32 ((Yh (b.drop r) t).getD (t - 15) 0)) (by rw [h15]; exact hg _ (by omega)) ?_; conv => whnf) | (refine GET.at (row := w32 ((Yh (b.drop r) t).getD (t - 2) 0)) (by rw [h2]; exact hg _ (by omega)) ?_; conv => whnf) | (refine GET.at (row := w32 ((Yh (b.drop r) t).getD (t - 7) 0)) (by rw [h7]; exact hg _ (by omega)) ?_; conv => whnf) | (refine GET.at (row := w32 ((Yh (b.drop r) t).getD (t - 16) 0)) (by rw [h16]; exact hg _ (by omega)) ?_; conv => whnf) | (refine GET.at (row := w32 (ws.getD t 0)) (by rw [htn]; exact XN (by omega)) ?_; conv => whnf) | refine AU ?_ | (refine IW (fun h => ?_) (fun h => ?_) <;> try (exfalso; omega))) <;> conv => whnf)
     refine ⟨(t + 1, warr (b.drop r) (t + 1)), ⟨by simp only; omega, by simp only; omega, rfl⟩, by simp only; omega, ?_⟩
     dsimp only
     conv => whnf
     (refine GOES.cutting h0 rfl rfl rfl (by first | rfl | (simp only [Zi, Zg, Z9 _ (ZO _), Bool.and_self, Bool.and_true] <;> rfl)) ?_ ?_ <;> (repeat' (first | (with_reducible rfl) | (exact ZY rfl (by first | (simp; done) | omega | (simp; omega))) | (exact congrArg (SV.int _) (by first | omega | (simp (disch := omega) only [lnB, Zc, Zm] <;> omega) | (simp; done) | (simp <;> omega))) | (exact congrArg (Hp.rows _) (by (simp only [Z36, Z4p, Z34, Z27, Int.reduceToNat, htn]; exact hfin _ (by unfold XJ; rw [if_neg (by omega)])))) | ((conv => whnf); refine ⟨?_, ?_⟩) | exact trivial | rfl)))
   · have h : t = 64 := by simp at h; omega
     conv => whnf
     repeat' ((first | (refine NEED.mk (by and_intros <;> (first | rfl | (simp; omega))) ?_; conv => whnf) | refine AU ?_ | (refine IW (fun h => ?_) (fun h => ?_) <;> try (exfalso; omega))) <;> conv => whnf)
     rw [← h, ← hws]
     exact FIN.valueK h0 (ZO _) rfl
def Z3c : Plan := (ZV [(0, 1), (2, 1), (4, 1), (7, 1), (11, 1), (12, 1), (15, 1), (16, 1), (17, 1), (22, 1), (23, 1), (26, 1), (27, 1), (1, 2), (13, 2), (14, 1), (18, 2), (19, 1), (20, 1), (24, 2), (28, 2), (3, 3), (5, 3), (6, 1), (8, 3), (9, 1), (10, 1), (21, 1), (25, 1), (29, 1), (30, 1)])
def Z3d : Plan := (ZV [(0, 1), (2, 1), (5, 1), (8, 1), (9, 1), (12, 1), (13, 1), (17, 1), (19, 1), (10, 2), (11, 1), (14, 2), (15, 1), (16, 1), (18, 2), (20, 2), (21, 1), (22, 1), (1, 3), (3, 3), (4, 1), (6, 3), (7, 1), (23, 1), (24, 1)])
def Z3e : Plan := (ZV [(0, 1), (1, 1), (2, 1), (4, 1), (5, 1), (3, 2), (6, 2), (7, 1), (8, 1), (9, 0)])
theorem Z5i (b : List UInt8) : warr b 64 = Yh b 64 := by unfold warr; simp
set_option maxHeartbeats 4000000 in
theorem Z1b (s : S8) (b : List UInt8) (r n : Nat) (hr : r + n ≤ b.length) (hn : 64 ≤ n) (hb : b.length ≤ 140737488355328) : Does Tryd.prog tab 18 1 [.agg (Uy s), .sl (.loc 0) r 1 n none] [] [(0, .rows 1 (b.map Sx.bytesRow))] (ValK 1 (.agg (Uy (J3 s (b.drop r))))) := by
 obtain ⟨W, hW⟩ : ∃ W, W = Yh (b.drop r) 64 := ⟨_, rfl⟩
 have hwl : W.length = 64 := by rw [hW, YJ]
 have hwg : ∀ i, i < 64 → (W.map w32)[i]? = some (w32 (W.getD i 0)) := fun i hi => XN (by omega)
 have hkg : ∀ i, i < 64 → (keyL.map w32)[i]? = some (w32 (keyL.getD i 0)) := fun i hi => XN (by show i < 64; omega)
 have hwd := Z2d b r n hr hn hb
 rw [Z5i, ← hW] at hwd
 unfold J3
 rw [← hW]
 clear hW
 refine Does.enter Z0 (g := 18) (fn := Tryd.f18) Tryd.call18 Tryd.func18 rfl 114 rfl rfl [.cell 4 41] rfl ?_
 intro w0 F η0 h0
 conv => whnf
 repeat' ((first | (refine NEED.mk (by and_intros <;> (first | rfl | (simp; omega))) ?_; conv => whnf) | (refine CALL.look1 0 hwd rfl rfl rfl rfl (Z2 _) (ZO _) ?_; conv => whnf) | (refine CALL.value Z3b rfl (ZO _) ?_; conv => whnf) | refine AU ?_ | (refine IW (fun h => ?_) (fun h => ?_) <;> try (exfalso; omega))) <;> conv => whnf)
 refine LOOP.go Z0 [2, 4, 5, 6, 7] (X := Nat × S8) (fun x => x.1 ≤ 64 ∧ x.2 = rnds keyL W s x.1) (fun x => [(8, .int .i64 (x.1 : Int))]) (fun x => [(1, .rows 1 (Uz s)), (2, .rows 1 z8), (3, .rows 1 (W.map w32)), (4, .rows 1 (keyL.map w32)), (5, .rows 1 (Uz x.2))]) 6 (fun x => 64 - x.1) (0, s) ⟨by simp only; omega, rfl⟩ ?_
 conv => whnf
 refine ⟨by (refine GOES.cutting h0 rfl rfl rfl (by first | rfl | (simp only [Zi, Zg, Z9 _ (ZO _), Bool.and_self, Bool.and_true] <;> rfl)) ?_ ?_ <;> (repeat' (first | (with_reducible rfl) | (exact ZY rfl (by first | (simp; done) | omega | (simp; omega))) | (exact congrArg (SV.int _) (by first | omega | (simp (disch := omega) only [lnB, Zc, Zm] <;> omega) | (simp; done) | (simp <;> omega))) | (exact congrArg (Hp.rows _) (by rfl)) | ((conv => whnf); refine ⟨?_, ?_⟩) | exact trivial | rfl))), ?_⟩
 rintro ⟨i, v⟩ ⟨hi, hv⟩
 dsimp only at hi hv ⊢
 conv => whnf
 refine IF.mk (fun h => ?_) (fun h => ?_)
 · have h : i < 64 := by simp at h; omega
   have hin : ((i : Nat) : Int).toNat = i := by omega
   conv => whnf
   repeat' ((first | refine DRAWN.of (id := 9) Z0 Z1 Z3c (by kernel_rfl) ?_ | refine DRAWN.of (id := 10) Z0 Z1 Z3d (by kernel_rfl) ?_ | refine DRAWN.of (id := 20) Z0 Z1 Z3e (by kernel_rfl) ?_ | refine ADD.mk (fun _ _ => ?_) | refine AD ?_ | refine FORK.mk ?_ ?_ | refine CALL.value (UA _ _ (by decide)) rfl rfl ?_ | (refine NEED.mk (by and_intros <;> (first | rfl | omega)) ?_; conv => whnf) | (refine GET.at (row := w32 (W.getD i 0)) (by rw [hin]; exact hwg i h) ?_; conv => whnf) | (refine GET.at (row := w32 (keyL.getD i 0)) (by rw [hin]; exact hkg i h) ?_; conv => whnf) | refine AU ?_ | (refine IW (fun h => ?_) (fun h => ?_) <;> try (exfalso; omega))) <;> conv => whnf)
   refine LOOP.go Z0 [2, 4, 5, 6, 7, 8, 11, 12] (X := Nat × List (BitVec 32)) (fun x => x.1 < 8 ∧ x.2 = W9 (L8 v) x.1) (fun x => [(13, .int .i64 (x.1 : Int))]) (fun x => [(1, .rows 1 (Uz s)), (2, .rows 1 z8), (3, .rows 1 (W.map w32)), (4, .rows 1 (keyL.map w32)), (5, .rows 1 (x.2.map w32))]) 6 (fun x => x.1) (7, L8 v) ⟨by simp, rfl⟩ ?_
   conv => whnf
   refine ⟨by (refine GOES.cutting h0 rfl rfl rfl (by first | rfl | (simp only [Zi, Zg, Z9 _ (ZO _), Bool.and_self, Bool.and_true] <;> rfl)) ?_ ?_ <;> (repeat' (first | (with_reducible rfl) | (exact ZY rfl (by first | (simp; done) | omega | (simp; omega))) | (exact congrArg (SV.int _) (by first | omega | (simp (disch := omega) only [lnB, Zc, Zm] <;> omega) | (simp; done) | (simp <;> omega))) | (exact congrArg (Hp.rows _) (by rfl)) | ((conv => whnf); refine ⟨?_, ?_⟩) | exact trivial | rfl))), ?_⟩
   rintro ⟨j, l⟩ ⟨hj, hl⟩
   dsimp only at hj hl ⊢
   conv => whnf
   refine IF.mk (fun h2 => ?_) (fun h2 => ?_)
   · obtain ⟨j, rfl⟩ : ∃ m, j = m + 1 := ⟨j - 1, by simp at h2; omega⟩
     have hll : l.length = 8 := by rw [hl, Z2c v hj]
     have hlg : l.getD j 0 = (L8 v).getD j 0 := by rw [hl, Z2b v hj]
     have hw1 : (IntKind.i64.wrap (((j + 1 : Nat) : Int) - 1)).toNat = j := by rw [Zc (by omega) (by omega)]; omega
     have hw2 : IntKind.i64.wrap (((j + 1 : Nat) : Int) - 1) = (j : Int) := by rw [Zc (by omega) (by omega)]; omega
     conv => whnf
     repeat' ((first | (refine GET.at (row := w32 (l.getD j 0)) (by rw [hw1]; exact XN (by omega)) ?_; conv => whnf) | (refine GET.at (row := w32 (l.getD (j + 1) 0)) (by rw [show ((j + 1 : Nat) : Int).toNat = j + 1 by omega]; exact XN (by omega)) ?_; conv => whnf) | refine AU ?_ | (refine IW (fun h => ?_) (fun h => ?_) <;> try (exfalso; omega))) <;> conv => whnf)
     refine ⟨(j, W9 (L8 v) j), ⟨by simp only; omega, rfl⟩, by simp only; omega, ?_⟩
     dsimp only
     conv => whnf
     (refine GOES.cutting h0 rfl rfl rfl (by first | rfl | (simp only [Zi, Zg, Z9 _ (ZO _), Bool.and_self, Bool.and_true] <;> rfl)) ?_ ?_ <;> (repeat' (first | (with_reducible rfl) | (exact ZY rfl (by first | (simp; done) | omega | (simp; omega))) | (exact congrArg (SV.int _) (by first | omega | (simp (disch := omega) only [lnB, Zc, Zm] <;> omega) | (simp; done) | (simp <;> omega))) | (exact congrArg (Hp.rows _) (by (rw [show ((j + 1 : Nat) : Int).toNat = j + 1 by omega, UB, hlg, hl, Z2a v hj]))) | ((conv => whnf); refine ⟨?_, ?_⟩) | exact trivial | rfl)))
   · have h2 : j = 0 := by simp at h2; omega
     subst h2
     subst hl
     conv => whnf
     repeat' ((first | (refine NEED.mk (by and_intros <;> (first | rfl | omega)) ?_; conv => whnf) | refine AU ?_ | (refine IW (fun h => ?_) (fun h => ?_) <;> try (exfalso; omega))) <;> conv => whnf)
     refine ⟨(i + 1, rnd (keyL.getD i 0) (W.getD i 0) v), ⟨by simp only; omega, by simp only [hv]; rfl⟩, by simp only; omega, ?_⟩
     dsimp only
     conv => whnf
     (refine GOES.cutting h0 rfl rfl rfl (by first | rfl | (simp only [Zi, Zg, Z9 _ (ZO _), Bool.and_self, Bool.and_true] <;> rfl)) ?_ ?_ <;> (repeat' (first | (with_reducible rfl) | (exact congrArg (SV.int _) (by simp (disch := omega) only [lnB, Zc] <;> omega)) | (exact congrArg (Hp.rows _) (by simp only [Z5h, Z34, Z27, Z5g, Int.reduceToNat]; rfl)) | ((conv => whnf); refine ⟨?_, ?_⟩) | exact trivial | rfl)))
 · have h : i = 64 := by simp at h; omega
   subst h
   rw [← hv]
   clear hv
   conv => whnf
   repeat' ((first | refine AU ?_ | (refine IW (fun h => ?_) (fun h => ?_) <;> try (exfalso; omega))) <;> conv => whnf)
   refine LOOP.go Z0 [2, 4, 7] (X := Nat × List (BitVec 32)) (fun x => x.1 ≤ 8 ∧ x.2 = WI s v x.1) (fun x => [(14, .int .i64 (x.1 : Int))]) (fun x => [(1, .rows 1 (x.2.map w32)), (2, .rows 1 z8), (5, .rows 1 ((L8 v).map w32))]) 6 (fun x => 8 - x.1) (0, L8 s) ⟨by simp only; omega, rfl⟩ ?_
   conv => whnf
   refine ⟨by (refine GOES.cutting h0 rfl rfl rfl (by first | rfl | (simp only [Zi, Zg, Z9 _ (ZO _), Bool.and_self, Bool.and_true] <;> rfl)) ?_ ?_ <;> (repeat' (first | (with_reducible rfl) | (exact ZY rfl (by first | (simp; done) | omega | (simp; omega))) | (exact congrArg (SV.int _) (by first | omega | (simp (disch := omega) only [lnB, Zc, Zm] <;> omega) | (simp; done) | (simp <;> omega))) | (exact congrArg (Hp.rows _) (by rfl)) | ((conv => whnf); refine ⟨?_, ?_⟩) | exact trivial | rfl))), ?_⟩
   rintro ⟨i, l⟩ ⟨hi, hl⟩
   dsimp only at hi hl ⊢
   have hll : l.length = 8 := by rw [hl, Z0p hi]
   conv => whnf
   refine IF.mk (fun h => ?_) (fun h => ?_)
   · have h : i < 8 := by simp at h; omega
     have hls : l.getD i 0 = (L8 s).getD i 0 := by rw [hl, Z0q s v h]
     conv => whnf
     repeat' ((first | refine DRAWN.of (id := 9) Z0 Z1 Z3c (by kernel_rfl) ?_ | refine DRAWN.of (id := 10) Z0 Z1 Z3d (by kernel_rfl) ?_ | refine DRAWN.of (id := 20) Z0 Z1 Z3e (by kernel_rfl) ?_ | refine ADD.mk (fun _ _ => ?_) | refine AD ?_ | refine FORK.mk ?_ ?_ | (refine GET.at (row := w32 ((L8 v).getD i 0)) (by rw [show ((i : Nat) : Int).toNat = i by omega]; exact XN (by show i < 8; omega)) ?_; conv => whnf) | (refine GET.at (row := w32 (l.getD i 0)) (by rw [show ((i : Nat) : Int).toNat = i by omega]; exact XN (by omega)) ?_; conv => whnf) | refine AU ?_ | (refine IW (fun h => ?_) (fun h => ?_) <;> try (exfalso; omega))) <;> conv => whnf)
     refine ⟨(i + 1, WI s v (i + 1)), ⟨by simp only; omega, rfl⟩, by simp only; omega, ?_⟩
     dsimp only
     conv => whnf
     (refine GOES.cutting h0 rfl rfl rfl (by first | rfl | (simp only [Zi, Zg, Z9 _ (ZO _), Bool.and_self, Bool.and_true] <;> rfl)) ?_ ?_ <;> (repeat' (first | (with_reducible rfl) | (exact ZY rfl (by first | (simp; done) | omega | (simp; omega))) | (exact congrArg (SV.int _) (by first | omega | (simp (disch := omega) only [lnB, Zc, Zm] <;> omega) | (simp; done) | (simp <;> omega))) | (exact congrArg (Hp.rows _) (by (rw [Z27, show ((i : Nat) : Int).toNat = i by omega, UB, hls, hl, Z0r s v h]))) | ((conv => whnf); refine ⟨?_, ?_⟩) | exact trivial | rfl)))
   · have h : i = 8 := by simp at h; omega
     subst h
     subst hl
     conv => whnf
     repeat' ((first | (refine NEED.mk (by and_intros <;> (first | rfl | omega)) ?_; conv => whnf) | refine AU ?_ | (refine IW (fun h => ?_) (fun h => ?_) <;> try (exfalso; omega))) <;> conv => whnf)
     exact FIN.arrAgg h0 rfl ⟨rfl, rfl, rfl⟩
theorem Z0s {P : Program} {T : Tab} {f : FuncId} {k : Nat} {args args' : List SV} {O S : Hps} {Q : SV → Hps → Nat → Prop} (h : Does P T f k args O S Q) (hd : ∀ η vs, DenL η args' vs → DenL η args vs) : Does P T f k args' O S Q :=
 ⟨fun M vs h1 h2 h3 h4 h5 h6 => h.out M vs h1 h2 h3 h4 h5 (hd _ _ h6)⟩
theorem Z0t {η : Env} {s : S8} {xs : List SV} {vs : List Value} (h : DenL η (.arr 1 (Uz s) :: xs) vs) : DenL η (.agg (Uy s) :: xs) vs := by
 simp only [DenL] at h ⊢
 obtain ⟨u, us, h1, h2, h3⟩ := h
 exact ⟨u, us, h1, Jj h2, h3⟩
theorem CALL.bytes1 {M : Mx} {O : Hps} {nx : Nat} {f : FuncId} {args argsc : List SV} {K : SV → Hps → Nat → Prop} {es : Nat} {rs : List (List SV)} {l : List UInt8} (i : Nat) (sp : Does M.P M.C.T f 1 argsc [] [(0, .rows es rs)] (YE 1 l))
   (ha : args = renL (Zu [i] nx) argsc) (hi : Nat.blt i nx = true) (hb : Zr 1 argsc = true) (hO : ZR M.C O (.loc i) = some (.rows es rs)) (hp : Zw rs = true) (hK : K (.sl (.loc nx) 0 1 l.length none) ((nx, .rows 1 (l.map Sx.bytesRow)) :: O) (nx + 1)) : CALL M f args O nx K := by
 refine CALL.of [i] sp rfl (fun j hj => by simp [Nat.blt_eq] at hi hj; omega) ha hb (fun p hp => by cases hp) (fun j hj => by cases hj) (fun p hp' => ?_) ?_
 · have hp' := List.mem_singleton.1 hp'
   subst hp'
   refine ⟨by simp, ?_, Y3 _ hp, by simp [Zk]⟩
   rw [show renH (Zu [i] nx) (.rows es rs) = .rows es rs from Zd _ hp]
   exact hO
 · rintro r' O' nx' ⟨rfl, rfl, rfl⟩
   simp only [ren, renB, renO, renH, Zf _ (Z2 l), WC (L := [i]) (nx := nx) (k := 1) rfl, Zk, List.map_nil, X7, List.cons_append, List.nil_append]
   exact hK
theorem UD {n k : Nat} (hk : k ≤ ZJ n) : (n + 1 + k) % 64 = 56 ↔ k = ZJ n := by unfold ZJ at *; omega
theorem Z1G (N : Nat) {k : Nat} (h : k < 8) : (be8 N).take k ++ [Jn N (7 - k)] = (be8 N).take (k + 1) := by
 match k, h with
 | 0, _ => rfl
 | 1, _ => rfl
 | 2, _ => rfl
 | 3, _ => rfl
 | 4, _ => rfl
 | 5, _ => rfl
 | 6, _ => rfl
 | 7, _ => rfl
theorem Z5j {N : Nat} : IntKind.u8.wrap (N : Int) = ((UInt8.ofNat (N % 256)).toNat : Int) := by
 rw [IntKind.wrap_u8']
 have : (UInt8.ofNat (N % 256)).toNat = N % 256 := by simp
 rw [this]; omega
theorem beI {N : Nat} {e : Int} {k : Nat} (hk : k < 8) (he : e = 8 * ((7 - k : Nat) : Int)) : [SV.int .u8 (IntKind.u8.wrap (iShr .u64 (N : Int) e))] = Sx.bytesRow (Jn N (7 - k)) := by
 subst he
 have h1 : iShr .u64 (N : Int) (8 * ((7 - k : Nat) : Int)) = ((N / 2 ^ (8 * (7 - k)) : Nat) : Int) := by
   unfold iShr
   rw [show (8 * ((7 - k : Nat) : Int)).toNat = 8 * (7 - k) by omega, Nat.min_eq_left (by show _ ≤ 64; omega), show (2 : Int) ^ (8 * (7 - k)) = ((2 ^ (8 * (7 - k)) : Nat) : Int) by norm_cast, Int.fdiv_eq_ediv_of_nonneg _ (Int.natCast_nonneg _)]
   norm_cast
 rw [h1, Z5j]
 rfl
theorem app1 {l : List UInt8} {m : Nat} {r : List SV} {c : UInt8} (hm : l.length ≤ m) (hr : r = Sx.bytesRow c) : List.take m (l.map Sx.bytesRow) ++ List.take 1 (List.drop 0 [r]) = (l ++ [c]).map Sx.bytesRow := by
 subst hr
 rw [List.take_of_length_le (by simpa using hm)]
 simp
set_option maxHeartbeats 4000000 in
theorem Z1c (b : List UInt8) (r n : Nat) (hr : r + n ≤ b.length) (hb : b.length ≤ 140737488351232) : Does Tryd.prog tab 16 1 [.sl (.loc 0) r 1 n none] [] [(0, .rows 1 (b.map Sx.bytesRow))] (YE 1 (padM ((b.drop r).take n) n)) := by
 obtain ⟨x, hx⟩ : ∃ x, x = (b.drop r).take n := ⟨_, rfl⟩
 have hxl : x.length = n := by rw [hx]; simp; omega
 have hno : ZJ n < 64 := by unfold ZJ; omega
 have hrow : ((b.map Sx.bytesRow).drop r).take n = x.map Sx.bytesRow := by rw [hx, List.map_take, List.map_drop]
 rw [← hx]
 refine Does.enter Z0 (g := 16) (fn := Tryd.f16) Tryd.call16 Tryd.func16 rfl 37 rfl rfl [.tmp 2] rfl ?_
 intro w0 F η0 h0
 conv => whnf
 repeat' ((first | (rw [hrow]; conv => whnf) | (refine NEED.mk (Yq 1 rfl rfl (by first | (simp; done) | (simp; omega)) (by first | (simp; done) | (simp; omega)) (by omega)) ?_; conv => whnf) | refine AU ?_ | (refine IW (fun h => ?_) (fun h => ?_) <;> try (exfalso; omega))) <;> conv => whnf)
 refine LOOP.go Z0 [0] (X := Nat) (fun k => k ≤ ZJ n) (fun k => [(3, .sl (.loc 1) 0 1 (n + 1 + k) none)]) (fun k => [(1, .rows 1 ((x ++ [128] ++ List.replicate k 0).map Sx.bytesRow))]) 2 (fun k => ZJ n - k) 0 (by omega) ?_
 conv => whnf
 refine ⟨by (refine GOES.keeping h0 [4] rfl rfl rfl (by first | rfl | (simp only [Zi, Zg, Z9 _ (Z2 _), Bool.and_self, Bool.and_true] <;> rfl)) ?_ ?_ <;> (repeat' (first | (with_reducible rfl) | (exact ZQ (Z2 _) (Zf _ (Z2 _))) | (exact ZQ (Z2 _) (by simp [Sx.bytesRow, hxl, XO, List.take_of_length_le])) | (exact ZY rfl (by first | (simp; done) | omega | (simp; omega))) | (exact congrArg (SV.int _) (by first | omega | (simp (disch := omega) only [lnB, Zc, Zm] <;> omega) | (simp; done) | (simp <;> omega))) | ((conv => whnf); refine ⟨?_, ?_⟩) | exact trivial | (simp only [ren, renB]; done) | rfl))), ?_⟩
 rintro k hk
 have hiff := UD hk
 have hmod : Int.tmod ((n + 1 + k : Nat) : Int) 64 = ((n + 1 + k) % 64 : Nat) := by rw [Int.tmod_eq_emod_of_nonneg (by omega)]; omega
 conv => whnf
 repeat' ((first | (rw [hmod]; conv => whnf) | (refine NEED.mk (Yq 1 rfl rfl (by first | (simp; done) | (simp; omega)) (by first | (simp; done) | (simp; omega)) (by omega)) ?_; conv => whnf) | refine AU ?_ | (refine IW (fun h => ?_) (fun h => ?_) <;> try (exfalso; omega))) <;> conv => whnf)
 · refine ⟨k + 1, by omega, by omega, ?_⟩
   conv => whnf
   (refine GOES.keeping h0 [3] rfl rfl rfl (by first | rfl | (simp only [Zi, Zg, Z9 _ (Z2 _), Bool.and_self, Bool.and_true] <;> rfl)) ?_ ?_ <;> (repeat' (first | (with_reducible rfl) | (exact ZQ (Z2 _) (Zf _ (Z2 _))) | (exact ZQ (Z2 _) (by (rw [List.replicate_succ', ← List.append_assoc]; exact app1 (by simp [hxl]; omega) rfl))) | (exact ZY rfl (by first | (simp; done) | omega | (simp; omega))) | (exact congrArg (SV.int _) (by first | omega | (simp (disch := omega) only [lnB, Zc, Zm] <;> omega) | (simp; done) | (simp <;> omega))) | ((conv => whnf); refine ⟨?_, ?_⟩) | exact trivial | (simp only [ren, renB]; done) | rfl)))
 · have hk : k = ZJ n := hiff.1 (by omega)
   obtain ⟨y, hy⟩ : ∃ y, y = x ++ [128] ++ List.replicate k 0 := ⟨_, rfl⟩
   have hyl : y.length = n + 1 + k := by rw [hy]; simp [hxl]; omega
   have hfin : padM x n = y ++ be8 (n * 8) := by rw [hy, hk, ← hxl]; rfl
   rw [← hy, hfin, ← hyl]
   have hN : IntKind.u64.wrap (IntKind.u64.wrap (n : Int) * 8) = ((n * 8 : Nat) : Int) := by rw [IntWalk.u64_in (n : Int) ⟨by omega, by omega⟩, IntWalk.u64_in _ ⟨by omega, by omega⟩]; omega
   clear hy hk hiff hmod h hfin
   repeat' ((first | (rw [hN]; conv => whnf) | refine AU ?_ | (refine IW (fun h => ?_) (fun h => ?_) <;> try (exfalso; omega))) <;> conv => whnf)
   refine LOOP.go Z0 [4] (X := Nat) (fun j => j ≤ 8) (fun j => [(3, .sl (.loc 1) 0 1 (y.length + j) none), (5, .int .i64 (j : Int))]) (fun j => [(1, .rows 1 ((y ++ (be8 (n * 8)).take j).map Sx.bytesRow))]) 2 (fun j => 8 - j) 0 (by omega) ?_
   conv => whnf
   refine ⟨by (refine GOES.keeping h0 [1] rfl rfl rfl (by first | rfl | (simp only [Zi, Zg, Z9 _ (Z2 _), Bool.and_self, Bool.and_true] <;> rfl)) ?_ ?_ <;> (repeat' (first | (with_reducible rfl) | (exact ZQ (Z2 _) (Zf _ (Z2 _))) | (exact ZQ (Z2 _) (by simp [Sx.bytesRow, XO, List.take_of_length_le])) | (exact ZY rfl (by first | (simp; done) | omega | (simp; omega))) | (exact congrArg (SV.int _) (by first | omega | (simp (disch := omega) only [lnB, Zc, Zm] <;> omega) | (simp; done) | (simp <;> omega))) | ((conv => whnf); refine ⟨?_, ?_⟩) | exact trivial | (simp only [ren, renB]; done) | rfl))), ?_⟩
   rintro j hj
   have htl : ((be8 (n * 8)).take j).length = j := by simp [be8]; omega
   conv => whnf
   refine IF.mk (fun h => ?_) (fun h => ?_)
   · have h : j < 8 := by simp at h; omega
     have hw : IntKind.i64.wrap (56 - IntKind.i64.wrap (8 * (j : Int))) = 8 * ((7 - j : Nat) : Int) := by rw [Zc (a := 8 * (j : Int)) (by omega) (by omega), Zc (by omega) (by omega)]; omega
     conv => whnf
     repeat' ((first | (rw [hw]; conv => whnf) | (refine NEED.mk (Yq 1 rfl rfl rfl (by rw [List.length_map, List.length_append, htl]; exact Nat.le_refl _) (by omega)) ?_; conv => whnf) | refine AU ?_ | (refine IW (fun h => ?_) (fun h => ?_) <;> try (exfalso; omega))) <;> conv => whnf)
     refine ⟨j + 1, by omega, by omega, ?_⟩
     conv => whnf
     (refine GOES.keeping h0 [3] rfl rfl rfl (by first | rfl | (simp only [Zi, Zg, Z9 _ (Z2 _), Bool.and_self, Bool.and_true] <;> rfl)) ?_ ?_ <;> (repeat' (first | (with_reducible rfl) | (exact ZQ (Z2 _) (Zf _ (Z2 _))) | (exact ZQ (Z2 _) (by (rw [← Z1G _ h, ← List.append_assoc]; exact app1 (by rw [List.length_append, htl]; exact Nat.le_refl _) (beI h rfl)))) | (exact ZY rfl (by first | (simp; done) | omega | (simp; omega))) | (exact congrArg (SV.int _) (by first | omega | (simp (disch := omega) only [lnB, Zc, Zm] <;> omega) | (simp; done) | (simp <;> omega))) | ((conv => whnf); refine ⟨?_, ?_⟩) | exact trivial | (simp only [ren, renB]; done) | rfl)))
   · have h : j = 8 := by simp at h; omega
     subst h
     conv => whnf
     exact FIN.rows h0 1 1 _ (by rw [List.length_append]; rfl) rfl rfl (Z2 _) ⟨rfl, rfl, rfl⟩
def Z4R : Plan := (ZV [(1, 1), (2, 1), (3, 1), (4, 1), (5, 1), (0, 2), (6, 0), (7, 0)])
theorem Z3V (s : S8) : Det (.arr 1 (Uz s)) := fun η u u' h h' => Det.of (v := .agg (Uy s)) rfl η u u' (Jj h) (Jj h')
def outP (s : S8) (m : Nat) : List UInt8 := (outB s).take m ++ List.replicate (32 - m) 0
theorem Z1H (s : S8) {m : Nat} (h : m ≤ 32) : (outP s m).length = 32 := by simp [outP, VB]; omega
theorem Z1I (s : S8) {m : Nat} (h : m < 32) (c : UInt8) (hc : c = (outB s).getD m 0) : (outP s m).set m c = outP s (m + 1) := by
 subst hc
 have hl : ((outB s).take m).length = m := by simp [VB]; omega
 unfold outP
 have ht : (outB s).take (m + 1) = (outB s).take m ++ [(outB s).getD m 0] := by
   rw [List.take_add_one, List.getD_eq_getElem?_getD, List.getElem?_eq_getElem (by rw [VB]; exact h)]; rfl
 rw [List.set_append_right _ _ (by omega), hl, Nat.sub_self, show 32 - m = (32 - (m + 1)) + 1 by omega, List.replicate_succ, List.set_cons_zero, ht, List.append_assoc]
 rfl
theorem Z0u (s : S8) : outP s 32 = outB s := by unfold outP; rw [List.take_of_length_le (by rw [VB]; exact Nat.le_refl _)]; simp
theorem Z1J (s : S8) {i k : Nat} (hi : i < 8) (hk : k < 4) : (outB s).getD (4 * i + k) 0 = UInt8.ofNat (((L8 s).getD i 0 >>> (24 - 8 * k)).toNat % 256) := by
 have h1 : i = 0 ∨ i = 1 ∨ i = 2 ∨ i = 3 ∨ i = 4 ∨ i = 5 ∨ i = 6 ∨ i = 7 := by omega
 have h2 : k = 0 ∨ k = 1 ∨ k = 2 ∨ k = 3 := by omega
 rcases h1 with rfl | rfl | rfl | rfl | rfl | rfl | rfl | rfl <;> rcases h2 with rfl | rfl | rfl | rfl <;> rfl
theorem Z0v (l : List UInt8) (i : Nat) (c : UInt8) : (l.map Sx.bytesRow).set i (Sx.bytesRow c) = (l.set i c).map Sx.bytesRow := by rw [List.map_set]
theorem uwU8 (a : BitVec 32) : IntKind.u8.wrap (Uw a) = ((UInt8.ofNat (a.toNat % 256)).toNat : Int) := by unfold Uw; exact Z5j
set_option maxHeartbeats 4000000 in
theorem Z0w (b : List UInt8) (r n : Nat) (hr : r + n ≤ b.length) (hb : b.length ≤ 140737488351232) : Does Tryd.prog tab 11 1 [.sl (.loc 0) r 1 n none] [] [(0, .rows 1 (b.map Sx.bytesRow))] (ValK 1 (.arr 1 ((digM ((b.drop r).take n)).map Sx.bytesRow))) := by
 obtain ⟨x, hx⟩ : ∃ x, x = (b.drop r).take n := ⟨_, rfl⟩
 have hxl : x.length = n := by rw [hx]; simp; omega
 have hpd := Z1c b r n hr hb
 have hno : ZJ n < 64 := by unfold ZJ; omega
 have hpl := Z1F x n
 rw [← hx] at hpd ⊢
 rw [hxl] at hpl
 have hdig : digM x = outB (XM Yf (padM x n)) := by unfold digM; rw [hxl]
 rw [hdig]
 generalize padM x n = P at hpd hpl
 refine Does.enter Z0 (g := 11) (fn := Tryd.f11) Tryd.call11 Tryd.func11 rfl 47 rfl rfl [.cell 2 35] rfl ?_
 intro w0 F η0 h0
 conv => whnf
 repeat' ((first | refine AU ?_ | (refine IW (fun h => ?_) (fun h => ?_) <;> try (exfalso; omega))) <;> conv => whnf)
 refine CALL.bytes1 0 hpd rfl rfl rfl rfl (Z2 _) ?_
 conv => whnf
 repeat' ((first | refine CALL.value (Z29) rfl rfl ?_ | (refine NEED.mk (by first | exact ⟨rfl, rfl, rfl⟩ | exact ⟨rfl, rfl, rfl, rfl, rfl⟩) ?_; conv => whnf) | refine AU ?_ | (refine IW (fun h => ?_) (fun h => ?_) <;> try (exfalso; omega))) <;> conv => whnf)
 refine LOOP.go Z0 [2, 3, 4] (X := Nat × S8) (fun x => 64 * x.1 ≤ P.length ∧ x.2 = JO Yf P x.1) (fun x => [(5, .int .i64 ((64 * x.1 : Nat) : Int))]) (fun x => [(1, .rows 1 ((outP Yf 0).map Sx.bytesRow)), (2, .rows 1 (P.map Sx.bytesRow)), (3, .rows 1 (Uz x.2))]) 4 (fun x => P.length - 64 * x.1) (0, Yf) ⟨by simp, rfl⟩ ?_
 conv => whnf
 refine ⟨by (refine GOES.cutting h0 rfl rfl rfl (by first | rfl | (simp only [Zi, Zg, Z9 _ (Z2 _), Bool.and_self, Bool.and_true] <;> rfl)) ?_ ?_ <;> (repeat' (first | (with_reducible rfl) | (exact ZY rfl (by first | (simp; done) | omega | (simp; omega))) | (exact congrArg (SV.int _) (by first | omega | (simp (disch := omega) only [lnB, Zc, Zm] <;> omega) | (simp; done) | (simp <;> omega))) | (exact congrArg (Hp.rows _) (by rfl)) | ((conv => whnf); refine ⟨?_, ?_⟩) | exact trivial | rfl))), ?_⟩
 rintro ⟨k, s⟩ ⟨hk, hs⟩
 dsimp only at hk hs ⊢
 conv => whnf
 refine IF.mk (fun h => ?_) (fun h => ?_)
 · have h : 64 * k + 64 ≤ P.length := by simp at h; omega
   have hw : IntKind.i64.wrap (((64 * k : Nat) : Int) + 64) = ((64 * k + 64 : Nat) : Int) := by rw [Zc (by omega) (by omega)]; omega
   have hbl := Z0s (Z1b s P (64 * k) 64 (by omega) (by omega) (by omega)) (fun η vs => Z0t)
   conv => whnf
   repeat' ((first | refine DRAWN.of (id := 6) Z0 Z1 Z4R (by kernel_rfl) ?_ | refine ADD.mk (fun _ _ => ?_) | refine AD ?_ | refine FORK.mk ?_ ?_ | (refine NEED.mk (by first | exact ⟨rfl, rfl, rfl⟩ | exact ⟨rfl, rfl, rfl, rfl, rfl⟩) ?_; conv => whnf) | (rw [hw]; conv => whnf) | (refine NEED.mk ⟨by omega, by omega, by show _ ≤ ((P.length : Nat) : Int); omega⟩ ?_; conv => whnf) | (refine NEED.mk (Z13 (by omega)) ?_; conv => whnf) | (refine NEED.mk (Z3V s) ?_; conv => whnf) | (rw [show ((64 * k + 64 : Nat) : Int).toNat - ((64 * k : Nat) : Int).toNat = 64 by omega, show 0 + ((64 * k : Nat) : Int).toNat = 64 * k by omega]; conv => whnf) | (refine CALL.look1 2 hbl rfl rfl rfl rfl (Z2 _) rfl ?_; conv => whnf) | refine AU ?_ | (refine IW (fun h => ?_) (fun h => ?_) <;> try (exfalso; omega))) <;> conv => whnf)
   refine ⟨(k + 1, J3 s (P.drop (64 * k))), ⟨by simp only; omega, by simp only [hs]; rfl⟩, by simp only; omega, ?_⟩
   dsimp only
   conv => whnf
   (refine GOES.cutting h0 rfl rfl rfl (by first | rfl | (simp only [Zi, Zg, Z9 _ (Z2 _), Bool.and_self, Bool.and_true] <;> rfl)) ?_ ?_ <;> (repeat' (first | (with_reducible rfl) | (exact ZY rfl (by first | (simp; done) | omega | (simp; omega))) | (exact congrArg (SV.int _) (by first | omega | (simp (disch := omega) only [lnB, Zc, Zm] <;> omega) | (simp; done) | (simp <;> omega))) | (exact congrArg (Hp.rows _) (by rfl)) | ((conv => whnf); refine ⟨?_, ?_⟩) | exact trivial | rfl)))
 · have h : k = P.length / 64 := by simp at h; omega
   have hf : s = XM Yf P := by rw [hs, h]; rfl
   rw [← hf]
   clear hf hs hpd
   conv => whnf
   repeat' ((first | refine AU ?_ | (refine IW (fun h => ?_) (fun h => ?_) <;> try (exfalso; omega))) <;> conv => whnf)
   refine LOOP.go Z0 [2, 4, 6] (X := Nat) (fun i => i ≤ 8) (fun i => [(7, .int .i64 (i : Int))]) (fun i => [(1, .rows 1 ((outP Yf 0).map Sx.bytesRow)), (3, .rows 1 ((L8 s).map w32)), (4, .rows 1 ((outP s (4 * i)).map Sx.bytesRow))]) 5 (fun i => 8 - i) 0 (by omega) ?_
   conv => whnf
   refine ⟨by (refine GOES.cutting h0 rfl rfl rfl (by first | rfl | (simp only [Zi, Zg, Z9 _ (Z2 _), Bool.and_self, Bool.and_true] <;> rfl)) ?_ ?_ <;> (repeat' (first | (with_reducible rfl) | (exact ZY rfl (by first | (simp; done) | omega | (simp; omega))) | (exact congrArg (SV.int _) (by first | omega | (simp (disch := omega) only [lnB, Zc, Zm] <;> omega) | (simp; done) | (simp <;> omega))) | (exact congrArg (Hp.rows _) (by rfl)) | ((conv => whnf); refine ⟨?_, ?_⟩) | exact trivial | rfl))), ?_⟩
   rintro i hi
   conv => whnf
   refine IF.mk (fun h => ?_) (fun h => ?_)
   · have h : i < 8 := by simp at h; omega
     conv => whnf
     refine LOOP.go Z0 [2, 4, 6, 7] (X := Nat) (fun j => j ≤ 4) (fun j => [(8, .int .i64 (j : Int))]) (fun j => [(1, .rows 1 ((outP Yf 0).map Sx.bytesRow)), (3, .rows 1 ((L8 s).map w32)), (4, .rows 1 ((outP s (4 * i + j)).map Sx.bytesRow))]) 5 (fun j => 4 - j) 0 (by omega) ?_
     conv => whnf
     refine ⟨by (refine GOES.cutting h0 rfl rfl rfl (by first | rfl | (simp only [Zi, Zg, Z9 _ (Z2 _), Bool.and_self, Bool.and_true] <;> rfl)) ?_ ?_ <;> (repeat' (first | (with_reducible rfl) | (exact ZY rfl (by first | (simp; done) | omega | (simp; omega))) | (exact congrArg (SV.int _) (by first | omega | (simp (disch := omega) only [lnB, Zc, Zm] <;> omega) | (simp; done) | (simp <;> omega))) | (exact congrArg (Hp.rows _) (by rfl)) | ((conv => whnf); refine ⟨?_, ?_⟩) | exact trivial | rfl))), ?_⟩
     rintro j hj
     conv => whnf
     refine IF.mk (fun h2 => ?_) (fun h2 => ?_)
     · have h2 : j < 4 := by simp at h2; omega
       have hw1 : IntKind.i64.wrap (IntKind.i64.wrap (4 * (i : Int)) + (j : Int)) = ((4 * i + j : Nat) : Int) := by rw [Zc (a := 4 * (i : Int)) (by omega) (by omega), Zc (by omega) (by omega)]; omega
       have hw2 : IntKind.i64.wrap (24 - IntKind.i64.wrap (8 * (j : Int))) = ((24 - 8 * j : Nat) : Int) := by rw [Zc (a := 8 * (j : Int)) (by omega) (by omega), Zc (by omega) (by omega)]; omega
       have hin : ((i : Nat) : Int).toNat = i := by omega
       have hval : [SV.int .u8 (IntKind.u8.wrap (iShr .u32 (Uw ((L8 s).getD i 0)) ((24 - 8 * j : Nat) : Int)))] = Sx.bytesRow ((outB s).getD (4 * i + j) 0) := by
         rw [Z28 _ _ ⟨by omega, by omega⟩, uwU8, Z1J s h h2, Int.toNat_natCast]; rfl
       conv => whnf
       repeat' ((first | (rw [hw1]; conv => whnf) | (rw [hw2]; conv => whnf) | (refine GET.at (row := w32 ((L8 s).getD i 0)) (by rw [hin]; exact XN (by show i < 8; omega)) ?_; conv => whnf) | (refine GET.at (row := Sx.bytesRow ((outP s (4 * i + j)).getD (4 * i + j) 0)) (by rw [Int.toNat_natCast]; exact YR (by rw [Z1H s (by omega)]; omega)) ?_; conv => whnf) | refine AU ?_ | (refine IW (fun h => ?_) (fun h => ?_) <;> try (exfalso; omega))) <;> conv => whnf)
       refine ⟨j + 1, by omega, by omega, ?_⟩
       conv => whnf
       (refine GOES.cutting h0 rfl rfl rfl (by first | rfl | (simp only [Zi, Zg, Z9 _ (Z2 _), Bool.and_self, Bool.and_true] <;> rfl)) ?_ ?_ <;> (repeat' (first | (with_reducible rfl) | (exact ZY rfl (by first | (simp; done) | omega | (simp; omega))) | (exact congrArg (SV.int _) (by first | omega | (simp (disch := omega) only [lnB, Zc, Zm] <;> omega) | (simp; done) | (simp <;> omega))) | (exact congrArg (Hp.rows _) (by (rw [Int.toNat_natCast, hval, Z0v, Z1I s (by omega) _ rfl]; rfl))) | ((conv => whnf); refine ⟨?_, ?_⟩) | exact trivial | rfl)))
     · have h2 : j = 4 := by simp at h2; omega
       subst h2
       conv => whnf
       repeat' ((first | refine AU ?_ | (refine IW (fun h => ?_) (fun h => ?_) <;> try (exfalso; omega))) <;> conv => whnf)
       refine ⟨i + 1, by omega, by omega, ?_⟩
       conv => whnf
       (refine GOES.cutting h0 rfl rfl rfl (by first | rfl | (simp only [Zi, Zg, Z9 _ (Z2 _), Bool.and_self, Bool.and_true] <;> rfl)) ?_ ?_ <;> (repeat' (first | (with_reducible rfl) | (exact ZY rfl (by first | (simp; done) | omega | (simp; omega))) | (exact congrArg (SV.int _) (by first | omega | (simp (disch := omega) only [lnB, Zc, Zm] <;> omega) | (simp; done) | (simp <;> omega))) | (exact congrArg (Hp.rows _) (by rfl)) | ((conv => whnf); refine ⟨?_, ?_⟩) | exact trivial | rfl)))
   · have h : i = 8 := by simp at h; omega
     subst h
     conv => whnf
     repeat' ((first | (refine NEED.mk (by first | exact ⟨rfl, rfl, rfl⟩ | exact ⟨rfl, rfl, rfl, rfl, rfl⟩) ?_; conv => whnf) | refine AU ?_ | (refine IW (fun h => ?_) (fun h => ?_) <;> try (exfalso; omega))) <;> conv => whnf)
     refine FIN.valueK h0 (Z2 _) ?_
     rw [← Z0u]
     rfl
def Z4S : Plan := (ZV [(0, 1), (1, 1), (2, 1), (3, 1), (5, 1), (6, 1), (7, 1), (4, 2), (8, 2), (9, 3), (10, 1), (11, 1), (12, 0)])
def Z4T : Plan := (ZV [(0, 1), (1, 1), (2, 1), (4, 1), (5, 1), (6, 1), (9, 1), (10, 1), (11, 1), (3, 2), (7, 2), (12, 2), (8, 3), (13, 1), (14, 3), (15, 1)])
theorem Z1e (l : List UInt8) : ((l.map Sx.bytesRow).drop 0).take l.length = l.map Sx.bytesRow := by
 rw [List.drop_zero, List.take_of_length_le (by simp)]
theorem V1 (b : List UInt8) (r n : Nat) (hr : r + n ≤ b.length) (hb : b.length ≤ 140737488355328) : Does Tryd.prog tab 15 1 [.sl (.loc 0) r 1 n none] [] [(0, .rows 1 (b.map Sx.bytesRow))] (YE 1 ((b.drop r).take n)) := by
 have hrow : ((b.map Sx.bytesRow).drop r).take n = ((b.drop r).take n).map Sx.bytesRow := by rw [List.map_take, List.map_drop]
 have hxl : ((b.drop r).take n).length = n := by simp; omega
 generalize hx : (b.drop r).take n = x at hrow hxl
 refine Does.enter Z0 (g := 15) (fn := Tryd.f15) Tryd.call15 Tryd.func15 rfl 8 rfl rfl [.tmp 2] rfl ?_
 intro w0 F η0 h0
 conv => whnf
 repeat' ((first | (rw [hrow]; conv => whnf) | (refine NEED.mk (Yq 1 rfl rfl (by simpa using hxl) (by simp) (by omega)) ?_; conv => whnf) | refine AU ?_ | ((with_reducible refine UNK.mk (fun h => ?_) ?_) <;> try (exfalso; omega)) | (refine IW (fun h => ?_) (fun h => ?_) <;> try (exfalso; omega))) <;> conv => whnf)
 · subst h
   have : x = [] := List.length_eq_zero_iff.1 hxl
   subst this
   refine FIN.nil 1 ?_
   exact FIN.rows h0 1 1 0 rfl rfl rfl rfl ⟨rfl, rfl, rfl⟩
 · rw [Nat.zero_add]
   exact FIN.rows h0 2 1 n rfl rfl rfl (Z2 _) ⟨by rw [hxl], rfl, rfl⟩
def YM (s : S8) (t : SV) (n : Int) : List SV := [.int .u32 (Uw s.a), .int .u32 (Uw s.b), .int .u32 (Uw s.c), .int .u32 (Uw s.d), .int .u32 (Uw s.e), .int .u32 (Uw s.f), .int .u32 (Uw s.g), .int .u32 (Uw s.h), t, .int .i64 n]
def Z4U (s : S8) (l : List UInt8) (n : Int) : SV → Hps → Nat → Prop := fun r O nx => r = .ptr (.loc 0) 0 0 0 ∧ O = [(0, .box (YM s (.sl (.loc 1) 0 1 l.length none) n)), (1, .rows 1 (l.map Sx.bytesRow))] ∧ nx = 2
theorem Z1L : Does Tryd.prog tab 4 0 [] [] [] (Z4U Yf [] 0) := by
 refine Does.enter Z0 (g := 4) (fn := Tryd.f4) Tryd.call4 Tryd.func4 rfl 4 rfl rfl [.tmp 0] rfl ?_
 intro w0 F η0 h0
 conv => whnf
 repeat' ((first | refine AU ?_ | (refine IW (fun h => ?_) (fun h => ?_) <;> try (exfalso; omega))) <;> conv => whnf)
 refine FIN.nilCell 0 8 1 rfl rfl ?_
 refine FIN.aA h0 [0, 1] (.ptr (.loc 0) 0 0 0) [(0, .box (YM Yf (.sl (.loc 1) 0 1 0 none) 0)), (1, .rows 1 [])] ?_
 exact ⟨rfl, rfl, rfl⟩
set_option maxHeartbeats 4000000 in
theorem Wa (s : S8) (l b : List UInt8) (n : Nat) (r m : Nat) (hr : r + m ≤ b.length) (hb : b.length ≤ 140737488355328) (hl : l.length < 64) (hn : n + m ≤ 140737488351232) : Does Tryd.prog tab 6 3 [.ptr (.loc 0) 0 0 0, .sl (.loc 2) r 1 m none] [(0, .box (YM s (.sl (.loc 1) 0 1 l.length none) (n : Int))), (1, .rows 1 (l.map Sx.bytesRow))] [(2, .rows 1 (b.map Sx.bytesRow))]
   (fun r' O nx => r' = .tup [] ∧ O = [(0, .box (YM (XM s (l ++ (b.drop r).take m)) (.sl (.loc 3) 0 1 (Yi (l ++ (b.drop r).take m)).length none) ((n + m : Nat) : Int))), (3, .rows 1 ((Yi (l ++ (b.drop r).take m)).map Sx.bytesRow))] ∧ nx = 4) := by
 have hrow : ((b.map Sx.bytesRow).drop r).take m = ((b.drop r).take m).map Sx.bytesRow := by rw [List.map_take, List.map_drop]
 have hxl : ((b.drop r).take m).length = m := by simp; omega
 generalize hx : (b.drop r).take m = x at hrow hxl
 have hwn : IntKind.i64.wrap ((n : Int) + (m : Int)) = ((n + m : Nat) : Int) := by rw [Zc (by omega) (by omega)]; omega
 have happ : List.take l.length (l.map Sx.bytesRow) ++ x.map Sx.bytesRow = (l ++ x).map Sx.bytesRow := by rw [List.take_of_length_le (by simp), List.map_append]
 have hlen : l.length + m = (l ++ x).length := by simp [hxl]
 have hsm : (l ++ x).length ≤ 140737488355328 := by simp [hxl]; omega
 refine Does.enter Z0 (g := 6) (fn := Tryd.f6) Tryd.call6 Tryd.func6 rfl 56 rfl rfl [] rfl ?_
 intro w0 F η0 h0
 conv => whnf
 repeat' ((first | (rw [hwn]; conv => whnf) | (rw [hrow]; conv => whnf) | (refine NEED.mk (Yq 1 rfl rfl (by simpa using hxl) (by simp) (by omega)) ?_; conv => whnf) | refine AU ?_ | (refine IW (fun h => ?_) (fun h => ?_) <;> try (exfalso; omega))) <;> conv => whnf)
 rw [happ, hlen]
 generalize l ++ x = all at hsm
 refine LOOP.go Z0 [0] (X := Nat × S8) (fun x => 64 * x.1 ≤ all.length ∧ x.2 = JO s all x.1) (fun _ => []) (fun x => [(0, .box (YM x.2 (.sl (.loc 3) (64 * x.1) 1 (all.length - 64 * x.1) none) ((n + m : Nat) : Int))), (3, .rows 1 (all.map Sx.bytesRow))]) 4 (fun x => all.length - 64 * x.1) (0, s) ⟨by simp, rfl⟩ ?_
 conv => whnf
 refine ⟨by (refine GOES.cutting h0 rfl rfl rfl (by first | rfl | (simp only [Zi, Zg, Z9 _ (Z2 _), Bool.and_self, Bool.and_true] <;> rfl)) ?_ ?_ <;> (repeat' (first | (with_reducible rfl) | (exact ZY rfl (by first | (simp; done) | omega | (simp; omega))) | (exact congrArg (SV.int _) (by first | omega | (simp (disch := omega) only [lnB, Zc, Zm] <;> omega) | (simp; done) | (simp <;> omega))) | (exact congrArg (Hp.rows _) (by rfl)) | ((conv => whnf); refine ⟨?_, ?_⟩) | exact trivial | rfl))), ?_⟩
 rintro ⟨k, s'⟩ ⟨hk, hs'⟩
 dsimp only at hk hs' ⊢
 conv => whnf
 refine IF.mk (fun h => ?_) (fun h => ?_)
 · have h : 64 * k + 64 ≤ all.length := by simp at h; omega
   have hbl := W8 s' all (64 * k) (all.length - 64 * k) (by omega) (by omega) hsm
   conv => whnf
   repeat' ((first | refine DRAWN.of (id := 3) Z0 Z1 Z4S (by kernel_rfl) ?_ | refine ADD.mk (fun _ _ => ?_) | refine AD ?_ | refine FORK.mk ?_ ?_ | (refine NEED.mk (Z13 (by omega)) ?_; conv => whnf) | (refine CALL.look1 3 hbl rfl rfl rfl rfl (Z2 _) rfl ?_; conv => whnf) | (refine NEED.mk ⟨by omega, by omega⟩ ?_; conv => whnf) | refine AU ?_ | (refine IW (fun h => ?_) (fun h => ?_) <;> try (exfalso; omega))) <;> conv => whnf)
   rw [show 64 * k + (64 : Int).toNat = 64 * (k + 1) by omega, show all.length - 64 * k - (64 : Int).toNat = all.length - 64 * (k + 1) by omega]
   refine ⟨(k + 1, J3 s' (all.drop (64 * k))), ⟨by simp only; omega, by simp only [hs']; rfl⟩, by simp only; omega, ?_⟩
   dsimp only
   conv => whnf
   (refine GOES.cutting h0 rfl rfl rfl (by first | rfl | (simp only [Zi, Zg, Z9 _ (Z2 _), Bool.and_self, Bool.and_true] <;> rfl)) ?_ ?_ <;> (repeat' (first | (with_reducible rfl) | (exact ZY rfl (by first | (simp; done) | omega | (simp; omega))) | (exact congrArg (SV.int _) (by first | omega | (simp (disch := omega) only [lnB, Zc, Zm] <;> omega) | (simp; done) | (simp <;> omega))) | (exact congrArg (Hp.rows _) (by rfl)) | ((conv => whnf); refine ⟨?_, ?_⟩) | exact trivial | rfl)))
 · have h : k = all.length / 64 := by simp at h; omega
   have hf : s' = XM s all := by rw [hs', h]; rfl
   have htl : (all.drop (64 * k)).take (all.length - 64 * k) = Yi all := by rw [List.take_of_length_le (by simp)]; rw [h]; rfl
   have htn : all.length - 64 * k = (Yi all).length := by rw [YK]; omega
   have hcl := V1 all (64 * k) (all.length - 64 * k) (by omega) hsm
   rw [htl] at hcl
   rw [← hf]
   conv => whnf
   refine CALL.bytes1 3 hcl rfl rfl rfl rfl (Z2 _) ?_
   conv => whnf
   repeat' ((first | refine AU ?_ | (refine IW (fun h => ?_) (fun h => ?_) <;> try (exfalso; omega))) <;> conv => whnf)
   refine FIN.aA h0 [4] (.tup []) [(0, .box (YM s' (.sl (.loc 3) 0 1 (Yi all).length none) ((n + m : Nat) : Int))), (3, .rows 1 ((Yi all).map Sx.bytesRow))] ?_
   exact ⟨rfl, rfl, rfl⟩
theorem Z3Y (s : S8) (t : SV) (n : Int) (l : List UInt8) : Does Tryd.prog tab 12 2 [.ptr (.loc 0) 0 0 0] [] [(0, .box (YM s (.sl (.loc 1) 0 1 l.length none) n)), (1, .rows 1 (l.map Sx.bytesRow))] (ValK 2 (.int .i64 n)) := by
 refine Does.enter Z0 (g := 12) (fn := Tryd.f12) Tryd.call12 Tryd.func12 rfl 7 rfl rfl [.tmp 2] rfl ?_
 intro w0 F η0 h0
 conv => whnf
 repeat' ((first | refine AU ?_ | (refine IW (fun h => ?_) (fun h => ?_) <;> try (exfalso; omega))) <;> conv => whnf)
 exact FIN.valueK h0 rfl rfl
set_option maxHeartbeats 4000000 in
theorem Z3i (s : S8) (l : List UInt8) (n : Int) (hl : l.length < 64) : Does Tryd.prog tab 9 2 [.ptr (.loc 0) 0 0 0] [] [(0, .box (YM s (.sl (.loc 1) 0 1 l.length none) n)), (1, .rows 1 (l.map Sx.bytesRow))]
   (fun r O nx => r = .ptr (.loc 2) 0 0 0 ∧ O = [(2, .box (YM s (.sl (.loc 3) 0 1 l.length none) n)), (3, .rows 1 (l.map Sx.bytesRow))] ∧ nx = 4) := by
 have hcl := V1 l 0 l.length (by omega) (by omega)
 rw [show (l.drop 0).take l.length = l by simp] at hcl
 refine Does.enter Z0 (g := 9) (fn := Tryd.f9) Tryd.call9 Tryd.func9 rfl 18 rfl rfl [.tmp 2] rfl ?_
 intro w0 F η0 h0
 conv => whnf
 repeat' ((first | refine DRAWN.of (id := 1) Z0 Z1 Z4T (by kernel_rfl) ?_ | refine ADD.mk (fun _ _ => ?_) | refine AD ?_ | refine FORK.mk ?_ ?_ | (refine CALL.bytes1 1 hcl rfl rfl rfl rfl (Z2 _) ?_; conv => whnf) | refine AU ?_ | (refine IW (fun h => ?_) (fun h => ?_) <;> try (exfalso; omega))) <;> conv => whnf)
 refine FIN.aA h0 [3, 2] (.ptr (.loc 2) 0 0 0) [(2, .box (YM s (.sl (.loc 3) 0 1 l.length none) n)), (3, .rows 1 (l.map Sx.bytesRow))] ?_
 exact ⟨rfl, rfl, rfl⟩
set_option maxHeartbeats 4000000 in
theorem Z1M (s : S8) (l : List UInt8) (n : Nat) (hl : l.length < 64) (hn : n ≤ 140737488351232) : Does Tryd.prog tab 10 2 [.ptr (.loc 0) 0 0 0] [] [(0, .box (YM s (.sl (.loc 1) 0 1 l.length none) (n : Int))), (1, .rows 1 (l.map Sx.bytesRow))]
   (ValK 2 (.arr 1 ((outB (XM s (padM l n))).map Sx.bytesRow))) := by
 have hcl := V1 l 0 l.length (by omega) (by omega)
 rw [show (l.drop 0).take l.length = l by simp] at hcl
 have hno : ZJ l.length < 64 := by unfold ZJ; omega
 refine Does.enter Z0 (g := 10) (fn := Tryd.f10) Tryd.call10 Tryd.func10 rfl 68 rfl rfl [.cell 2 35] rfl ?_
 intro w0 F η0 h0
 conv => whnf
 repeat' ((first | (refine CALL.bytes1 1 hcl rfl rfl rfl rfl (Z2 _) ?_; conv => whnf) | (refine NEED.mk (Yq 1 rfl rfl (by first | (simp; done) | (simp; omega)) (by first | (simp; done) | (simp; omega)) (by omega)) ?_; conv => whnf) | refine AU ?_ | (refine IW (fun h => ?_) (fun h => ?_) <;> try (exfalso; omega))) <;> conv => whnf)
 refine LOOP.go Z0 [0, 2] (X := Nat) (fun k => k ≤ ZJ l.length) (fun k => [(3, .sl (.loc 3) 0 1 (l.length + 1 + k) none)]) (fun k => [(2, .rows 1 ((outP Yf 0).map Sx.bytesRow)), (3, .rows 1 ((l ++ [128] ++ List.replicate k 0).map Sx.bytesRow))]) 4 (fun k => ZJ l.length - k) 0 (by omega) ?_
 conv => whnf
 refine ⟨by (refine GOES.keeping h0 [2, 5] rfl rfl rfl (by first | rfl | (simp only [Zi, Zg, Z9 _ (Z2 _), Bool.and_self, Bool.and_true] <;> rfl)) ?_ ?_ <;> (repeat' (first | (with_reducible rfl) | (exact ZQ (Z2 _) (Zf _ (Z2 _))) | (exact ZQ (Z2 _) (by first | (rw [List.replicate_zero, List.append_nil]; exact app1 (Nat.le_refl _) rfl) | rfl)) | (exact ZY rfl (by first | (simp; done) | omega | (simp; omega))) | (exact congrArg (SV.int _) (by first | omega | (simp (disch := omega) only [lnB, Zc, Zm] <;> omega) | (simp; done) | (simp <;> omega))) | ((conv => whnf); refine ⟨?_, ?_⟩) | exact trivial | (simp only [ren, renB]; done) | rfl))), ?_⟩
 rintro k hk
 have hiff := UD hk
 have hmod : Int.tmod ((l.length + 1 + k : Nat) : Int) 64 = ((l.length + 1 + k) % 64 : Nat) := by rw [Int.tmod_eq_emod_of_nonneg (by omega)]; omega
 conv => whnf
 repeat' ((first | (rw [hmod]; conv => whnf) | (refine NEED.mk (Yq 1 rfl rfl rfl (by simp; omega) (by omega)) ?_; conv => whnf) | refine AU ?_ | (refine IW (fun h => ?_) (fun h => ?_) <;> try (exfalso; omega))) <;> conv => whnf)
 · refine ⟨k + 1, by omega, by omega, ?_⟩
   conv => whnf
   (refine GOES.keeping h0 [2, 5] rfl rfl rfl (by first | rfl | (simp only [Zi, Zg, Z9 _ (Z2 _), Bool.and_self, Bool.and_true] <;> rfl)) ?_ ?_ <;> (repeat' (first | (with_reducible rfl) | (exact ZQ (Z2 _) (Zf _ (Z2 _))) | (exact ZQ (Z2 _) (by (rw [List.replicate_succ', ← List.append_assoc]; exact app1 (by simp; omega) rfl))) | (exact ZY rfl (by first | (simp; done) | omega | (simp; omega))) | (exact congrArg (SV.int _) (by first | omega | (simp (disch := omega) only [lnB, Zc, Zm] <;> omega) | (simp; done) | (simp <;> omega))) | ((conv => whnf); refine ⟨?_, ?_⟩) | exact trivial | (simp only [ren, renB]; done) | rfl)))
 · have hk : k = ZJ l.length := hiff.1 (by omega)
   obtain ⟨y, hy⟩ : ∃ y, y = l ++ [128] ++ List.replicate k 0 := ⟨_, rfl⟩
   have hyl : y.length = l.length + 1 + k := by rw [hy]; simp; omega
   have hfin : padM l n = y ++ be8 (n * 8) := by rw [hy, hk]; rfl
   have hpl := Z1F l n
   rw [← hy, hfin, ← hyl]
   rw [hfin] at hpl
   have hN : IntKind.u64.wrap (IntKind.u64.wrap (n : Int) * 8) = ((n * 8 : Nat) : Int) := by rw [IntWalk.u64_in (n : Int) ⟨by omega, by omega⟩, IntWalk.u64_in _ ⟨by omega, by omega⟩]; omega
   clear hy hk hiff hmod h hfin
   repeat' ((first | refine AU ?_ | (refine IW (fun h => ?_) (fun h => ?_) <;> try (exfalso; omega))) <;> conv => whnf)
   refine LOOP.go Z0 [0, 2] (X := Nat) (fun j => j ≤ 8) (fun j => [(3, .sl (.loc 3) 0 1 (y.length + j) none), (4, .int .i64 (7 - (j : Int)))]) (fun j => [(2, .rows 1 ((outP Yf 0).map Sx.bytesRow)), (3, .rows 1 ((y ++ (be8 (n * 8)).take j).map Sx.bytesRow))]) 4 (fun j => 8 - j) 0 (by omega) ?_
   conv => whnf
   refine ⟨by (refine GOES.keeping h0 [2, 3] rfl rfl rfl (by first | rfl | (simp only [Zi, Zg, Z9 _ (Z2 _), Bool.and_self, Bool.and_true] <;> rfl)) ?_ ?_ <;> (repeat' (first | (with_reducible rfl) | (exact ZQ (Z2 _) (Zf _ (Z2 _))) | (exact ZQ (Z2 _) (by first | (rw [List.take_zero, List.append_nil]; done) | rfl)) | (exact ZY rfl (by first | (simp; done) | omega | (simp; omega))) | (exact congrArg (SV.int _) (by first | omega | (simp (disch := omega) only [lnB, Zc, Zm] <;> omega) | (simp; done) | (simp <;> omega))) | ((conv => whnf); refine ⟨?_, ?_⟩) | exact trivial | (simp only [ren, renB]; done) | rfl))), ?_⟩
   rintro j hj
   have htl : ((be8 (n * 8)).take j).length = j := by simp [be8]; omega
   conv => whnf
   refine IF.mk (fun h => ?_) (fun h => ?_)
   · have h : j < 8 := by simp at h; omega
     have hw : IntKind.i64.wrap (8 * (7 - (j : Int))) = 8 * ((7 - j : Nat) : Int) := by rw [Zc (by omega) (by omega)]; omega
     conv => whnf
     repeat' ((first | (rw [hw]; conv => whnf) | (rw [hN]; conv => whnf) | (refine NEED.mk (Yq 1 rfl rfl rfl (by rw [List.length_map, List.length_append, htl]; exact Nat.le_refl _) (by omega)) ?_; conv => whnf) | refine AU ?_ | (refine IW (fun h => ?_) (fun h => ?_) <;> try (exfalso; omega))) <;> conv => whnf)
     refine ⟨j + 1, by omega, by omega, ?_⟩
     conv => whnf
     (refine GOES.keeping h0 [2, 5] rfl rfl rfl (by first | rfl | (simp only [Zi, Zg, Z9 _ (Z2 _), Bool.and_self, Bool.and_true] <;> rfl)) ?_ ?_ <;> (repeat' (first | (with_reducible rfl) | (exact ZQ (Z2 _) (Zf _ (Z2 _))) | (exact ZQ (Z2 _) (by (rw [← Z1G _ h, ← List.append_assoc]; exact app1 (by rw [List.length_append, htl]; exact Nat.le_refl _) (beI h rfl)))) | (exact ZY rfl (by first | (simp; done) | omega | (simp; omega))) | (exact congrArg (SV.int _) (by first | omega | (simp (disch := omega) only [lnB, Zc, Zm] <;> omega) | (simp; done) | (simp <;> omega))) | ((conv => whnf); refine ⟨?_, ?_⟩) | exact trivial | (simp only [ren, renB]; done) | rfl)))
   · have h : j = 8 := by simp at h; omega
     subst h
     rw [show (be8 (n * 8)).take 8 = be8 (n * 8) from rfl, show y.length + 8 = (y ++ be8 (n * 8)).length by rw [List.length_append]; rfl]
     generalize y ++ be8 (n * 8) = P at hpl
     conv => whnf
     repeat' ((first | (refine NEED.mk (by first | exact ⟨rfl, rfl, rfl⟩ | exact ⟨rfl, rfl, rfl, rfl, rfl⟩) ?_; conv => whnf) | refine AU ?_ | (refine IW (fun h => ?_) (fun h => ?_) <;> try (exfalso; omega))) <;> conv => whnf)
     refine LOOP.go Z0 [2, 5] (X := Nat × S8) (fun x => 64 * x.1 ≤ P.length ∧ x.2 = JO s P x.1) (fun x => [(3, .sl (.loc 3) (64 * x.1) 1 (P.length - 64 * x.1) none)]) (fun x => [(2, .rows 1 ((outP Yf 0).map Sx.bytesRow)), (3, .rows 1 (P.map Sx.bytesRow)), (4, .rows 1 (Uz x.2))]) 5 (fun x => P.length - 64 * x.1) (0, s) ⟨by simp, rfl⟩ ?_
     conv => whnf
     refine ⟨by (refine GOES.cutting h0 rfl rfl rfl (by first | rfl | (simp only [Zi, Zg, Z9 _ (Z2 _), Bool.and_self, Bool.and_true] <;> rfl)) ?_ ?_ <;> (repeat' (first | (with_reducible rfl) | (exact ZY rfl (by first | (simp; done) | omega | (simp; omega))) | (exact congrArg (SV.int _) (by first | omega | (simp (disch := omega) only [lnB, Zc, Zm] <;> omega) | (simp; done) | (simp <;> omega))) | (exact congrArg (Hp.rows _) (by rfl)) | ((conv => whnf); refine ⟨?_, ?_⟩) | exact trivial | rfl))), ?_⟩
     rintro ⟨k, s'⟩ ⟨hk, hs'⟩
     dsimp only at hk hs' ⊢
     conv => whnf
     refine IF.mk (fun h => ?_) (fun h => ?_)
     · have h : 64 * k + 64 ≤ P.length := by simp at h; omega
       have hbl := Z0s (W8 s' P (64 * k) (P.length - 64 * k) (by omega) (by omega) (by omega)) (fun η vs => Z0t)
       conv => whnf
       repeat' ((first | (refine CALL.look1 3 hbl rfl rfl rfl rfl (Z2 _) rfl ?_; conv => whnf) | (refine NEED.mk (by first | exact ⟨rfl, rfl, rfl⟩ | exact ⟨rfl, rfl, rfl, rfl, rfl⟩) ?_; conv => whnf) | (refine NEED.mk ⟨by omega, by omega⟩ ?_; conv => whnf) | refine AU ?_ | (refine IW (fun h => ?_) (fun h => ?_) <;> try (exfalso; omega))) <;> conv => whnf)
       rw [show 64 * k + (64 : Int).toNat = 64 * (k + 1) by omega, show P.length - 64 * k - (64 : Int).toNat = P.length - 64 * (k + 1) by omega]
       refine ⟨(k + 1, J3 s' (P.drop (64 * k))), ⟨by simp only; omega, by simp only [hs']; rfl⟩, by simp only; omega, ?_⟩
       dsimp only
       conv => whnf
       (refine GOES.cutting h0 rfl rfl rfl (by first | rfl | (simp only [Zi, Zg, Z9 _ (Z2 _), Bool.and_self, Bool.and_true] <;> rfl)) ?_ ?_ <;> (repeat' (first | (with_reducible rfl) | (exact ZY rfl (by first | (simp; done) | omega | (simp; omega))) | (exact congrArg (SV.int _) (by first | omega | (simp (disch := omega) only [lnB, Zc, Zm] <;> omega) | (simp; done) | (simp <;> omega))) | (exact congrArg (Hp.rows _) (by rfl)) | ((conv => whnf); refine ⟨?_, ?_⟩) | exact trivial | rfl)))
     · have h : k = P.length / 64 := by simp at h; omega
       have hf : s' = XM s P := by rw [hs', h]; rfl
       rw [← hf]
       clear hf hs' hcl
       conv => whnf
       repeat' ((first | refine AU ?_ | (refine IW (fun h => ?_) (fun h => ?_) <;> try (exfalso; omega))) <;> conv => whnf)
       refine LOOP.go Z0 [2, 5, 6] (X := Nat) (fun i => i ≤ 32) (fun i => [(51, .int .i64 (i : Int))]) (fun i => [(2, .rows 1 ((outP Yf 0).map Sx.bytesRow)), (4, .rows 1 ((L8 s').map w32)), (5, .rows 1 ((outP s' i).map Sx.bytesRow))]) 6 (fun i => 32 - i) 0 (by omega) ?_
       conv => whnf
       refine ⟨by (refine GOES.cutting h0 rfl rfl rfl (by first | rfl | (simp only [Zi, Zg, Z9 _ (Z2 _), Bool.and_self, Bool.and_true] <;> rfl)) ?_ ?_ <;> (repeat' (first | (with_reducible rfl) | (exact ZY rfl (by first | (simp; done) | omega | (simp; omega))) | (exact congrArg (SV.int _) (by first | omega | (simp (disch := omega) only [lnB, Zc, Zm] <;> omega) | (simp; done) | (simp <;> omega))) | (exact congrArg (Hp.rows _) (by rfl)) | ((conv => whnf); refine ⟨?_, ?_⟩) | exact trivial | rfl))), ?_⟩
       rintro i hi
       conv => whnf
       refine IF.mk (fun h => ?_) (fun h => ?_)
       · have h : i < 32 := by simp at h; omega
         have hw1 : IntKind.i64.wrap (Int.tdiv (i : Int) 4) = ((i / 4 : Nat) : Int) := by rw [Int.tdiv_eq_ediv_of_nonneg (by omega), Zc (by omega) (by omega)]; omega
         have hw2 : IntKind.i64.wrap (24 - IntKind.i64.wrap (Int.tmod (i : Int) 4 * 8)) = ((24 - 8 * (i % 4) : Nat) : Int) := by rw [Int.tmod_eq_emod_of_nonneg (by omega), Zc (a := (i : Int) % 4 * 8) (by omega) (by omega), Zc (by omega) (by omega)]; omega
         have hval : [SV.int .u8 (IntKind.u8.wrap (iShr .u32 (Uw ((L8 s').getD (i / 4) 0)) ((24 - 8 * (i % 4) : Nat) : Int)))] = Sx.bytesRow ((outB s').getD i 0) := by
           have := Z1J s' (i := i / 4) (k := i % 4) (by omega) (by omega)
           rw [show 4 * (i / 4) + i % 4 = i by omega] at this
           rw [Z28 _ _ ⟨by omega, by omega⟩, uwU8, this, Int.toNat_natCast]; rfl
         conv => whnf
         repeat' ((first | (rw [hw1]; conv => whnf) | (rw [hw2]; conv => whnf) | (refine GET.at (row := w32 ((L8 s').getD (i / 4) 0)) (by rw [Int.toNat_natCast]; exact XN (by show i / 4 < 8; omega)) ?_; conv => whnf) | (refine GET.at (row := Sx.bytesRow ((outP s' i).getD i 0)) (by rw [Int.toNat_natCast]; exact YR (by rw [Z1H s' (by omega)]; omega)) ?_; conv => whnf) | refine AU ?_ | (refine IW (fun h => ?_) (fun h => ?_) <;> try (exfalso; omega))) <;> conv => whnf)
         refine ⟨i + 1, by omega, by omega, ?_⟩
         conv => whnf
         (refine GOES.cutting h0 rfl rfl rfl (by first | rfl | (simp only [Zi, Zg, Z9 _ (Z2 _), Bool.and_self, Bool.and_true] <;> rfl)) ?_ ?_ <;> (repeat' (first | (with_reducible rfl) | (exact ZY rfl (by first | (simp; done) | omega | (simp; omega))) | (exact congrArg (SV.int _) (by first | omega | (simp (disch := omega) only [lnB, Zc, Zm] <;> omega) | (simp; done) | (simp <;> omega))) | (exact congrArg (Hp.rows _) (by (rw [Int.toNat_natCast, hval, Z0v, Z1I s' (by omega) _ rfl]))) | ((conv => whnf); refine ⟨?_, ?_⟩) | exact trivial | rfl)))
       · have h : i = 32 := by simp at h; omega
         subst h
         conv => whnf
         repeat' ((first | (refine NEED.mk (by first | exact ⟨rfl, rfl, rfl⟩ | exact ⟨rfl, rfl, rfl, rfl, rfl⟩) ?_; conv => whnf) | refine AU ?_ | (refine IW (fun h => ?_) (fun h => ?_) <;> try (exfalso; omega))) <;> conv => whnf)
         refine FIN.valueK h0 (Z2 _) ?_
         rw [← Z0u]
         rfl
def Z0z : Plan := (ZV [(0, 1), (1, 1), (2, 1), (4, 1), (5, 1), (6, 1), (3, 2), (7, 2), (8, 1)])
theorem Z0A (b : List UInt8) (r n : Nat) (hr : r + n ≤ b.length) (hb : b.length ≤ 140737488355328) (hn : n ≤ 140737488351232) : Does Tryd.prog tab 13 1 [.sl (.loc 0) r 1 n none] [] [(0, .rows 1 (b.map Sx.bytesRow))] (ValK 1 (.arr 1 ((digM ((b.drop r).take n)).map Sx.bytesRow))) := by
 obtain ⟨x, hx⟩ : ∃ x, x = (b.drop r).take n := ⟨_, rfl⟩
 have hxl : x.length = n := by rw [hx]; simp; omega
 have hwr := Wa Yf [] b 0 r n hr hb (by simp) (by omega)
 have htl : (Yi x).length < 64 := by rw [YK]; omega
 have hsum := Z1M (XM Yf x) (Yi x) n htl (by omega)
 rw [← hx] at hwr ⊢
 rw [List.nil_append, Nat.zero_add] at hwr
 rw [Z0o] at hsum
 unfold digM
 rw [hxl]
 refine Does.enter Z0 (g := 13) (fn := Tryd.f13) Tryd.call13 Tryd.func13 rfl 10 rfl rfl [.cell 2 35] rfl ?_
 intro w0 F η0 h0
 conv => whnf
 refine CALL.aA [] (Z1L) ?_
 rintro r' O' nx' ⟨rfl, rfl, rfl⟩
 conv => whnf
 refine CALL.aA [2, 3, 0] (hwr) ?_
 rintro r' O' nx' ⟨rfl, rfl, rfl⟩
 conv => whnf
 refine CALL.aA [2, 4] (hsum) ?_
 rintro r' O' nx' ⟨rfl, rfl, rfl⟩
 conv => whnf
 repeat' ((first | (refine NEED.mk (by first | exact ⟨rfl, rfl, rfl⟩ | exact ⟨rfl, rfl, rfl, rfl, rfl⟩) ?_; conv => whnf) | refine AU ?_ | (refine IW (fun h => ?_) (fun h => ?_) <;> try (exfalso; omega))) <;> conv => whnf)
 rw [Zf _ (Z2 _)]
 exact FIN.valueK h0 (Z2 _) rfl
theorem Z1N {l c : Int} {b : Nat} (B : Nat) (hb : Nat.ble b B = true) (h0 : 0 ≤ l) (h1 : l ≤ c) (h2 : (B : Int) * c ≤ 281474976710656 ∧ c ≤ 9223372036854775807) : 0 ≤ l ∧ l ≤ c ∧ c ≤ 9223372036854775807 ∧ (b : Int) * c ≤ 281474976710656 :=
 ⟨h0, h1, h2.2, Int.le_trans (Int.mul_le_mul_of_nonneg_right (by have := Nat.le_of_ble_eq_true hb; omega) (by omega)) h2.1⟩
theorem Z1f (b : List UInt8) (r n : Nat) (hr : r + n ≤ b.length) (hb : b.length ≤ 140737488351232) : Does Tryd.prog tab 5 1 [.sl (.loc 0) r 1 n none] [] [(0, .rows 1 (b.map Sx.bytesRow))] (YE 1 ((b.drop r).take n)) := by
 have hrow : ((b.map Sx.bytesRow).drop r).take n = ((b.drop r).take n).map Sx.bytesRow := by rw [List.map_take, List.map_drop]
 have hxl : ((b.drop r).take n).length = n := by simp; omega
 generalize hx : (b.drop r).take n = x at hrow hxl
 refine Does.enter Z0 (g := 5) (fn := Tryd.f5) Tryd.call5 Tryd.func5 rfl 11 rfl rfl [.tmp 2] rfl ?_
 intro w0 F η0 h0
 conv => whnf
 repeat' ((first | (rw [hrow]; conv => whnf) | (refine NEED.mk (Z1N 1 rfl (by omega) (by omega) (by omega)) ?_; conv => whnf) | (refine NEED.mk ⟨by simpa using hxl, by omega, by rw [List.length_replicate]; omega⟩ ?_; conv => whnf) | refine AU ?_ | (refine IW (fun h => ?_) (fun h => ?_) <;> try (exfalso; omega))) <;> conv => whnf)
 refine FIN.rows h0 1 1 n (by rw [Int.toNat_natCast]; rfl) rfl rfl ?_ ⟨by rw [hxl], ?_, rfl⟩
 all_goals rw [List.take_zero, List.nil_append, List.drop_of_length_le (by rw [List.length_replicate]; omega), List.append_nil]
 exact Z2 _
theorem Z3j (A B : List UInt8) (i n j m : Nat) (hA : i + n ≤ A.length) (hB : j + m ≤ B.length) (hn : A.length ≤ 1152921504606846976) (hm : B.length ≤ 1152921504606846976) : Does Tryd.prog tab 7 2 [.sl (.loc 0) i 1 n none, .sl (.loc 1) j 1 m none] [] [(0, .rows 1 (A.map Sx.bytesRow)), (1, .rows 1 (B.map Sx.bytesRow))]
   (ValK 2 (.bool (decide ((A.drop i).take n = (B.drop j).take m)))) := by
 refine Does.enter Z0 (g := 7) (fn := Tryd.f7) Tryd.call7 Tryd.func7 rfl 26 rfl rfl [.tmp 4] rfl ?_
 intro w0 F η0 h0
 conv => whnf
 refine IF.mk (fun h => ?_) (fun h => ?_)
 · have h : n ≠ m := by simp at h; omega
   conv => whnf
   refine FIN.valueK h0 rfl (congrArg SV.bool (decide_eq_false fun he => ?_).symm)
   have := congrArg List.length he
   simp at this
   omega
 have h : n = m := by simp at h; omega
 subst h
 conv => whnf
 refine LOOP.go Z0 [0, 1] (X := Nat) (fun c => c ≤ n ∧ ((A.drop i).take n = (B.drop j).take n ↔ (A.drop (i + c)).take (n - c) = (B.drop (j + c)).take (n - c))) (fun c => [(5, .int .i64 (c : Int))]) (fun c => []) 2 (fun c => n - c) 0 ⟨by omega, by simp⟩ ?_
 conv => whnf
 refine ⟨by exact GOES.cA h0, ?_⟩
 rintro c ⟨hc, hs⟩
 conv => whnf
 rcases Nat.lt_or_ge c n with hcn | hcn
 · have ha : i + c < A.length := by omega
   have hb : j + c < B.length := by omega
   have hA1 : A.getD (i + c) 0 = A[i + c] := by rw [List.getD_eq_getElem?_getD, List.getElem?_eq_getElem ha]; rfl
   have hB1 : B.getD (j + c) 0 = B[j + c] := by rw [List.getD_eq_getElem?_getD, List.getElem?_eq_getElem hb]; rfl
   have hstep : (A.drop (i + c)).take (n - c) = (B.drop (j + c)).take (n - c) ↔ A.getD (i + c) 0 = B.getD (j + c) 0 ∧ (A.drop (i + (c + 1))).take (n - (c + 1)) = (B.drop (j + (c + 1))).take (n - (c + 1)) := by
     rw [hA1, hB1, List.drop_eq_getElem_cons ha, List.drop_eq_getElem_cons hb, show n - c = (n - (c + 1)) + 1 by omega]
     simp only [List.take_succ_cons, List.cons.injEq]
     rw [show i + c + 1 = i + (c + 1) by omega, show j + c + 1 = j + (c + 1) by omega]
   repeat' ((first | refine DRAWN.of (id := 6) Z0 Z1 Z0z (by kernel_rfl) ?_ | refine ADD.mk (fun _ _ => ?_) | refine AD ?_ | refine FORK.mk ?_ ?_ | (refine GET.at (row := Sx.bytesRow (A.getD (i + c) 0)) (by rw [Int.toNat_natCast]; exact YR ha) ?_; conv => whnf) | (refine GET.at (row := Sx.bytesRow (B.getD (j + c) 0)) (by rw [Int.toNat_natCast]; exact YR hb) ?_; conv => whnf) | refine AU ?_ | (refine IW (fun h => ?_) (fun h => ?_) <;> try (exfalso; omega))) <;> conv => whnf)
   · have hne : A.getD (i + c) 0 ≠ B.getD (j + c) 0 := fun he => by rw [he] at h; simp at h
     exact FIN.valueK h0 rfl (congrArg SV.bool (decide_eq_false fun he => hne (hstep.1 (hs.1 he)).1).symm)
   · have heq : A.getD (i + c) 0 = B.getD (j + c) 0 := by
       have h9 : ((A.getD (i + c) 0).toNat : Int) = ((B.getD (j + c) 0).toNat : Int) := h
       exact UInt8.toNat_inj.1 (by omega)
     refine ⟨c + 1, ⟨by omega, hs.trans (hstep.trans ⟨fun x => x.2, fun x => ⟨heq, x⟩⟩)⟩, by omega, ?_⟩
     conv => whnf
     exact GOES.cA h0
 · repeat' ((first | refine AU ?_ | (refine IW (fun h => ?_) (fun h => ?_) <;> try (exfalso; omega))) <;> conv => whnf)
   refine FIN.valueK h0 rfl (congrArg SV.bool (decide_eq_true (hs.2 ?_)).symm)
   rw [show n - c = 0 by omega]; rfl
theorem Z5k : ∀ (l : List UInt8), Ze (List.replicate l.length (.int .u8)) (l.map Sx.bytesRow).flatten (l.map Sx.bytesRow).flatten = some true
 | [] => rfl
 | c :: l => by
   have ih := Z5k l
   simp only [List.length_cons, List.replicate_succ, List.map_cons, List.flatten_cons, Sx.bytesRow, List.cons_append, List.nil_append, Ze]
   rw [ih]
   simp [YN]
theorem Z3k (s : S8) : Ze (List.replicate 32 (.int .u8)) ((outB s).map Sx.bytesRow).flatten ((outB s).map Sx.bytesRow).flatten = some true := Z5k (outB s)
theorem Z1g (A B : List UInt8) (hl : A.length + B.length ≤ 140737488351232) : Does Tryd.prog tab 8 2 [.sl (.loc 0) 0 1 A.length none, .sl (.loc 1) 0 1 B.length none] [] [(0, .rows 1 (A.map Sx.bytesRow)), (1, .rows 1 (B.map Sx.bytesRow))] (YE 2 (A ++ B)) := by
 have hw : IntKind.i64.wrap ((A.length : Int) + (B.length : Int)) = ((A.length + B.length : Nat) : Int) := by rw [Zc (by omega) (by omega)]; omega
 have hA : ((A.map Sx.bytesRow).drop 0).take A.length = A.map Sx.bytesRow := Z1e A
 have hB : ((B.map Sx.bytesRow).drop 0).take B.length = B.map Sx.bytesRow := Z1e B
 refine Does.enter Z0 (g := 8) (fn := Tryd.f8) Tryd.call8 Tryd.func8 rfl 20 rfl rfl [.tmp 4] rfl ?_
 intro w0 F η0 h0
 conv => whnf
 repeat' ((first | (rw [hw]; conv => whnf) | (rw [hA]; conv => whnf) | (rw [hB]; conv => whnf) | (refine NEED.mk (Z1N 1 rfl (by omega) (by omega) (by omega)) ?_; conv => whnf) | (refine NEED.mk ⟨by simp, by omega, by rw [List.length_replicate]; omega⟩ ?_; conv => whnf) | (refine NEED.mk (Yq 1 rfl rfl (by simp) (by simp) (by omega)) ?_; conv => whnf) | refine AU ?_ | (refine IW (fun h => ?_) (fun h => ?_) <;> try (exfalso; omega))) <;> conv => whnf)
 refine FIN.rows h0 3 1 (A.length + B.length) (by rw [Int.toNat_natCast]; rfl) ?_ rfl (Z2 (A ++ B)) ⟨by rw [List.length_append], rfl, rfl⟩
 refine congrArg (fun x => some (Hp.rows 1 x)) ?_
 rw [Int.toNat_natCast, List.take_zero, List.nil_append, List.take_left' (by simp), List.map_append]
theorem CALL.two {M : Mx} {O : Hps} {nx : Nat} {f : FuncId} {args argsc : List SV} {K : SV → Hps → Nat → Prop} {rs rs' : List (List SV)} {Q : SV → Hps → Nat → Prop} (i j : Nat) (sp : Does M.P M.C.T f 2 argsc [] [(0, .rows 1 rs), (1, .rows 1 rs')] Q)
   (ha : args = renL (Zu [i, j] nx) argsc) (hi : Nat.blt i nx = true) (hj : Nat.blt j nx = true) (hb : Zr 2 argsc = true) (hO : ZR M.C O (.loc i) = some (.rows 1 rs)) (hO' : ZR M.C O (.loc j) = some (.rows 1 rs')) (hp : Zw rs = true) (hp' : Zw rs' = true)
   (hK : ∀ r O' nx', Q r O' nx' → K (ren (Zu [i, j] nx) r) (renO (Zu [i, j] nx) O' ++ O) (nx + (nx' - 2))) : CALL M f args O nx K := by
 refine CALL.of [i, j] sp rfl (fun a ha => by simp [Nat.blt_eq] at hi hj ha; omega) ha hb (fun p hp => by cases hp) (fun j hj => by cases hj) (fun p hpm => ?_) (fun r O' nx' hq => ?_)
 · simp only [List.mem_cons, List.not_mem_nil, or_false] at hpm
   rcases hpm with rfl | rfl
   · exact ⟨by simp, by rw [show renH (Zu [i, j] nx) (.rows 1 rs) = .rows 1 rs from Zd _ hp]; exact hO, Y3 _ hp, by simp [Zk]⟩
   · exact ⟨by simp, by rw [show renH (Zu [i, j] nx) (.rows 1 rs') = .rows 1 rs' from Zd _ hp']; exact hO', Y3 _ hp', by simp [Zk]⟩
 · simp only [Zk, List.map_nil, X7]
   exact hK r O' nx' hq
theorem CALL.two_new {M : Mx} {O : Hps} {nx : Nat} {f : FuncId} {args argsc : List SV} {K : SV → Hps → Nat → Prop} {rs rs' : List (List SV)} {l : List UInt8} (i j : Nat) (sp : Does M.P M.C.T f 2 argsc [] [(0, .rows 1 rs), (1, .rows 1 rs')] (YE 2 l))
   (ha : args = renL (Zu [i, j] nx) argsc) (hi : Nat.blt i nx = true) (hj : Nat.blt j nx = true) (hb : Zr 2 argsc = true) (hO : ZR M.C O (.loc i) = some (.rows 1 rs)) (hO' : ZR M.C O (.loc j) = some (.rows 1 rs')) (hp : Zw rs = true) (hp' : Zw rs' = true)
   (hK : K (.sl (.loc nx) 0 1 l.length none) ((nx, .rows 1 (l.map Sx.bytesRow)) :: O) (nx + 1)) : CALL M f args O nx K := by
 refine CALL.two i j sp ha hi hj hb hO hO' hp hp' ?_
 rintro r' O' nx' ⟨rfl, rfl, rfl⟩
 simp only [ren, renB, renO, renH, Zf _ (Z2 l), WC (L := [i, j]) (nx := nx) (k := 2) rfl, List.cons_append, List.nil_append]
 exact hK
theorem CALL.two_look {M : Mx} {O : Hps} {nx : Nat} {f : FuncId} {args argsc : List SV} {K : SV → Hps → Nat → Prop} {rs rs' : List (List SV)} {r : SV} (i j : Nat) (sp : Does M.P M.C.T f 2 argsc [] [(0, .rows 1 rs), (1, .rows 1 rs')] (ValK 2 r))
   (ha : args = renL (Zu [i, j] nx) argsc) (hi : Nat.blt i nx = true) (hj : Nat.blt j nx = true) (hb : Zr 2 argsc = true) (hO : ZR M.C O (.loc i) = some (.rows 1 rs)) (hO' : ZR M.C O (.loc j) = some (.rows 1 rs')) (hp : Zw rs = true) (hp' : Zw rs' = true) (hr : plain r = true)
   (hK : K r O nx) : CALL M f args O nx K := by
 refine CALL.two i j sp ha hi hj hb hO hO' hp hp' ?_
 rintro r' O' nx' ⟨rfl, rfl, rfl⟩
 rw [YH _ hr]
 exact hK
def hx (m : List UInt8) (t : Nat) : Hp := .box (YM (XM Yf m) (.sl (.loc t) 0 1 (Yi m).length none) (m.length : Int))
def tl (m : List UInt8) : Hp := .rows 1 ((Yi m).map Sx.bytesRow)
theorem Z3l (σ : Nat → Nat) (m : List UInt8) (t : Nat) : renH σ (hx m t) = hx m (σ t) := rfl
theorem Wb (σ : Nat → Nat) (m : List UInt8) : renH σ (tl m) = tl m := Zd _ (h := tl m) (Z2 _)
theorem Yr (m : List UInt8) (hm : m.length ≤ 140737488351232) : Does Tryd.prog tab 10 2 [.ptr (.loc 0) 0 0 0] [] [(0, hx m 1), (1, tl m)] (ValK 2 (.arr 1 ((digM m).map Sx.bytesRow))) := by
 have h := Z1M (XM Yf m) (Yi m) m.length (by rw [YK]; omega) hm
 rw [Z0o] at h
 exact h
theorem Zp (m : List UInt8) : Does Tryd.prog tab 12 2 [.ptr (.loc 0) 0 0 0] [] [(0, hx m 1), (1, tl m)] (ValK 2 (.int .i64 (m.length : Int))) := Z3Y _ .any _ (Yi m)
theorem Y7 (m : List UInt8) : Does Tryd.prog tab 9 2 [.ptr (.loc 0) 0 0 0] [] [(0, hx m 1), (1, tl m)] (fun r O nx => r = .ptr (.loc 2) 0 0 0 ∧ O = [(2, hx m 3), (3, tl m)] ∧ nx = 4) := Z3i _ _ _ (by rw [YK]; omega)
theorem Jx (m b : List UInt8) (n : Nat) (hn : n ≤ b.length) (hb : b.length ≤ 1048577) (hm : m.length ≤ 1048576) : Does Tryd.prog tab 6 3 [.ptr (.loc 0) 0 0 0, .sl (.loc 2) 0 1 n none] [(0, hx m 1), (1, tl m)] [(2, .rows 1 (b.map Sx.bytesRow))]
   (fun r' O nx => r' = .tup [] ∧ O = [(0, hx (m ++ b.take n) 3), (3, tl (m ++ b.take n))] ∧ nx = 4) := by
 have h := Wa (XM Yf m) (Yi m) b m.length 0 n (by omega) (by omega) (by rw [YK]; omega) (by omega)
 rw [List.drop_zero, Vl, Z0n] at h
 unfold hx tl
 rw [show (m ++ b.take n).length = m.length + n by simp; omega]
 exact h
theorem Xu (b : List UInt8) (hb : b.length ≤ 140737488351232) : Does Tryd.prog tab 11 1 [.sl (.loc 0) 0 1 b.length none] [] [(0, .rows 1 (b.map Sx.bytesRow))] (ValK 1 (.arr 1 ((digM b).map Sx.bytesRow))) := by
 have h := Z0w b 0 b.length (by omega) hb
 rwa [List.drop_zero, List.take_length] at h
theorem UF (b : List UInt8) (hb : b.length ≤ 140737488351232) : Does Tryd.prog tab 13 1 [.sl (.loc 0) 0 1 b.length none] [] [(0, .rows 1 (b.map Sx.bytesRow))] (ValK 1 (.arr 1 ((digM b).map Sx.bytesRow))) := by
 have h := Z0A b 0 b.length (by omega) (by omega) hb
 rwa [List.drop_zero, List.take_length] at h
theorem Z3Z (b : List UInt8) (hb : b.length ≤ 1048576) : Does Tryd.prog tab 5 1 [.sl (.loc 0) 0 1 b.length none] [] [(0, .rows 1 (b.map Sx.bytesRow))] (YE 1 b) := by
 have h := Z1f b 0 b.length (by omega) (by omega)
 rwa [List.drop_zero, List.take_length] at h
theorem Z40 (b : List UInt8) (c : UInt8) (hb : b.length ≤ 1048576) : Does Tryd.prog tab 7 2 [.sl (.loc 0) 0 1 b.length none, .sl (.loc 1) 0 1 b.length none] [] [(0, .rows 1 ((b ++ [c]).map Sx.bytesRow)), (1, .rows 1 (b.map Sx.bytesRow))] (ValK 2 (.bool true)) := by
 have h := Z3j (b ++ [c]) b 0 b.length 0 b.length (by simp) (by omega) (by simp; omega) (by omega)
 rwa [decide_eq_true (by simp)] at h
theorem YS (m : List UInt8) : (Ze (List.replicate 32 (.int .u8)) ((digM m).map Sx.bytesRow).flatten ((digM m).map Sx.bytesRow).flatten).isSome = true := by unfold digM; rw [Z3k]; rfl
theorem YT (m : List UInt8) : (!eqB (List.replicate 32 (.int .u8)) ((digM m).map Sx.bytesRow).flatten ((digM m).map Sx.bytesRow).flatten) = false := by unfold eqB digM; rw [Z3k]; rfl
def ByteIn (w : World) (p : Option Addr) (b : List UInt8) (c : Nat) : Prop := (∃ en, LentIn w (.slice p b.length c) 1 (b.map Sx.bytesRow) en) ∨ (b = [] ∧ c = 0)
theorem ByteIn.now {w w' : World} {F : Nat → Prop} {p : Option Addr} {b : List UInt8} {c : Nat} (h : ByteIn w p b c) (hf : FrW w w' F) (hF : ∀ k, ¬ F k) : ByteIn w' p b c := h.imp (fun ⟨en, h⟩ => ⟨en, h.now hf hF⟩) id
theorem Z0F (p : Option Addr) : Does Tryd.prog tab 5 0 [.val (.slice p 0 0)] [] [] (YE 0 []) := by
 refine Does.enter Z0 (g := 5) (fn := Tryd.f5) Tryd.call5 Tryd.func5 rfl 11 rfl rfl [.tmp 2] rfl ?_
 intro w0 F η0 h0
 conv => whnf
 repeat' ((first | (refine NEED.mk (Z1N 1 rfl (by omega) (by omega) (by omega)) ?_; conv => whnf) | (refine NEED.mk ⟨by simp, by omega, by rw [List.length_replicate]; omega⟩ ?_; conv => whnf) | refine AU ?_ | (refine IW (fun h => ?_) (fun h => ?_) <;> try (exfalso; omega))) <;> conv => whnf)
 exact FIN.rows h0 0 1 0 rfl rfl rfl rfl ⟨rfl, rfl, rfl⟩
theorem Z2g (A : List UInt8) (p : Option Addr) : Does Tryd.prog tab 7 1 [.sl (.loc 0) 0 1 0 none, .val (.slice p 0 0)] [] [(0, .rows 1 (A.map Sx.bytesRow))] (ValK 1 (.bool true)) := by
 refine Does.enter Z0 (g := 7) (fn := Tryd.f7) Tryd.call7 Tryd.func7 rfl 26 rfl rfl [.tmp 4] rfl ?_
 intro w0 F η0 h0
 conv => whnf
 repeat' ((first | refine AU ?_ | (refine IW (fun h => ?_) (fun h => ?_) <;> try (exfalso; omega))) <;> conv => whnf)
 refine LOOP.once Z0 ?_
 conv => whnf
 repeat' ((first | refine AU ?_ | (refine IW (fun h => ?_) (fun h => ?_) <;> try (exfalso; omega))) <;> conv => whnf)
 exact FIN.valueK h0 rfl rfl
theorem Z0G (A : List UInt8) (p : Option Addr) (hl : A.length ≤ 140737488351232) : Does Tryd.prog tab 8 1 [.sl (.loc 0) 0 1 A.length none, .val (.slice p 0 0)] [] [(0, .rows 1 (A.map Sx.bytesRow))] (YE 1 A) := by
 have hw : IntKind.i64.wrap ((A.length : Int) + ((0 : Nat) : Int)) = (A.length : Int) := by rw [Zc (by omega) (by omega)]; omega
 have hA : ((A.map Sx.bytesRow).drop 0).take A.length = A.map Sx.bytesRow := Z1e A
 refine Does.enter Z0 (g := 8) (fn := Tryd.f8) Tryd.call8 Tryd.func8 rfl 20 rfl rfl [.tmp 4] rfl ?_
 intro w0 F η0 h0
 conv => whnf
 repeat' ((first | (rw [hw]; conv => whnf) | (rw [hA]; conv => whnf) | (refine NEED.mk (Z1N 1 rfl (by omega) (by omega) (by omega)) ?_; conv => whnf) | (refine NEED.mk ⟨by simp, by omega, by rw [List.length_replicate]; omega⟩ ?_; conv => whnf) | (refine NEED.mk (Yq 1 rfl rfl (by simp) (by simp) (by omega)) ?_; conv => whnf) | refine AU ?_ | (refine IW (fun h => ?_) (fun h => ?_) <;> try (exfalso; omega))) <;> conv => whnf)
 refine FIN.rows h0 2 1 A.length (by rw [Int.toNat_natCast]; rfl) ?_ rfl (Z2 A) ⟨rfl, rfl, rfl⟩
 refine congrArg (fun x => some (Hp.rows 1 x)) ?_
 rw [Int.toNat_natCast, List.take_zero, List.nil_append, List.take_left' (by simp), List.append_nil]
theorem Z0H (n : Nat) : Nat.beq n n = true := Nat.beq_refl n
theorem Z0I {C : Cx} {O : Hps} {nx y : Nat} {h g : Hp} (hy : y ≠ nx) (h1 : ZR C O (.loc y) = some g) : ZR { C with S := (.loc nx, h) :: C.S } O (.loc y) = some g := by
 simp only [ZR] at h1 ⊢
 split
 · rename_i h2; rw [h2] at h1; exact h1
 · rename_i h2
   rw [h2] at h1
   have : Nat.beq y nx = false := by rw [← Bool.not_eq_true]; intro h3; exact hy (Nat.eq_of_beq_eq_true h3)
   simp only [lkpB, WL, this]
   exact h1
theorem UG {C : Cx} {O : Hps} {nx : Nat} {h : Hp} (hO : lkp nx O = none) : ZR { C with S := (.loc nx, h) :: C.S } O (.loc nx) = some h := by
 simp only [ZR, hO, lkpB, WL, Z0H]
section
variable {P : Program} {C : Cx} {w1 : World} {F : Nat → Prop} {η0 : Env} {O : Hps} {nx : Nat} {K : SV → Hps → Nat → Prop} {p : Option Addr} {b : List UInt8} {c : Nat}
theorem CALL.cop (hT : C.T = tab) (hO : lkp nx O = none) (hv : ByteIn w1 p b c) (hF : ∀ k, ¬ F k) (hb : b.length ≤ 1048576)
   (hK : K (.sl (.loc (nx + 1)) 0 1 b.length none) ((nx + 1, .rows 1 (b.map Sx.bytesRow)) :: O) (nx + 1 + 1)) : CALL ⟨Tryd.prog, C, w1, F, η0⟩ 5 [.val (.slice p b.length c)] O nx K := by
 rcases hv with ⟨en, hv⟩ | ⟨rfl, rfl⟩
 · refine CALL.lent [] [] hv hF rfl (fun η1 => ?_)
   rw [List.length_map]
   exact CALL.bytes1 (argsc := [.sl (.loc 0) 0 1 b.length none]) nx (by simp only [hT]; exact Z3Z b hb) rfl (by simp [Nat.blt_eq]) rfl (UG hO) (Z2 _) hK
 · exact CALL.burn (CALL.bytes (args := [.val (.slice p 0 0)]) (by simp only [hT]; exact Z0F p) rfl hK)
theorem CALL.sam {y : Nat} {d : UInt8} (hT : C.T = tab) (hO : lkp nx O = none) (hy : Nat.blt y nx = true) (hOy : ZR C O (.loc y) = some (.rows 1 ((b ++ [d]).map Sx.bytesRow))) (hv : ByteIn w1 p b c) (hF : ∀ k, ¬ F k) (hb : b.length ≤ 1048576)
   (hK : K (.bool true) O (nx + 1)) : CALL ⟨Tryd.prog, C, w1, F, η0⟩ 7 [.sl (.loc y) 0 1 b.length none, .val (.slice p b.length c)] O nx K := by
 have hyn : y < nx := by simpa [Nat.blt_eq] using hy
 rcases hv with ⟨en, hv⟩ | ⟨rfl, rfl⟩
 · refine CALL.lent [.sl (.loc y) 0 1 b.length none] [] hv hF rfl (fun η1 => ?_)
   rw [List.length_map]
   exact CALL.two_look (argsc := [.sl (.loc 0) 0 1 b.length none, .sl (.loc 1) 0 1 b.length none]) y nx (by simp only [hT]; exact Z40 b d hb) rfl (by simp [Nat.blt_eq]; omega) (by simp [Nat.blt_eq]) rfl (Z0I (by omega) hOy) (UG hO) (Z2 _) (Z2 _) rfl hK
 · refine CALL.burn ?_
   exact CALL.look1 (argsc := [.sl (.loc 0) 0 1 0 none, .val (.slice p 0 0)]) y (by simp only [hT]; exact Z2g ([] ++ [d]) p) rfl (by simp [Nat.blt_eq]; omega) rfl hOy (Z2 _) rfl hK
theorem CALL.joi {y : Nat} {A : List UInt8} (hT : C.T = tab) (hO : lkp nx O = none) (hy : Nat.blt y nx = true) (hOy : ZR C O (.loc y) = some (.rows 1 (A.map Sx.bytesRow))) (hv : ByteIn w1 p b c) (hF : ∀ k, ¬ F k) (hb : A.length + b.length ≤ 140737488351232)
   (hK : K (.sl (.loc (nx + 1)) 0 1 (A ++ b).length none) ((nx + 1, .rows 1 ((A ++ b).map Sx.bytesRow)) :: O) (nx + 1 + 1)) : CALL ⟨Tryd.prog, C, w1, F, η0⟩ 8 [.sl (.loc y) 0 1 A.length none, .val (.slice p b.length c)] O nx K := by
 have hyn : y < nx := by simpa [Nat.blt_eq] using hy
 rcases hv with ⟨en, hv⟩ | ⟨rfl, rfl⟩
 · refine CALL.lent [.sl (.loc y) 0 1 A.length none] [] hv hF rfl (fun η1 => ?_)
   rw [List.length_map]
   exact CALL.two_new (argsc := [.sl (.loc 0) 0 1 A.length none, .sl (.loc 1) 0 1 b.length none]) y nx (by simp only [hT]; exact Z1g A b hb) rfl (by simp [Nat.blt_eq]; omega) (by simp [Nat.blt_eq]) rfl (Z0I (by omega) hOy) (UG hO) (Z2 _) (Z2 _) hK
 · rw [List.append_nil] at hK
   refine CALL.burn ?_
   exact CALL.bytes1 (argsc := [.sl (.loc 0) 0 1 A.length none, .val (.slice p 0 0)]) y (by simp only [hT]; exact Z0G A p (by simpa using hb)) rfl (by simp [Nat.blt_eq]; omega) rfl hOy (Z2 _) hK
end
end Go.Proofs.YtgjnlngljmfefaaDoor
