/- The walks of SumsCombine and SumsJoins. -/
import Derived.Test.YtjgjfeicenkceaaDoorCrcM
import Derived.Lib.SlBytesConst
set_option linter.unusedVariables false
namespace Go.Proofs.YtjgjfeicenkceaaDoor
open Go.RowKit Go.Our Go.Crc

theorem zeros_flat (n : Nat) : (List.replicate n [Value.int .u8 0]).flatten = (List.replicate n (0 : UInt8)).map byteV := by
  induction n with
  | zero => rfl
  | succ n ih => rw [List.replicate_succ, List.replicate_succ, List.flatten_cons, ih]; rfl

theorem refcombine_any (w : World) (x y : BitVec 32) (n : Int) (hn : n ≤ 4096) :
    Calls Tryd.prog 16 #[.int .u32 (U x), .int .u32 (U y), .int .i64 n] w fun e w' => e = .returned (.int .u32 (U (combine x y n.toNat))) ∧ Below w.heap.size w w' := by
  obtain ⟨M, hM⟩ : ∃ M, M = n.toNat := ⟨_, rfl⟩
  obtain ⟨m, hm63, hmM, hcase⟩ : ∃ m : Nat, m ≤ 4096 ∧ M = m ∧ (n ≤ 0 ∧ m = 0 ∨ 0 < n ∧ n = (m : Int)) := ⟨M, by omega, rfl, by omega⟩
  rw [← hM, hmM]
  clear hM hmM
  rcases hcase with ⟨h0, hm0⟩ | ⟨h0, rfl⟩
  · have HM := Lib.hid hm0
    clear hm0
    go_enter Tryd.func16, Tryd.ntmps16
    go_wp2_with (at_make; refine wpList_makeE rfl _ _ elB rfl w.heap.size m m rfl rfl ?c3 ?c4 (Nat.le_refl _) ?c1 ?c2 (Nat.le_refl _) ?_)
    case c1 => omega
    case c2 => unfold maxLen; omega
    case c3 => rw [HM.out]; rfl
    case c4 => rw [HM.out]; rfl
    intro w1 hown hg
    have hb1 : Below w.heap.size w w1 := (Below.refl _ _).grown hg (Nat.le_refl _) (fun k hk => by cases hk)
    have hB : Bytes w1 w1.heap.size (some ⟨w.heap.size, 0, none⟩) (List.replicate m 0) := by
      have := Arr.of_own hown
      unfold Bytes
      rw [← zeros_flat]
      simpa using this
    clear hg hown
    have hr : ∀ c, Calls Tryd.prog 13 #[.int .u32 (U c), .slice (some ⟨w.heap.size, 0, none⟩) m m] w1 _ := fun c => by
      have := refupdate_any w1 w1.heap.size c _ m _ hB (by simp; omega)
      rw [List.length_replicate] at this
      exact this
    have HR := Lib.hid hr
    clear hr
    go_wp2_with fail
    refine (HR.out x).mono ?_
    rintro e w' ⟨rfl, rfl⟩
    go_wp2_with fail
    refine (HR.out 0#32).mono ?_
    rintro e w' ⟨rfl, rfl⟩
    go_wp2_with fail
    go_ret
    exact ⟨congrArg (fun x => Ending.returned (.int .u32 (U x))) (combine_ref x y m), hb1⟩
  · go_enter Tryd.func16, Tryd.ntmps16
    go_wp2_with (at_make; refine wpList_makeE rfl _ _ elB rfl w.heap.size m m rfl rfl ?c3 ?c4 (Nat.le_refl _) ?c1 ?c2 (Nat.le_refl _) ?_)
    case c1 => omega
    case c2 => unfold maxLen; omega
    case c3 => omega
    case c4 => omega
    intro w1 hown hg
    have hb1 : Below w.heap.size w w1 := (Below.refl _ _).grown hg (Nat.le_refl _) (fun k hk => by cases hk)
    have hB : Bytes w1 w1.heap.size (some ⟨w.heap.size, 0, none⟩) (List.replicate m 0) := by
      have := Arr.of_own hown
      unfold Bytes
      rw [← zeros_flat]
      simpa using this
    clear hg hown
    have hr : ∀ c, Calls Tryd.prog 13 #[.int .u32 (U c), .slice (some ⟨w.heap.size, 0, none⟩) m m] w1 _ := fun c => by
      have := refupdate_any w1 w1.heap.size c _ m _ hB (by simp; omega)
      rw [List.length_replicate] at this
      exact this
    have HR := Lib.hid hr
    clear hr
    go_wp2_with fail
    refine (HR.out x).mono ?_
    rintro e w' ⟨rfl, rfl⟩
    go_wp2_with fail
    refine (HR.out 0#32).mono ?_
    rintro e w' ⟨rfl, rfl⟩
    go_wp2_with fail
    go_ret
    exact ⟨congrArg (fun x => Ending.returned (.int .u32 (U x))) (combine_ref x y m), hb1⟩

theorem joined_any (w : World) (A A' : Option Addr) (cap cap' : Nat) (xs ys : List UInt8) (ha : Bytes w w.heap.size A xs) (hb : Bytes w w.heap.size A' ys) (hn : xs.length ≤ 140737488351232) (hm : ys.length ≤ 140737488351232) :
    Calls Tryd.prog 17 #[.slice A xs.length cap, .slice A' ys.length cap'] w fun e w' => ∃ g c, e = .returned (.slice (some ⟨g, 0, none⟩) (xs.length + ys.length) c) ∧
      w'.ownsRow w.heap.size 5 1 (.slice (some ⟨g, 0, none⟩) (xs.length + ys.length) c) (xs.length + ys.length) ((xs ++ ys).map byteV) ∧ Below w.heap.size w w' := by
  go_enter Tryd.func17, Tryd.ntmps17
  go_wp2_with (at_make; refine wpList_makeE rfl _ _ elB rfl w.heap.size xs.length (xs.length + ys.length) rfl rfl ?c3 ?c4 ?c5 ?c1 ?c2 (Nat.le_refl _) ?_)
  case c1 => omega
  case c2 => unfold maxLen; omega
  case c3 => omega
  case c4 => omega
  case c5 => omega
  intro w1 hown hg
  have hb1 : Below w.heap.size w w1 := (Below.refl _ _).grown hg (Nat.le_refl _) (fun k hk => by cases hk)
  have hA1 := (ha.below hb1).arr
  clear hg
  go_wp2_with (with_reducible refine wpList_copyE rfl (.tmp 14) (.tmp 15) elB rfl rfl hown rfl hA1 (by simp) (byteV_one _) (Nat.le_refl _) ?_)
  intro w2 hown2 hg2
  have hb2 : Below w.heap.size w w2 := hb1.grown hg2 hb1.size (fun k hk => by cases hk; exact Nat.le_refl _)
  have hB2 := (hb.below hb2).arr
  have hown3 : w2.ownsRow w.heap.size 5 1 (.slice (some ⟨w.heap.size, 0, none⟩) xs.length (xs.length + ys.length)) xs.length (xs.map byteV) := by simpa using hown2
  have hsz := hb2.size
  clear hg2 hown hA1 hown2
  go_wp2_with (at_builtin; refine wpList_appendF rfl (.tmp 17) (.tmp 18) elB rfl rfl hown3 rfl hB2 (by simp) (byteV_one _) (Nat.le_refl _) ?_)
  intro w3 hown4 hg3
  have hb3 : Below w.heap.size w w3 := hb2.grown hg3 hsz (fun k hk => by cases hk; exact Nat.le_refl _)
  clear hg3
  go_wp2
  go_ret
  exact ⟨_, _, rfl, by rw [List.map_append]; exact hown4, hb3⟩

theorem U_ne {a b : BitVec 32} (h : a = b) : (U a != U b) = false := by simp [h]
theorem U_eq {a b : BitVec 32} (h : a = b) : (U a == U b) = true := by simp [h]

-- the cases: printed by gen_combine.py
set_option maxHeartbeats 400000 in
theorem lawCombine_big_pos (w : World) (x y z : BitVec 32) (m n : Int) (ht : Tab w) (h4 : 4096 < m) (hm' : m ≤ 9223372036854775807) (hn : 0 < n) (hn' : n ≤ 9223372036854775807) :
    Calls Tryd.prog 5 #[.int .u32 (U x), .int .u32 (U y), .int .u32 (U z), .int .i64 m, .int .i64 n] w fun e w' => e = .returned (.bool true) ∧ Below w.heap.size w w' := by
  have e1 := U_ne (show combine x y m.toNat = combine x y m.toNat from rfl)
  have e2 := U_ne (show combine x y 0 = x ^^^ y from rfl)
  have e3 := U_ne (show combine x 0#32 1 = combine x 0#32 1 from rfl)
  have q : (U (combine (combine x y m.toNat) z n.toNat) == U (combine x (combine y z n.toNat) (m + n).toNat)) = true := U_eq (by rw [combine_assoc] <;> (try congr 1) <;> (try omega))
  have hw0 : Below w.heap.size w w := Below.refl _ _
  have HZ : m.toNat = m.toNat := rfl
  clear HZ
  go_enter Tryd.func5, Tryd.ntmps5
  go_wp2_with fail
  refine (combine_any w x y (-3) ht (by decide)).mono ?_
  rintro e w1 ⟨rfl, hb1⟩
  have hw1 := below_trans hw0 hb1
  have ht1 := tab_on ht hw1
  clear hb1 hw0
  go_wp2_with fail
  refine (combine_any w1 x 0#32 1 ht1 (by decide)).mono ?_
  rintro e w2 ⟨rfl, hb2⟩
  have hw2 := below_trans hw1 hb2
  have ht2 := tab_on ht hw2
  clear hb2 hw1 ht1
  go_wp2_with fail
  refine (refcombine_any w2 x 0#32 1 (by decide)).mono ?_
  rintro e w3 ⟨rfl, hb3⟩
  have hw3 := below_trans hw2 hb3
  have ht3 := tab_on ht hw3
  clear hb3 hw2 ht2
  by_cases hbig : m ≤ 2305843009213693952 ∧ n ≤ 2305843009213693952
  · obtain ⟨hx1, hx2⟩ := hbig
    go_wp2_with fail
    refine (combine_any w3 x y m ht3 (by omega)).mono ?_
    rintro e w4 ⟨rfl, hb4⟩
    have hw4 := below_trans hw3 hb4
    have ht4 := tab_on ht hw4
    clear hb4 hw3 ht3
    go_wp2_with fail
    refine (combine_any w4 (combine x y m.toNat) z n ht4 (by omega)).mono ?_
    rintro e w5 ⟨rfl, hb5⟩
    have hw5 := below_trans hw4 hb5
    have ht5 := tab_on ht hw5
    clear hb5 hw4 ht4
    go_wp2_with fail
    refine (combine_any w5 y z n ht5 (by omega)).mono ?_
    rintro e w6 ⟨rfl, hb6⟩
    have hw6 := below_trans hw5 hb6
    have ht6 := tab_on ht hw6
    clear hb6 hw5 ht5
    go_wp2_with fail
    refine (combine_any w6 x (combine y z n.toNat) (m + n) ht6 (by omega)).mono ?_
    rintro e w7 ⟨rfl, hb7⟩
    have hw7 := below_trans hw6 hb7
    have ht7 := tab_on ht hw7
    clear hb7 hw6 ht6
    go_wp2_with fail
    go_ret
    exact ⟨rfl, hw7⟩
  · have hx : 2305843009213693952 < m ∨ 2305843009213693952 < n := by omega
    go_wp2_with fail
    all_goals first | (exfalso; omega) | (go_ret; exact ⟨rfl, by assumption⟩)
set_option maxHeartbeats 400000 in
theorem lawCombine_big_neg (w : World) (x y z : BitVec 32) (m n : Int) (ht : Tab w) (h4 : 4096 < m) (hm' : m ≤ 9223372036854775807) (hn : n ≤ 0) (hn' : n ≤ 9223372036854775807) :
    Calls Tryd.prog 5 #[.int .u32 (U x), .int .u32 (U y), .int .u32 (U z), .int .i64 m, .int .i64 n] w fun e w' => e = .returned (.bool true) ∧ Below w.heap.size w w' := by
  have e1 := U_ne (show combine x y m.toNat = combine x y m.toNat from rfl)
  have e2 := U_ne (show combine x y 0 = x ^^^ y from rfl)
  have e3 := U_ne (show combine x 0#32 1 = combine x 0#32 1 from rfl)
  have q : (U (combine (combine x y m.toNat) z 0) == U (combine x (combine y z 0) m.toNat)) = true := U_eq (by rw [combine_assoc] <;> (try congr 1) <;> (try omega))
  have hw0 : Below w.heap.size w w := Below.refl _ _
  have HZ : m.toNat = m.toNat := rfl
  clear HZ
  go_enter Tryd.func5, Tryd.ntmps5
  go_wp2_with fail
  refine (combine_any w x y (-3) ht (by decide)).mono ?_
  rintro e w1 ⟨rfl, hb1⟩
  have hw1 := below_trans hw0 hb1
  have ht1 := tab_on ht hw1
  clear hb1 hw0
  go_wp2_with fail
  refine (combine_any w1 x 0#32 1 ht1 (by decide)).mono ?_
  rintro e w2 ⟨rfl, hb2⟩
  have hw2 := below_trans hw1 hb2
  have ht2 := tab_on ht hw2
  clear hb2 hw1 ht1
  go_wp2_with fail
  refine (refcombine_any w2 x 0#32 1 (by decide)).mono ?_
  rintro e w3 ⟨rfl, hb3⟩
  have hw3 := below_trans hw2 hb3
  have ht3 := tab_on ht hw3
  clear hb3 hw2 ht2
  by_cases hbig : m ≤ 2305843009213693952 ∧ n ≤ 2305843009213693952
  · obtain ⟨hx1, hx2⟩ := hbig
    go_wp2_with fail
    refine (combine_any w3 x y m ht3 (by omega)).mono ?_
    rintro e w4 ⟨rfl, hb4⟩
    have hw4 := below_trans hw3 hb4
    have ht4 := tab_on ht hw4
    clear hb4 hw3 ht3
    go_wp2_with fail
    refine (combine_any w4 (combine x y m.toNat) z 0 ht4 (by omega)).mono ?_
    rintro e w5 ⟨rfl, hb5⟩
    have hw5 := below_trans hw4 hb5
    have ht5 := tab_on ht hw5
    clear hb5 hw4 ht4
    go_wp2_with fail
    refine (combine_any w5 y z 0 ht5 (by omega)).mono ?_
    rintro e w6 ⟨rfl, hb6⟩
    have hw6 := below_trans hw5 hb6
    have ht6 := tab_on ht hw6
    clear hb6 hw5 ht5
    go_wp2_with fail
    refine (combine_any w6 x (combine y z 0) m ht6 (by omega)).mono ?_
    rintro e w7 ⟨rfl, hb7⟩
    have hw7 := below_trans hw6 hb7
    have ht7 := tab_on ht hw7
    clear hb7 hw6 ht6
    go_wp2_with fail
    go_ret
    exact ⟨rfl, hw7⟩
  · have hx : 2305843009213693952 < m ∨ 2305843009213693952 < n := by omega
    go_wp2_with fail
    all_goals first | (exfalso; omega) | (go_ret; exact ⟨rfl, by assumption⟩)
set_option maxHeartbeats 400000 in
theorem lawCombine_mid_pos (w : World) (x y z : BitVec 32) (m n : Int) (ht : Tab w) (h0 : 0 < m) (h4 : m ≤ 4096) (hm' : m ≤ 9223372036854775807) (hn : 0 < n) (hn' : n ≤ 9223372036854775807) :
    Calls Tryd.prog 5 #[.int .u32 (U x), .int .u32 (U y), .int .u32 (U z), .int .i64 m, .int .i64 n] w fun e w' => e = .returned (.bool true) ∧ Below w.heap.size w w' := by
  have e1 := U_ne (show combine x y m.toNat = combine x y m.toNat from rfl)
  have e2 := U_ne (show combine x y 0 = x ^^^ y from rfl)
  have e3 := U_ne (show combine x 0#32 1 = combine x 0#32 1 from rfl)
  have q : (U (combine (combine x y m.toNat) z n.toNat) == U (combine x (combine y z n.toNat) (m + n).toNat)) = true := U_eq (by rw [combine_assoc] <;> (try congr 1) <;> (try omega))
  have hw0 : Below w.heap.size w w := Below.refl _ _
  have HZ : m.toNat = m.toNat := rfl
  clear HZ
  go_enter Tryd.func5, Tryd.ntmps5
  go_wp2_with fail
  refine (combine_any w x y m ht hm').mono ?_
  rintro e w1 ⟨rfl, hb1⟩
  have hw1 := below_trans hw0 hb1
  have ht1 := tab_on ht hw1
  clear hb1 hw0
  go_wp2_with fail
  refine (refcombine_any w1 x y m h4).mono ?_
  rintro e w2 ⟨rfl, hb2⟩
  have hw2 := below_trans hw1 hb2
  have ht2 := tab_on ht hw2
  clear hb2 hw1 ht1
  go_wp2_with fail
  refine (combine_any w2 x y (-3) ht2 (by decide)).mono ?_
  rintro e w3 ⟨rfl, hb3⟩
  have hw3 := below_trans hw2 hb3
  have ht3 := tab_on ht hw3
  clear hb3 hw2 ht2
  go_wp2_with fail
  refine (combine_any w3 x 0#32 1 ht3 (by decide)).mono ?_
  rintro e w4 ⟨rfl, hb4⟩
  have hw4 := below_trans hw3 hb4
  have ht4 := tab_on ht hw4
  clear hb4 hw3 ht3
  go_wp2_with fail
  refine (refcombine_any w4 x 0#32 1 (by decide)).mono ?_
  rintro e w5 ⟨rfl, hb5⟩
  have hw5 := below_trans hw4 hb5
  have ht5 := tab_on ht hw5
  clear hb5 hw4 ht4
  by_cases hbig : m ≤ 2305843009213693952 ∧ n ≤ 2305843009213693952
  · obtain ⟨hx1, hx2⟩ := hbig
    go_wp2_with fail
    refine (combine_any w5 x y m ht5 (by omega)).mono ?_
    rintro e w6 ⟨rfl, hb6⟩
    have hw6 := below_trans hw5 hb6
    have ht6 := tab_on ht hw6
    clear hb6 hw5 ht5
    go_wp2_with fail
    refine (combine_any w6 (combine x y m.toNat) z n ht6 (by omega)).mono ?_
    rintro e w7 ⟨rfl, hb7⟩
    have hw7 := below_trans hw6 hb7
    have ht7 := tab_on ht hw7
    clear hb7 hw6 ht6
    go_wp2_with fail
    refine (combine_any w7 y z n ht7 (by omega)).mono ?_
    rintro e w8 ⟨rfl, hb8⟩
    have hw8 := below_trans hw7 hb8
    have ht8 := tab_on ht hw8
    clear hb8 hw7 ht7
    go_wp2_with fail
    refine (combine_any w8 x (combine y z n.toNat) (m + n) ht8 (by omega)).mono ?_
    rintro e w9 ⟨rfl, hb9⟩
    have hw9 := below_trans hw8 hb9
    have ht9 := tab_on ht hw9
    clear hb9 hw8 ht8
    go_wp2_with fail
    go_ret
    exact ⟨rfl, hw9⟩
  · have hx : 2305843009213693952 < m ∨ 2305843009213693952 < n := by omega
    go_wp2_with fail
    all_goals first | (exfalso; omega) | (go_ret; exact ⟨rfl, by assumption⟩)
set_option maxHeartbeats 400000 in
theorem lawCombine_mid_neg (w : World) (x y z : BitVec 32) (m n : Int) (ht : Tab w) (h0 : 0 < m) (h4 : m ≤ 4096) (hm' : m ≤ 9223372036854775807) (hn : n ≤ 0) (hn' : n ≤ 9223372036854775807) :
    Calls Tryd.prog 5 #[.int .u32 (U x), .int .u32 (U y), .int .u32 (U z), .int .i64 m, .int .i64 n] w fun e w' => e = .returned (.bool true) ∧ Below w.heap.size w w' := by
  have e1 := U_ne (show combine x y m.toNat = combine x y m.toNat from rfl)
  have e2 := U_ne (show combine x y 0 = x ^^^ y from rfl)
  have e3 := U_ne (show combine x 0#32 1 = combine x 0#32 1 from rfl)
  have q : (U (combine (combine x y m.toNat) z 0) == U (combine x (combine y z 0) m.toNat)) = true := U_eq (by rw [combine_assoc] <;> (try congr 1) <;> (try omega))
  have hw0 : Below w.heap.size w w := Below.refl _ _
  have HZ : m.toNat = m.toNat := rfl
  clear HZ
  go_enter Tryd.func5, Tryd.ntmps5
  go_wp2_with fail
  refine (combine_any w x y m ht hm').mono ?_
  rintro e w1 ⟨rfl, hb1⟩
  have hw1 := below_trans hw0 hb1
  have ht1 := tab_on ht hw1
  clear hb1 hw0
  go_wp2_with fail
  refine (refcombine_any w1 x y m h4).mono ?_
  rintro e w2 ⟨rfl, hb2⟩
  have hw2 := below_trans hw1 hb2
  have ht2 := tab_on ht hw2
  clear hb2 hw1 ht1
  go_wp2_with fail
  refine (combine_any w2 x y (-3) ht2 (by decide)).mono ?_
  rintro e w3 ⟨rfl, hb3⟩
  have hw3 := below_trans hw2 hb3
  have ht3 := tab_on ht hw3
  clear hb3 hw2 ht2
  go_wp2_with fail
  refine (combine_any w3 x 0#32 1 ht3 (by decide)).mono ?_
  rintro e w4 ⟨rfl, hb4⟩
  have hw4 := below_trans hw3 hb4
  have ht4 := tab_on ht hw4
  clear hb4 hw3 ht3
  go_wp2_with fail
  refine (refcombine_any w4 x 0#32 1 (by decide)).mono ?_
  rintro e w5 ⟨rfl, hb5⟩
  have hw5 := below_trans hw4 hb5
  have ht5 := tab_on ht hw5
  clear hb5 hw4 ht4
  by_cases hbig : m ≤ 2305843009213693952 ∧ n ≤ 2305843009213693952
  · obtain ⟨hx1, hx2⟩ := hbig
    go_wp2_with fail
    refine (combine_any w5 x y m ht5 (by omega)).mono ?_
    rintro e w6 ⟨rfl, hb6⟩
    have hw6 := below_trans hw5 hb6
    have ht6 := tab_on ht hw6
    clear hb6 hw5 ht5
    go_wp2_with fail
    refine (combine_any w6 (combine x y m.toNat) z 0 ht6 (by omega)).mono ?_
    rintro e w7 ⟨rfl, hb7⟩
    have hw7 := below_trans hw6 hb7
    have ht7 := tab_on ht hw7
    clear hb7 hw6 ht6
    go_wp2_with fail
    refine (combine_any w7 y z 0 ht7 (by omega)).mono ?_
    rintro e w8 ⟨rfl, hb8⟩
    have hw8 := below_trans hw7 hb8
    have ht8 := tab_on ht hw8
    clear hb8 hw7 ht7
    go_wp2_with fail
    refine (combine_any w8 x (combine y z 0) m ht8 (by omega)).mono ?_
    rintro e w9 ⟨rfl, hb9⟩
    have hw9 := below_trans hw8 hb9
    have ht9 := tab_on ht hw9
    clear hb9 hw8 ht8
    go_wp2_with fail
    go_ret
    exact ⟨rfl, hw9⟩
  · have hx : 2305843009213693952 < m ∨ 2305843009213693952 < n := by omega
    go_wp2_with fail
    all_goals first | (exfalso; omega) | (go_ret; exact ⟨rfl, by assumption⟩)
set_option maxHeartbeats 400000 in
theorem lawCombine_low_pos (w : World) (x y z : BitVec 32) (m n : Int) (ht : Tab w) (h0 : m ≤ 0) (h4 : m ≤ 4096) (hm' : m ≤ 9223372036854775807) (hn : 0 < n) (hn' : n ≤ 9223372036854775807) :
    Calls Tryd.prog 5 #[.int .u32 (U x), .int .u32 (U y), .int .u32 (U z), .int .i64 m, .int .i64 n] w fun e w' => e = .returned (.bool true) ∧ Below w.heap.size w w' := by
  have e1 := U_ne (show combine x y m.toNat = combine x y m.toNat from rfl)
  have e2 := U_ne (show combine x y 0 = x ^^^ y from rfl)
  have e3 := U_ne (show combine x 0#32 1 = combine x 0#32 1 from rfl)
  have q : (U (combine (combine x y 0) z n.toNat) == U (combine x (combine y z n.toNat) n.toNat)) = true := U_eq (by rw [combine_assoc] <;> (try congr 1) <;> (try omega))
  have hw0 : Below w.heap.size w w := Below.refl _ _
  have HZ : m.toNat = m.toNat := rfl
  clear HZ
  go_enter Tryd.func5, Tryd.ntmps5
  go_wp2_with fail
  refine (combine_any w x y m ht hm').mono ?_
  rintro e w1 ⟨rfl, hb1⟩
  have hw1 := below_trans hw0 hb1
  have ht1 := tab_on ht hw1
  clear hb1 hw0
  go_wp2_with fail
  refine (refcombine_any w1 x y m h4).mono ?_
  rintro e w2 ⟨rfl, hb2⟩
  have hw2 := below_trans hw1 hb2
  have ht2 := tab_on ht hw2
  clear hb2 hw1 ht1
  go_wp2_with fail
  refine (combine_any w2 x y (-3) ht2 (by decide)).mono ?_
  rintro e w3 ⟨rfl, hb3⟩
  have hw3 := below_trans hw2 hb3
  have ht3 := tab_on ht hw3
  clear hb3 hw2 ht2
  go_wp2_with fail
  refine (combine_any w3 x 0#32 1 ht3 (by decide)).mono ?_
  rintro e w4 ⟨rfl, hb4⟩
  have hw4 := below_trans hw3 hb4
  have ht4 := tab_on ht hw4
  clear hb4 hw3 ht3
  go_wp2_with fail
  refine (refcombine_any w4 x 0#32 1 (by decide)).mono ?_
  rintro e w5 ⟨rfl, hb5⟩
  have hw5 := below_trans hw4 hb5
  have ht5 := tab_on ht hw5
  clear hb5 hw4 ht4
  by_cases hbig : m ≤ 2305843009213693952 ∧ n ≤ 2305843009213693952
  · obtain ⟨hx1, hx2⟩ := hbig
    go_wp2_with fail
    refine (combine_any w5 x y 0 ht5 (by omega)).mono ?_
    rintro e w6 ⟨rfl, hb6⟩
    have hw6 := below_trans hw5 hb6
    have ht6 := tab_on ht hw6
    clear hb6 hw5 ht5
    go_wp2_with fail
    refine (combine_any w6 (combine x y 0) z n ht6 (by omega)).mono ?_
    rintro e w7 ⟨rfl, hb7⟩
    have hw7 := below_trans hw6 hb7
    have ht7 := tab_on ht hw7
    clear hb7 hw6 ht6
    go_wp2_with fail
    refine (combine_any w7 y z n ht7 (by omega)).mono ?_
    rintro e w8 ⟨rfl, hb8⟩
    have hw8 := below_trans hw7 hb8
    have ht8 := tab_on ht hw8
    clear hb8 hw7 ht7
    go_wp2_with fail
    refine (combine_any w8 x (combine y z n.toNat) n ht8 (by omega)).mono ?_
    rintro e w9 ⟨rfl, hb9⟩
    have hw9 := below_trans hw8 hb9
    have ht9 := tab_on ht hw9
    clear hb9 hw8 ht8
    go_wp2_with fail
    go_ret
    exact ⟨rfl, hw9⟩
  · have hx : 2305843009213693952 < m ∨ 2305843009213693952 < n := by omega
    go_wp2_with fail
    all_goals first | (exfalso; omega) | (go_ret; exact ⟨rfl, by assumption⟩)
set_option maxHeartbeats 400000 in
theorem lawCombine_low_neg (w : World) (x y z : BitVec 32) (m n : Int) (ht : Tab w) (h0 : m ≤ 0) (h4 : m ≤ 4096) (hm' : m ≤ 9223372036854775807) (hn : n ≤ 0) (hn' : n ≤ 9223372036854775807) :
    Calls Tryd.prog 5 #[.int .u32 (U x), .int .u32 (U y), .int .u32 (U z), .int .i64 m, .int .i64 n] w fun e w' => e = .returned (.bool true) ∧ Below w.heap.size w w' := by
  have e1 := U_ne (show combine x y m.toNat = combine x y m.toNat from rfl)
  have e2 := U_ne (show combine x y 0 = x ^^^ y from rfl)
  have e3 := U_ne (show combine x 0#32 1 = combine x 0#32 1 from rfl)
  have q : (U (combine (combine x y 0) z 0) == U (combine x (combine y z 0) 0)) = true := U_eq (by rw [combine_assoc] <;> (try congr 1) <;> (try omega))
  have hw0 : Below w.heap.size w w := Below.refl _ _
  have HZ : m.toNat = m.toNat := rfl
  clear HZ
  go_enter Tryd.func5, Tryd.ntmps5
  go_wp2_with fail
  refine (combine_any w x y m ht hm').mono ?_
  rintro e w1 ⟨rfl, hb1⟩
  have hw1 := below_trans hw0 hb1
  have ht1 := tab_on ht hw1
  clear hb1 hw0
  go_wp2_with fail
  refine (refcombine_any w1 x y m h4).mono ?_
  rintro e w2 ⟨rfl, hb2⟩
  have hw2 := below_trans hw1 hb2
  have ht2 := tab_on ht hw2
  clear hb2 hw1 ht1
  go_wp2_with fail
  refine (combine_any w2 x y (-3) ht2 (by decide)).mono ?_
  rintro e w3 ⟨rfl, hb3⟩
  have hw3 := below_trans hw2 hb3
  have ht3 := tab_on ht hw3
  clear hb3 hw2 ht2
  go_wp2_with fail
  refine (combine_any w3 x 0#32 1 ht3 (by decide)).mono ?_
  rintro e w4 ⟨rfl, hb4⟩
  have hw4 := below_trans hw3 hb4
  have ht4 := tab_on ht hw4
  clear hb4 hw3 ht3
  go_wp2_with fail
  refine (refcombine_any w4 x 0#32 1 (by decide)).mono ?_
  rintro e w5 ⟨rfl, hb5⟩
  have hw5 := below_trans hw4 hb5
  have ht5 := tab_on ht hw5
  clear hb5 hw4 ht4
  by_cases hbig : m ≤ 2305843009213693952 ∧ n ≤ 2305843009213693952
  · obtain ⟨hx1, hx2⟩ := hbig
    go_wp2_with fail
    refine (combine_any w5 x y 0 ht5 (by omega)).mono ?_
    rintro e w6 ⟨rfl, hb6⟩
    have hw6 := below_trans hw5 hb6
    have ht6 := tab_on ht hw6
    clear hb6 hw5 ht5
    go_wp2_with fail
    refine (combine_any w6 (combine x y 0) z 0 ht6 (by omega)).mono ?_
    rintro e w7 ⟨rfl, hb7⟩
    have hw7 := below_trans hw6 hb7
    have ht7 := tab_on ht hw7
    clear hb7 hw6 ht6
    go_wp2_with fail
    refine (combine_any w7 y z 0 ht7 (by omega)).mono ?_
    rintro e w8 ⟨rfl, hb8⟩
    have hw8 := below_trans hw7 hb8
    have ht8 := tab_on ht hw8
    clear hb8 hw7 ht7
    go_wp2_with fail
    refine (combine_any w8 x (combine y z 0) 0 ht8 (by omega)).mono ?_
    rintro e w9 ⟨rfl, hb9⟩
    have hw9 := below_trans hw8 hb9
    have ht9 := tab_on ht hw9
    clear hb9 hw8 ht8
    go_wp2_with fail
    go_ret
    exact ⟨rfl, hw9⟩
  · have hx : 2305843009213693952 < m ∨ 2305843009213693952 < n := by omega
    go_wp2_with fail
    all_goals first | (exfalso; omega) | (go_ret; exact ⟨rfl, by assumption⟩)
theorem lawCombine_any (w : World) (x y z : BitVec 32) (m n : Int) (ht : Tab w) (hm' : m ≤ 9223372036854775807) (hn' : n ≤ 9223372036854775807) :
    Calls Tryd.prog 5 #[.int .u32 (U x), .int .u32 (U y), .int .u32 (U z), .int .i64 m, .int .i64 n] w fun e w' => e = .returned (.bool true) ∧ Below w.heap.size w w' := by
  by_cases h4 : 4096 < m
  · by_cases hn : 0 < n
    · exact lawCombine_big_pos w x y z m n ht h4 hm' hn hn'
    · exact lawCombine_big_neg w x y z m n ht h4 hm' (by omega) hn'
  · by_cases h0 : 0 < m
    · by_cases hn : 0 < n
      · exact lawCombine_mid_pos w x y z m n ht h0 (by omega) hm' hn hn'
      · exact lawCombine_mid_neg w x y z m n ht h0 (by omega) hm' (by omega) hn'
    · by_cases hn : 0 < n
      · exact lawCombine_low_pos w x y z m n ht (by omega) (by omega) hm' hn hn'
      · exact lawCombine_low_neg w x y z m n ht (by omega) (by omega) hm' (by omega) hn'

theorem sum_len (w : World) (B : Nat) (A : Option Addr) (n cap : Nat) (bs : List UInt8) (hl : bs.length = n) (ht : Tab w) (hb : Bytes w B A bs) (hn : n ≤ 9223372036854775807) :
    Calls Tryd.prog 10 #[.slice A n cap] w fun e w' => e = .returned (.int .u32 (U (update 0#32 bs))) ∧ w = w' := by
  subst hl; exact sum_any w B A cap bs ht hb hn
theorem nine_any (w : World) (ht : Tab w) (A : Option Addr) (c : Nat) (hA : Bytes w w.heap.size A [49, 50, 51, 52, 53, 54, 55, 56, 57]) :
    Calls Tryd.prog 10 #[.slice A 9 c] w fun e w' => e = .returned (.int .u32 3421780262) ∧ w = w' :=
  (sum_any w w.heap.size A c [49, 50, 51, 52, 53, 54, 55, 56, 57] ht hA (by decide)).mono fun e w' ⟨he, hw⟩ => ⟨by rw [he, show update 0#32 [49, 50, 51, 52, 53, 54, 55, 56, 57] = 3421780262#32 from by decide +kernel]; rfl, hw⟩

set_option maxHeartbeats 400000 in
theorem lawJoins_any (w : World) (A A' : Option Addr) (cap cap' : Nat) (xs ys : List UInt8) (ht : Tab w) (ha : Bytes w w.heap.size A xs) (hb : Bytes w w.heap.size A' ys) (hn : xs.length ≤ 140737488351232) (hm : ys.length ≤ 140737488351232) :
    Calls Tryd.prog 6 #[.slice A xs.length cap, .slice A' ys.length cap'] w fun e w' => e = .returned (.bool true) ∧ Below w.heap.size w w' := by
  have q1 : (U (update (update 0#32 xs) ys) == U (update 0#32 (xs ++ ys))) = true := U_eq (update_append _ _ _).symm
  have q2 : (U (combine (update 0#32 xs) (update 0#32 ys) ys.length) == U (update 0#32 (xs ++ ys))) = true := U_eq (combine_join _ _)
  have q3 : (U (update 0#32 xs) == U (update 0#32 xs)) = true := U_eq rfl
  have hnx : xs.length ≤ 9223372036854775807 := by omega
  have hny : ys.length ≤ 9223372036854775807 := by omega
  have kc := fun (w : World) (C : Array Value) (n c : Nat) => Lib.run_convert_bytes_const (P := Tryd.prog) w 22 5 C n c Tryd.underlying22 Tryd.underlying5
  go_enter Tryd.func6, Tryd.ntmps6
  go_wp2_with fail
  refine (nine_any _ (tab_on ht ((Below.refl _ _).alloc (Nat.le_refl _) _)) _ _ ?_).mono ?_
  · exact (Arr.newF w _ _ _).more (by simp)
  rintro e w1 ⟨rfl, hwe⟩
  have hb1 : Below w.heap.size w w1 := by rw [← hwe]; exact (Below.refl _ _).alloc (Nat.le_refl _) _
  have ht1 := tab_on ht hb1
  have ha1 := ha.on hb1
  have hb1' := hb.on hb1
  clear hwe ht ha hb kc
  go_wp2_with fail
  refine (joined_any w1 A A' cap cap' xs ys ha1 hb1' hn hm).mono ?_
  rintro e w2 ⟨g, c, rfl, hown, hb2⟩
  have hj : Bytes w2 w2.heap.size (some ⟨g, 0, none⟩) (xs ++ ys) := Arr.of_own hown
  have hw2 := below_trans hb1 hb2
  have ht2 := tab_on ht1 hb2
  have ha2 := ha1.on hb2
  have hb2' := hb1'.on hb2
  clear hown hb1 hb2 ht1 ha1 hb1'
  go_wp2_with fail
  refine (sum_len w2 _ _ _ c (xs ++ ys) (by simp) ht2 hj (by omega)).mono ?_
  rintro e w' ⟨rfl, rfl⟩
  go_wp2_with fail
  refine (sum_any w2 _ _ _ _ ht2 ha2 hnx).mono ?_
  rintro e w' ⟨rfl, rfl⟩
  go_wp2_with fail
  refine (update_any w2 _ _ _ _ _ ht2 hb2' hny).mono ?_
  rintro e w' ⟨rfl, rfl⟩
  go_wp2_with fail
  refine (sum_any w2 _ _ _ _ ht2 ha2 hnx).mono ?_
  rintro e w' ⟨rfl, rfl⟩
  go_wp2_with fail
  refine (sum_any w2 _ _ _ _ ht2 hb2' hny).mono ?_
  rintro e w' ⟨rfl, rfl⟩
  go_wp2_with fail
  refine (combine_any w2 (update 0#32 xs) (update 0#32 ys) (ys.length : Int) ht2 (by omega)).mono ?_
  rintro e w3 ⟨rfl, hb3⟩
  have hw3 := below_trans hw2 hb3
  have ht3 := tab_on ht2 hb3
  have ha3 := ha2.on hb3
  clear hb3 ht2 ha2 hw2 hj hb2'
  go_wp2_with fail
  refine (update_any w3 _ 0#32 _ _ _ ht3 ha3 hnx).mono ?_
  rintro e w' ⟨rfl, rfl⟩
  go_wp2_with fail
  refine (sum_any w3 _ _ _ _ ht3 ha3 hnx).mono ?_
  rintro e w' ⟨rfl, rfl⟩
  go_wp2_with fail
  go_ret
  exact ⟨rfl, hw3⟩
end Go.Proofs.YtjgjfeicenkceaaDoor
