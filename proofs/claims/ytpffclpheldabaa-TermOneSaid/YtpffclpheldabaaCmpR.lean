/- Walks of the reference's comparisons. -/
import Derived.Test.YtpffclpheldabaaCmpW
import Derived.Lib.Strings
set_option linter.unusedVariables false
namespace Go.Proofs.Ytpffclpheldabaa
open Go.RowKit Go.Our

theorem bytesLess_cb : ∀ a b : List UInt8, Op.bytesLess a b = decide (Lib.compareBytes a b < 0)
  | [], [] => by simp [Op.bytesLess, Lib.compareBytes]
  | [], _ :: _ => by simp [Op.bytesLess, Lib.compareBytes]
  | _ :: _, [] => by simp [Op.bytesLess, Lib.compareBytes]
  | a :: as_, b :: bs => by
    unfold Op.bytesLess Lib.compareBytes
    rw [bytesLess_cb as_ bs]
    simp only [UInt8.lt_iff_toNat_lt]
    have hbeq : (a == b) = decide (a.toNat = b.toNat) := by
      rw [Bool.eq_iff_iff]; simp [UInt8.toNat_inj]
    rw [hbeq]
    by_cases h : a.toNat < b.toNat
    · simp [h]
    · by_cases h' : b.toNat < a.toNat
      · have : ¬ a.toNat = b.toNat := by omega
        simp [h, h', this]
      · have : a.toNat = b.toNat := by omega
        simp [this]
theorem less_cmpB (a b : ByteArray) : Op.bytesLess a.toList b.toList = decide (cmpB a b < 0) := by
  rw [Lib.toList_data, Lib.toList_data, bytesLess_cb]; rfl
theorem eq_cmpB (a b : ByteArray) : (a.toList == b.toList) = decide (cmpB a b = 0) := by
  rw [Lib.toList_data, Lib.toList_data, Bool.eq_iff_iff]
  simp only [beq_iff_eq, decide_eq_true_eq]
  exact (cb_zero _ _).symm
theorem reftexts_any (a b : ByteArray) (w : World) :
    Calls Try.prog 40 #[.string a, .string b] w fun e w' => e = .returned (.int .i64 (cmpB a b)) ∧ w = w' := by
  have h1 := less_cmpB a b
  have h2 := eq_cmpB a b
  have hr := triB.rng a b
  have HR := Lib.hid hr
  rcases hr with h | h | h
  all_goals
    rw [h] at h1 h2
    simp only [Int.reduceNeg, Int.reduceLT, decide_true, decide_false, Int.reduceEq] at h1 h2
    have H := Lib.hid h
    clear h HR
    go_enter Try.func40, Try.ntmps40
    go_wp2
    go_ret
    exact ⟨by rw [H.out]; rfl, rfl⟩

set_option maxHeartbeats 1000000 in
theorem refcompare_any (w : World) (a b : Term) :
    Calls Try.prog 14 #[termV a, termV b] w fun e w' => e = .returned (.int .i64 (termCmp a b)) ∧ Below w.heap.size w w' := by
  have hf : termCmp a b = if a.kind < b.kind then -1 else if a.kind > b.kind then 1 else if cmpB a.text b.text ≠ 0 then cmpB a.text b.text else if cmpB a.type b.type ≠ 0 then cmpB a.type b.type else cmpB a.lang b.lang := by
    simp only [termCmp, pairCmp, Term.key, cmpI]
    by_cases h1 : a.kind < b.kind
    · simp [h1]
    · by_cases h2 : a.kind > b.kind
      · simp [h1, h2]
      · simp only [h1, h2, if_false]
        (repeat' split) <;> first | rfl | omega | simp_all
  have HF := Lib.hid hf
  clear hf
  by_cases hk : a.kind = b.kind
  · have hkb : (a.kind != b.kind) = false := by simp [hk]
    have HK := Lib.hid hk
    clear hk
    by_cases h1 : cmpB a.text b.text = 0
    · have h1b : (cmpB a.text b.text == 0) = true := by simp [h1]
      have H1 := Lib.hid h1
      clear h1
      by_cases h2 : cmpB a.type b.type = 0
      · have h2b : (cmpB a.type b.type == 0) = true := by simp [h2]
        have H2 := Lib.hid h2
        clear h2
        go_enter Try.func14, Try.ntmps14
        go_wp2_with (go_at_call 40; refine (reftexts_any _ _ _).mono ?_; rintro e w' ⟨rfl, rfl⟩)
        go_ret
        refine ⟨congrArg (fun x => Ending.returned (.int .i64 x)) ?_, ((Below.refl _ _).alloc (Nat.le_refl _) _).alloc (by simp) _⟩
        rw [HF.out, HK.out, H1.out, H2.out]; simp
      · have h2b : (cmpB a.type b.type == 0) = false := by simp [h2]
        have H2 := Lib.hid h2
        clear h2
        go_enter Try.func14, Try.ntmps14
        go_wp2_with (go_at_call 40; refine (reftexts_any _ _ _).mono ?_; rintro e w' ⟨rfl, rfl⟩)
        go_ret
        refine ⟨congrArg (fun x => Ending.returned (.int .i64 x)) ?_, ((Below.refl _ _).alloc (Nat.le_refl _) _).alloc (by simp) _⟩
        rw [HF.out, HK.out, H1.out]; simp [H2.out]
    · have h1b : (cmpB a.text b.text == 0) = false := by simp [h1]
      have H1 := Lib.hid h1
      clear h1
      go_enter Try.func14, Try.ntmps14
      go_wp2_with (go_at_call 40; refine (reftexts_any _ _ _).mono ?_; rintro e w' ⟨rfl, rfl⟩)
      go_ret
      refine ⟨congrArg (fun x => Ending.returned (.int .i64 x)) ?_, ((Below.refl _ _).alloc (Nat.le_refl _) _).alloc (by simp) _⟩
      rw [HF.out, HK.out]; simp [H1.out]
  · have hkb : (a.kind != b.kind) = true := by simp [hk]
    have HK := Lib.hid hk
    clear hk
    by_cases hlt : a.kind < b.kind
    all_goals
      go_enter Try.func14, Try.ntmps14
      go_wp2
      go_ret
      refine ⟨congrArg (fun x => Ending.returned (.int .i64 x)) ?_, ((Below.refl _ _).alloc (Nat.le_refl _) _).alloc (by simp) _⟩
      rw [HF.out]
      have := HK.out
      (repeat' split) <;> first | rfl | omega

/-- Two quads in two blocks of a world. -/
structure Two (W : World) (g1 g2 : Nat) (a b : Quad) : Prop where
  a0 : termAt? W g1 0 = some a.s
  a1 : termAt? W g1 4 = some a.p
  a2 : termAt? W g1 8 = some a.o
  a3 : termAt? W g1 12 = some a.g
  b0 : termAt? W g2 0 = some b.s
  b1 : termAt? W g2 4 = some b.p
  b2 : termAt? W g2 8 = some b.o
  b3 : termAt? W g2 12 = some b.g
theorem Two.on {W W' : World} {g1 g2 : Nat} {a b : Quad} (h : Two W g1 g2 a b) (hb : Below W.heap.size W W') : Two W' g1 g2 a b :=
  ⟨termAt_on hb h.a0, termAt_on hb h.a1, termAt_on hb h.a2, termAt_on hb h.a3, termAt_on hb h.b0, termAt_on hb h.b1, termAt_on hb h.b2, termAt_on hb h.b3⟩
theorem two_new (w : World) (a b : Quad) (t : TypeId) : Two ((w.alloc (.cells (quadA a) t)).alloc (.cells (quadA b) t)) w.heap.size (w.heap.size + 1) a b := by
  have hA : Blk _ w.heap.size t (quadA a) := (Blk.new w _ _).alloc (.cells (quadA b) t)
  have hB : Blk ((w.alloc (.cells (quadA a) t)).alloc (.cells (quadA b) t)) (w.heap.size + 1) t (quadA b) := Blk.new' (by simp)
  obtain ⟨a0, a1, a2, a3⟩ := QuadAt.of_blk hA
  obtain ⟨b0, b1, b2, b3⟩ := QuadAt.of_blk hB
  exact ⟨a0, a1, a2, a3, b0, b1, b2, b3⟩

set_option maxHeartbeats 2000000 in
theorem refcompareQuads_any (w : World) (a b : Quad) :
    Calls Try.prog 16 #[quadV a, quadV b] w fun e w' => e = .returned (.int .i64 (quadCmp a b)) ∧ Below w.heap.size w w' := by
  have hf : quadCmp a b = if termCmp a.g b.g ≠ 0 then termCmp a.g b.g else if termCmp a.s b.s ≠ 0 then termCmp a.s b.s else if termCmp a.p b.p ≠ 0 then termCmp a.p b.p else termCmp a.o b.o := by
    simp only [quadCmp, pairCmp, Quad.key]
    rfl
  have HF := Lib.hid hf
  clear hf
  go_enter Try.func16, Try.ntmps16
  have hT := two_new w a b 26
  have hW0 : Below w.heap.size w ((w.alloc (.cells (quadA a) 26)).alloc (.cells (quadA b) 26)) := ((Below.refl _ _).alloc (Nat.le_refl _) _).alloc (by simp) _
  have HT := hT
  obtain ⟨a0, a1, a2, a3, b0, b1, b2, b3⟩ := HT
  go_wp2_with fail
  refine (refcompare_any _ a.g b.g).mono ?_
  rintro e w1 ⟨rfl, hb⟩
  replace hW0 := step_on hW0 (Nat.le_refl _) hb
  replace hT := hT.on hb
  clear hb a0 a1 a2 a3 b0 b1 b2 b3
  have HT := hT
  obtain ⟨a0, a1, a2, a3, b0, b1, b2, b3⟩ := HT
  by_cases hg : termCmp a.g b.g = 0
  case neg =>
    have hx : (termCmp a.g b.g == 0) = false := by simp [hg]
    have HG := Lib.hid hg
    clear hg
    go_wp2
    go_ret
    refine ⟨congrArg (fun x => Ending.returned (.int .i64 x)) ?_, hW0⟩
    rw [HF.out]; simp [HG.out]
  have hxg : (termCmp a.g b.g == 0) = true := by simp [hg]
  have HG := Lib.hid hg
  clear hg
  go_wp2_with fail
  refine (refcompare_any _ a.s b.s).mono ?_
  rintro e w2 ⟨rfl, hb⟩
  replace hW0 := step_on hW0 (Nat.le_refl _) hb
  replace hT := hT.on hb
  clear hb a0 a1 a2 a3 b0 b1 b2 b3
  have HT := hT
  obtain ⟨a0, a1, a2, a3, b0, b1, b2, b3⟩ := HT
  by_cases hs : termCmp a.s b.s = 0
  case neg =>
    have hx : (termCmp a.s b.s == 0) = false := by simp [hs]
    have HS := Lib.hid hs
    clear hs
    go_wp2
    go_ret
    refine ⟨congrArg (fun x => Ending.returned (.int .i64 x)) ?_, hW0⟩
    rw [HF.out]; simp [HG.out, HS.out]
  have hxs : (termCmp a.s b.s == 0) = true := by simp [hs]
  have HS := Lib.hid hs
  clear hs
  go_wp2_with fail
  refine (refcompare_any _ a.p b.p).mono ?_
  rintro e w3 ⟨rfl, hb⟩
  replace hW0 := step_on hW0 (Nat.le_refl _) hb
  replace hT := hT.on hb
  clear hb a0 a1 a2 a3 b0 b1 b2 b3
  have HT := hT
  obtain ⟨a0, a1, a2, a3, b0, b1, b2, b3⟩ := HT
  by_cases hp : termCmp a.p b.p = 0
  case neg =>
    have hx : (termCmp a.p b.p == 0) = false := by simp [hp]
    have HP := Lib.hid hp
    clear hp
    go_wp2
    go_ret
    refine ⟨congrArg (fun x => Ending.returned (.int .i64 x)) ?_, hW0⟩
    rw [HF.out]; simp [HG.out, HS.out, HP.out]
  have hxp : (termCmp a.p b.p == 0) = true := by simp [hp]
  have HP := Lib.hid hp
  clear hp
  go_wp2_with fail
  refine (refcompare_any _ a.o b.o).mono ?_
  rintro e w4 ⟨rfl, hb⟩
  replace hW0 := step_on hW0 (Nat.le_refl _) hb
  replace hT := hT.on hb
  clear hb a0 a1 a2 a3 b0 b1 b2 b3
  go_wp2
  go_ret
  refine ⟨congrArg (fun x => Ending.returned (.int .i64 x)) ?_, hW0⟩
  rw [HF.out]; simp [HG.out, HS.out, HP.out]
end Go.Proofs.Ytpffclpheldabaa
