/- '==' and '!=' of terms and quads. -/
import Derived.Test.YtpffclpheldabaaCmpR
import Derived.Laws.StructEq
set_option linter.unusedVariables false
namespace Go.Proofs.Ytpffclpheldabaa
open Go.RowKit Go.Our

theorem stoodT : Try.prog.stoodInHeld 24 = false := by kernel_rfl
theorem stoodQ : Try.prog.stoodInHeld 26 = false := by kernel_rfl
theorem underT : Try.prog.underlying 24 = some (.struct (Try.prog.fieldsOf 24)) := by kernel_rfl
theorem underQ : Try.prog.underlying 26 = some (.struct (Try.prog.fieldsOf 26)) := by kernel_rfl
theorem guardT : Try.prog.eqGuardType Try.prog.depth 24 = false := by kernel_rfl
theorem guardQ : Try.prog.eqGuardType Try.prog.depth 26 = false := by kernel_rfl
theorem ba_list (a b : ByteArray) : (a.toList == b.toList) = decide (a = b) := by
  rw [eq_cmpB]; simp only [triB.zero]
theorem ba_iff (a b : ByteArray) : (a.toList = b.toList) = (a = b) := by
  have := ba_list a b
  by_cases h : a = b <;> simp [h] at this ⊢
  exact this
theorem term_ext (a b : Term) : (a = b) = (a.kind = b.kind ∧ a.text = b.text ∧ a.type = b.type ∧ a.lang = b.lang) := by
  cases a; cases b; simp
theorem quad_ext (a b : Quad) : (a = b) = (a.s = b.s ∧ a.p = b.p ∧ a.o = b.o ∧ a.g = b.g) := by
  cases a; cases b; simp
theorem eqInT (d : Nat) (w : World) (a b : Term) : (Op.equalIn (d + 2) 24 (termV a) (termV b)).run Try.prog w = .ok (decide (a = b)) w := by
  have u3 := Try.underlying3
  have a3 := Try.isAgg3
  have z3 := Try.sizeOf3
  have u9 := Try.underlying9
  have a9 := Try.isAgg9
  have z9 := Try.sizeOf9
  rw [run_equalIn_agg w (d + 1) 24 _ _ underT stoodT]
  simp only [Program.fieldsOf, Try.underlying24]
  go_simp
  simp only [term_ext]
  by_cases h1 : a.kind = b.kind <;> by_cases h2 : a.text = b.text <;> by_cases h3 : a.type = b.type <;> by_cases h4 : a.lang = b.lang <;> simp [h1, h2, h3, h4, ba_iff]
theorem eqInQ (d : Nat) (w : World) (a b : Quad) : (Op.equalIn (d + 3) 26 (quadV a) (quadV b)).run Try.prog w = .ok (decide (a = b)) w := by
  have a24 := Try.isAgg24
  have z24 := Try.sizeOf24
  have es := fun w => eqInT d w a.s b.s
  have ep := fun w => eqInT d w a.p b.p
  have eo := fun w => eqInT d w a.o b.o
  have eg := fun w => eqInT d w a.g b.g
  rw [run_equalIn_agg w (d + 2) 26 _ _ underQ stoodQ]
  simp only [Program.fieldsOf, Try.underlying26]
  go_simp
  simp only [quad_ext]
  by_cases h1 : a.s = b.s <;> by_cases h2 : a.p = b.p <;> by_cases h3 : a.o = b.o <;> by_cases h4 : a.g = b.g <;> simp [h1, h2, h3, h4]
@[go_sem ↓ high] theorem eqlT (w : World) (a b : Term) : (binOp .eql (24 : Nat) (termV a) (termV b)).run Try.prog w = .ok (.bool (decide (a = b))) w := by
  rw [run_eql_struct, show (10000 : Nat) = 9998 + 2 from rfl, eqInT]; rfl
@[go_sem ↓ high] theorem neqT (w : World) (a b : Term) : (binOp .neq (24 : Nat) (termV a) (termV b)).run Try.prog w = .ok (.bool (!decide (a = b))) w := by
  rw [run_neq_struct, show (10000 : Nat) = 9998 + 2 from rfl, eqInT]; rfl
@[go_sem ↓ high] theorem eqlQ (w : World) (a b : Quad) : (binOp .eql (26 : Nat) (quadV a) (quadV b)).run Try.prog w = .ok (.bool (decide (a = b))) w := by
  rw [run_eql_struct, show (10000 : Nat) = 9997 + 3 from rfl, eqInQ]; rfl
@[go_sem ↓ high] theorem neqQ (w : World) (a b : Quad) : (binOp .neq (26 : Nat) (quadV a) (quadV b)).run Try.prog w = .ok (.bool (!decide (a = b))) w := by
  rw [run_neq_struct, show (10000 : Nat) = 9997 + 3 from rfl, eqInQ]; rfl
@[go_sem ↓ high] theorem guardT_agg (w : World) (op : BinOp) (x y : Operand) (xs ys : Array Value) : (eqGuard op (24 : Nat) x y (.agg xs) (.agg ys)).run Try.prog w = .ok () w := run_eqGuard_agg w op _ x y xs ys guardT
@[go_sem ↓ high] theorem guardQ_agg (w : World) (op : BinOp) (x y : Operand) (xs ys : Array Value) : (eqGuard op (26 : Nat) x y (.agg xs) (.agg ys)).run Try.prog w = .ok () w := run_eqGuard_agg w op _ x y xs ys guardQ
end Go.Proofs.Ytpffclpheldabaa
