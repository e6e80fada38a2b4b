/- Part 20: DrawsM, ClosR, LeastM. Conditions: as each part says. -/
import Derived.Test.YtbfbokdccdagkaaGreatDoorICh8
set_option linter.unusedVariables false
set_option linter.unusedSimpArgs false
namespace Go.Our
open Go.Sx
structure DrIn (l out : List Qd) : Prop where
 nodup : out.Nodup
 new : ∀ r ∈ out, r ∉ l
 drawn : ∀ r ∈ out, ∃ n a b, a ∈ l ∧ b ∈ l ∧ (Z2B n a b).2 = true ∧ r = (Z2B n a b).1
structure DrawsOf (l out : List Qd) : Prop extends DrIn l out where
 all : ∀ a ∈ l, ∀ b ∈ l, ∀ n, (Z2B n a b).2 = true → (Z2B n a b).1 ∈ l ++ out
def ObIn (base l : List Qd) : Prop := ∀ q ∈ l, ∃ t ∈ base, q.o = t.o
structure RInv (l m : List Qd) : Prop where
 rise : Rise ZJ m
 sub : ∀ q ∈ l, q ∈ m
 der : ∀ q ∈ m, Der l q
 ob : ObIn l m
end Go.Our
namespace Go.Our
open Go.Sx
end Go.Our
set_option maxRecDepth 20000
namespace Go.Our
open Go.Sx
end Go.Our
