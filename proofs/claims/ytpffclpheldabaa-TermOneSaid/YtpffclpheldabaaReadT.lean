/- How terms, quads and lists of quads that come in read. -/
import Derived.Test.YtpffclpheldabaaRow
import Derived.Test.YtpffclpheldabaaCmpW
set_option linter.unusedVariables false
namespace Go.Proofs.Ytpffclpheldabaa
open Go.RowKit Go.Our Go.ChangeShapes Go.WideShapes Go.ChangeAt

section
variable {H : Type} {enc : TypeId × Value → H} {w : World} {base : Nat} {sp : Nat → Bool} {held : Bool}

def termD (t : Term) : DataW H := .agg [.lit (.int .i64 t.kind), .lit (.string t.text.data.toList), .lit (.string t.type.data.toList), .lit (.string t.lang.data.toList)]
def quadD (q : Quad) : DataW H := .agg [termD q.s, termD q.p, termD q.o, termD q.g]
/-- What a term that came in keeps to: its kind is an int, its texts have lengths. -/
def TermOk (t : Term) : Prop := (Lit.int .i64 t.kind).wf = true ∧ t.text.size ≤ maxLen ∧ t.type.size ≤ maxLen ∧ t.lang.size ≤ maxLen
def QuadOk (q : Quad) : Prop := TermOk q.s ∧ TermOk q.p ∧ TermOk q.o ∧ TermOk q.g
abbrev termL (t : Term) : List Value := [.int .i64 t.kind, .string t.text, .string t.type, .string t.lang]
theorem cellsOf3 : Try.prog.cellsOf 3 = 1 := by kernel_rfl
theorem cellsOf9 : Try.prog.cellsOf 9 = 1 := by kernel_rfl
theorem cellsOfT : Try.prog.cellsOf 24 = 4 := by kernel_rfl
theorem cellsOfQ : Try.prog.cellsOf 26 = 16 := by kernel_rfl
set_option maxRecDepth 100000 in
theorem trod_term {fuel : Nat} {cs : List Value} {x : DataW H × List MemPlace} (h : DataW.trod enc Try.prog w base sp held fuel 24 cs = some x) :
    ∃ t : Term, cs = termL t ∧ x = (termD t, []) ∧ TermOk t := by
  cases fuel with
  | zero => simp [DataW.trod] at h
  | succ fuel =>
    simp only [DataW.trod, Try.underlying24, cellsOfT] at h
    split at h
    · rename_i hl
      match cs, hl with
      | [c0, c1, c2, c3], _ =>
        simp only [List.mapM_cons, List.mapM_nil, cellsOf3, cellsOf9, List.drop_zero, List.drop_succ_cons, List.take_succ_cons, List.take_zero] at h
        simp only [Option.map_eq_some_iff, Option.bind_eq_bind, Option.bind_eq_some_iff, Option.pure_def, Option.some.injEq] at h
        obtain ⟨xs, ⟨y0, h0, r1, ⟨y1, h1, r2, ⟨y2, h2, r3, ⟨y3, h3, r4, rfl, rfl⟩, rfl⟩, rfl⟩, rfl⟩, hx⟩ := h
        obtain ⟨k, hk, rfl, wk⟩ := DataW.trod_int Try.underlying3 h0
        obtain ⟨s1, hs1, rfl, w1⟩ := DataW.trod_string Try.underlying9 h1
        obtain ⟨s2, hs2, rfl, w2⟩ := DataW.trod_string Try.underlying9 h2
        obtain ⟨s3, hs3, rfl, w3⟩ := DataW.trod_string Try.underlying9 h3
        injection hk with hk _; injection hs1 with hs1 _; injection hs2 with hs2 _; injection hs3 with hs3 _
        subst hk hs1 hs2 hs3
        exact ⟨⟨k, s1, s2, s3⟩, rfl, by rw [← hx]; rfl, wk, w1, w2, w3⟩
    · cases h
set_option maxRecDepth 100000 in
theorem trod_quad {fuel : Nat} {cs : List Value} {x : DataW H × List MemPlace} (h : DataW.trod enc Try.prog w base sp held fuel 26 cs = some x) :
    ∃ q : Quad, cs = (quadA q).toList ∧ x = (quadD q, []) ∧ QuadOk q := by
  cases fuel with
  | zero => simp [DataW.trod] at h
  | succ fuel =>
    simp only [DataW.trod, Try.underlying26, cellsOfQ] at h
    split at h
    · rename_i hl
      simp only [List.mapM_cons, List.mapM_nil, cellsOfT] at h
      simp only [Option.map_eq_some_iff, Option.bind_eq_bind, Option.bind_eq_some_iff, Option.pure_def, Option.some.injEq] at h
      obtain ⟨xs, ⟨y0, h0, r1, ⟨y1, h1, r2, ⟨y2, h2, r3, ⟨y3, h3, r4, rfl, rfl⟩, rfl⟩, rfl⟩, rfl⟩, hx⟩ := h
      obtain ⟨s, hs, rfl, ws⟩ := trod_term h0
      obtain ⟨p, hp, rfl, wp⟩ := trod_term h1
      obtain ⟨o, ho, rfl, wo⟩ := trod_term h2
      obtain ⟨g, hg, rfl, wg⟩ := trod_term h3
      refine ⟨⟨s, p, o, g⟩, ?_, by rw [← hx]; rfl, ws, wp, wo, wg⟩
      match cs, hl with
      | [c0, c1, c2, c3, c4, c5, c6, c7, c8, c9, c10, c11, c12, c13, c14, c15], _ =>
        simp only [List.drop_zero, List.drop_succ_cons, List.take_succ_cons, List.take_zero, termL, List.cons.injEq, and_true] at hs hp ho hg
        obtain ⟨rfl, rfl, rfl, rfl⟩ := hs
        obtain ⟨rfl, rfl, rfl, rfl⟩ := hp
        obtain ⟨rfl, rfl, rfl, rfl⟩ := ho
        obtain ⟨rfl, rfl, rfl, rfl⟩ := hg
        rfl
    · cases h
set_option maxRecDepth 100000 in
/-- A quad argument by value. -/
theorem read_quad {v : Value} {d : DataW H} {p : List MemPlace} {r : Reach} {b0 : Nat} (ho : Value.okWide Try.prog w r b0 26 v) (h : DataW.Trod enc Try.prog w base sp held 26 v d p) :
    ∃ q : Quad, v = quadV q ∧ d = quadD q ∧ QuadOk q := by
  obtain ⟨fuel, hf⟩ := h
  obtain ⟨q, hcs, hx, hok⟩ := trod_quad hf
  unfold Value.okWide at ho
  rw [Try.underlying26] at ho
  obtain ⟨cs, rfl, _, _⟩ := ho
  refine ⟨q, ?_, by injection hx, hok⟩
  congr 1
  exact Array.toList_inj.1 hcs
set_option maxRecDepth 100000 in
theorem read_term {v : Value} {d : DataW H} {p : List MemPlace} {r : Reach} {b0 : Nat} (ho : Value.okWide Try.prog w r b0 24 v) (h : DataW.Trod enc Try.prog w base sp held 24 v d p) :
    ∃ t : Term, v = termV t ∧ d = termD t ∧ TermOk t := by
  obtain ⟨fuel, hf⟩ := h
  obtain ⟨t, hcs, hx, hok⟩ := trod_term hf
  unfold Value.okWide at ho
  rw [Try.underlying24] at ho
  obtain ⟨cs, rfl, _, _⟩ := ho
  refine ⟨t, ?_, by injection hx, hok⟩
  congr 1
  exact Array.toList_inj.1 hcs
end
end Go.Proofs.Ytpffclpheldabaa
