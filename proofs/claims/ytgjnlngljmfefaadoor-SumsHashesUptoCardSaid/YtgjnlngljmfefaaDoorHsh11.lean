/- Part 11: ReadH. Conditions: as each part says. -/
import Derived.Test.YtgjnlngljmfefaaDoorHsh9
import Derived.Test.YtgjnlngljmfefaaDoorHsh10
set_option linter.unusedVariables false
set_option linter.unusedSimpArgs false
namespace Go.Proofs.YtgjnlngljmfefaaDoor
open Go.RowKit Go.Our Go.ChangeShapes Go.WideShapes Go.ChangeAt Go.Sx
section
variable {H : Type} {enc : TypeId × Value → H} {w : World}
theorem Z0J : Tryd.prog.cellsOf 5 = 1 := by kernel_rfl
theorem Z3o : Tryd.prog.cellsOf 3 = 1 := by kernel_rfl
theorem Z3p : Tryd.prog.cellsOf 25 = 1 := by kernel_rfl
theorem Z0K : Tryd.prog.cellsOf 29 = 4 := by kernel_rfl
theorem Z5l {fuel : Nat} {cs : List Value} {x : DataW H × List MemPlace} (hx : DataW.trod enc Tryd.prog w 0 (fun _ => true) true fuel 5 cs = some x) : ∃ c : UInt8, cs = [Value.int .u8 (c.toNat : Int)] ∧ x.1 = Z11 c ∧ True := by
 cases fuel with
 | zero => simp [DataW.trod] at hx
 | succ fuel =>
   obtain ⟨k, hk, hx, wk⟩ := DataW.trod_int Tryd.underlying5 hx
   have hr : 0 ≤ k ∧ k < 256 := by
     simp only [Lit.wf, Bool.and_eq_true, decide_eq_true_eq] at wk
     have h1 : IntKind.u8.min = 0 := rfl
     have h2 : IntKind.u8.max = 255 := rfl
     rw [h1, h2] at wk
     omega
   refine ⟨UInt8.ofNat k.toNat, ?_, ?_, trivial⟩
   · rw [hk]; simp; omega
   · rw [hx]; simp [Z11]; omega
theorem Wc {a : Addr} {n : Nat} {cs : List Value} (hn : 0 < n) (h : w.cells? 0 a n = some cs) : a.spot = none ∧ ∃ arr T fz, w.heap[a.block]? = some (.cells arr T fz) := by
 obtain ⟨h1, h2⟩ := JM h
 have h3 := h2 0 hn
 have ha : a.add 0 = a := by simp [Addr.add]
 rw [ha] at h3
 have h4 : cs[0]? = some (cs[0]'(by omega)) := List.getElem?_eq_getElem _
 rw [h4] at h3
 unfold World.cell? at h3
 split at h3
 · rename_i c T fz hh
   split at h3
   · cases h3
   · rename_i hs
     exact ⟨by cases hq : a.spot with | none => rfl | some _ => rw [hq] at hs; simp at hs, _, _, _, hh⟩
 · cases h3
def BytD (b : List UInt8) (d : DataW H) : Prop := (b = [] ∧ d = .nil) ∨ ∃ z : List UInt8, d = .slice (b.map Z11) (z.map Z11)
theorem Z41 {fuel : Nat} {cs : List Value} {x : DataW H × List MemPlace} (h : DataW.trod enc Tryd.prog w 0 (fun _ => true) true fuel 25 cs = some x) :
   ∃ (p : Option Addr) (b : List UInt8) (c : Nat), cs = [.slice p b.length c] ∧ ByteIn w p b c ∧ BytD b x.1 := by
 have h0 := h
 rcases DataW.trod_slice Tryd.underlying25 h with ⟨rfl, rfl⟩ | ⟨a, len, cap, elems, rest, n, rfl, rfl, hx, _, hl, _, hlen, hel, hsp, _⟩
 · exact ⟨none, [], 0, rfl, .inr ⟨rfl, rfl⟩, .inl ⟨rfl, rfl⟩⟩
 · by_cases hc : cap = 0
   · subst hc
     obtain rfl : len = 0 := by omega
     have he : elems = [] := List.length_eq_zero_iff.1 hlen
     have hr : rest = [] := List.length_eq_zero_iff.1 (by have := (hsp rfl).1; omega)
     subst he hr
     exact ⟨some a, [], 0, rfl, .inr ⟨rfl, rfl⟩, .inr ⟨[], by rw [hx]; rfl⟩⟩
   · have hsp' : a.spot = none ∧ ∃ arr T fz, w.heap[a.block]? = some (.cells arr T fz) := by
       rw [Z0J] at hel hsp
       have ha : a.add (0 * 1) = a := by simp [Addr.add]
       by_cases hz : 0 < len
       · have := hel 0 hz
         rw [ha, List.getElem?_eq_getElem (by omega)] at this
         obtain ⟨cs', h1, _⟩ := Option.bind_eq_some_iff.1 this
         exact Wc (by omega) h1
       · obtain ⟨h1, h2⟩ := hsp rfl
         have := h2 0 (by omega)
         rw [show (len + 0) * 1 = 0 * 1 by omega, ha, List.getElem?_eq_getElem (by omega)] at this
         obtain ⟨cs', h1, _⟩ := Option.bind_eq_some_iff.1 this
         exact Wc (by omega) h1
     obtain ⟨l, en, g1, g2, g3, _⟩ := W5 (G := fun _ => True) (es := 1) (fun c => [Value.int .u8 (c.toNat : Int)]) Z11 Go.Sx.bytesRow Nat.one_pos (fun a => ⟨rfl, rfl⟩) Z12 Tryd.underlying25 Z0J (fun fuel cs x hx => Z5l hx) (fun b hb => by injection hb with hb; subst hb; exact hsp') h0
     subst g3
     exact ⟨some a, l, cap, rfl, .inl ⟨en, g1⟩, g2⟩
def opL (o : HOp) : List Value := [.int .i64 o.kind, .int .i64 o.hash, .int .i64 o.other, o.v]
def opD (a : HOp × DataW H) : DataW H := .agg [.lit (.int .i64 a.1.kind), .lit (.int .i64 a.1.hash), .lit (.int .i64 a.1.other), a.2]
set_option maxRecDepth 100000 in
theorem Z4V {fuel : Nat} {cs : List Value} {x : DataW H × List MemPlace} (h : DataW.trod enc Tryd.prog w 0 (fun _ => true) true fuel 29 cs = some x) :
   ∃ a : HOp × DataW H, cs = opL a.1 ∧ x.1 = opD a ∧ ByteIn w a.1.p a.1.b a.1.c ∧ BytD a.1.b a.2 := by
 cases fuel with
 | zero => simp [DataW.trod] at h
 | succ fuel =>
   simp only [DataW.trod, Tryd.underlying29, Z0K] at h
   split at h
   · rename_i hl
     match cs, hl with
     | [c0, c1, c2, c3], _ =>
       simp only [List.mapM_cons, List.mapM_nil, Z3o, Z3p, List.drop_zero, List.drop_succ_cons, List.take_succ_cons, List.take_zero] at h
       simp only [Option.map_eq_some_iff, Option.bind_eq_bind, Option.bind_eq_some_iff, Option.pure_def, Option.some.injEq] at h
       obtain ⟨xs, ⟨y0, h0, r1, ⟨y1, h1, r2, ⟨y2, h2, r3, ⟨y3, h3, r4, rfl, rfl⟩, rfl⟩, rfl⟩, rfl⟩, hx⟩ := h
       obtain ⟨k0, hk0, rfl, _⟩ := DataW.trod_int Tryd.underlying3 h0
       obtain ⟨k1, hk1, rfl, _⟩ := DataW.trod_int Tryd.underlying3 h1
       obtain ⟨k2, hk2, rfl, _⟩ := DataW.trod_int Tryd.underlying3 h2
       obtain ⟨p, b, c, hb, hin, hd⟩ := Z41 h3
       injection hk0 with hk0 _; injection hk1 with hk1 _; injection hk2 with hk2 _; injection hb with hb _
       subst hk0 hk1 hk2 hb
       exact ⟨(⟨k0, k1, k2, b, p, c⟩, y3.1), rfl, by rw [← hx]; rfl, hin, hd⟩
   · cases h
theorem Z3q (η : Env) (o : HOp) (j : Nat) (sv : SV) (h : (WK o)[j]? = some sv) : ∃ u, (opL o)[j]? = some u ∧ u.oneCell' = true ∧ Den η sv u := by
 have hlt := (List.getElem?_eq_some_iff.1 h).1
 have hl : (WK o).length = 4 := rfl
 rw [hl] at hlt
 match j, hlt with
 | 0, _ | 1, _ | 2, _ | 3, _ => injection h with h; subst h; exact ⟨_, rfl, rfl, by simp only [Den]; try exact ⟨trivial, rfl⟩⟩
set_option maxRecDepth 100000 in
theorem Z42 {v : Value} {d : DataW H} {p : List MemPlace} {r : Reach} {b0 : Nat} (ho : Value.okWide Tryd.prog w r b0 22 v) (h : DataW.Trod enc Tryd.prog w 0 (fun _ => true) true 22 v d p) :
   ∃ (l : List (HOp × DataW H)) (en : Option Ent), SliceIn w v 4 ((l.map (·.1)).map WK) en ∧ ((l = [] ∧ d = .nil) ∨ ∃ z : List (HOp × DataW H), d = .slice (l.map opD) (z.map opD)) ∧ ∀ a ∈ l, ByteIn w a.1.p a.1.b a.1.c ∧ BytD a.1.b a.2 := by
 obtain ⟨fuel, hf⟩ := h
 obtain ⟨a0, l0, c0, rfl⟩ := okWide_slice Tryd.underlying22 ho
 obtain ⟨l, en, h1, h2, _, h3⟩ := W5 (es := 4) (G := fun a => ByteIn w a.1.p a.1.b a.1.c ∧ BytD a.1.b a.2) (fun a => opL a.1) opD (fun a => WK a.1) (by omega) (fun a => ⟨rfl, rfl⟩) (fun η a => Z3q η a.1) Tryd.underlying22 Z0K (fun fuel cs x hx => Z4V hx) (fun a ha => by
   subst ha
   simp only [Value.okWide, Tryd.underlying22, Cell.okWide, Cell.ok] at ho
   obtain ⟨_, _, _, hspot, rw', cl, hsh, _⟩ := ho
   refine ⟨hspot, ?_⟩
   unfold World.shape? at hsh
   split at hsh
   · rename_i c e' f' hh; exact ⟨_, _, _, hh⟩
   · cases hsh) hf
 refine ⟨l, en, ?_, h2, h3⟩
 rw [List.map_map]
 exact h1
theorem Z3r {b : List UInt8} {d : DataW H} (h : BytD b d) : b.length ≤ Rows.uptoBulk d := by
 rcases h with ⟨rfl, rfl⟩ | ⟨z, rfl⟩
 · simp
 · have : ∀ l : List UInt8, Rows.uptoBulkAll (l.map (Z11 (H := H))) = l.length := by
     intro l
     induction l with
     | nil => simp [Rows.uptoBulkAll]
     | cons c l ih => simp only [List.map_cons, Rows.uptoBulkAll, ih, Z11, Rows.uptoBulk, List.length_cons]; omega
   simp only [Rows.uptoBulk, this]; omega
theorem Z43 {l : List (HOp × DataW H)} (h : ∀ a ∈ l, BytD a.1.b a.2) : (l.map fun a => a.1.b.length).sum + l.length ≤ Rows.uptoBulkAll (l.map opD) := by
 induction l with
 | nil => simp
 | cons a l ih =>
   have h1 := Z3r (h a (List.mem_cons_self ..))
   have h2 := ih fun a ha => h a (List.mem_cons_of_mem _ ha)
   simp only [List.map_cons, List.sum_cons, List.length_cons, Rows.uptoBulkAll, opD, Rows.uptoBulk]
   omega
theorem Z1O {l : List (HOp × DataW H)} {d : DataW H} (hd : (l = [] ∧ d = .nil) ∨ ∃ z : List (HOp × DataW H), d = .slice (l.map opD) (z.map opD)) (h : ∀ a ∈ l, ByteIn w a.1.p a.1.b a.1.c ∧ BytD a.1.b a.2) {n : Nat} (hn : Rows.uptoBulk d ≤ n) :
   sumB (l.map (·.1)) (l.map (·.1)).length ≤ n ∧ (l.map (·.1)).length ≤ n := by
 have hs : sumB (l.map (·.1)) (l.map (·.1)).length = (l.map fun a => a.1.b.length).sum := by
   unfold sumB
   rw [List.take_length, List.map_map]
   rfl
 have := Z43 (H := H) fun a ha => (h a ha).2
 rw [hs, List.length_map]
 rcases hd with ⟨rfl, rfl⟩ | ⟨z, rfl⟩
 · simp
 · simp only [Rows.uptoBulk] at hn; omega
end
theorem Z2h {G : World → Prop} {g : FuncId} {args : List SV} {vs : List Value} {W : World} {v : Value} {es : Nat} {rs : List (List SV)} {en : Option Ent} (h : SliceIn W v es rs en) (sp : DoesW G Tryd.prog tab g 1 args [] [(0, .rows es rs)] (ValK 1 (.bool true))) (hG : G W) (eg : ∀ args w, (callFunc g args).run Tryd.prog w = .ok (.enter g args) w) (hd : DenL [en] args vs) (hg : Z4l W) :
   Calls Tryd.prog g ⟨vs⟩ W fun e W' => e = .returned (.bool true) ∧ Below W.heap.size W W' := by
 have hpl : ∀ g h, lkp g tab.globs = some h → Xl h = true := fun g h hh => List.all_eq_true.1 tab.gplain _ (JX hh)
 have hat : (0 : Nat) < [en].length := by simp
 have H : HeapOK ⟨Tryd.prog, ⟨tab, 0, shB [(0, .rows es rs)], none⟩, W, fun _ => False, [en]⟩ [en] W [] 1 := ⟨List.prefix_rfl, rfl, ⟨fun i h hi => by simp [lkp] at hi, fun i j h h' n hi => by simp [lkp] at hi⟩, FrW.refl _ _, fun b hp hb => by
   cases b with
   | loc i =>
     simp only [lkS, shB, List.map_cons, List.map_nil, lkpB, WL] at hb
     cases hi : Nat.beq i 0 with
     | false => rw [hi] at hb; cases hb
     | true =>
       rw [hi] at hb
       injection hb with hb
       subst hb
       have hi := Nat.eq_of_beq_eq_true hi
       subst hi
       have hs := h.sat (η := [en]) (i := 0) rfl
       exact ⟨hs, fun n f => ⟨hs.feet_lt f, fun h => h⟩⟩
   | glob g =>
     obtain ⟨h1, h2⟩ := hg g hp hb
     exact ⟨h1.plain (hpl g hp hb), fun n f => ⟨(h1.plain (η' := [en]) (hpl g hp hb)).feet_lt f, fun h => h⟩⟩⟩
 have hF : (fun _ => False : Nat → Prop) = Ym [en] W [] := by
   funext n; simp [Ym, lkp]
 rcases sp.out ⟨Tryd.prog, ⟨tab, 0, shB [(0, .rows es rs)], none⟩, W, fun _ => False, [en]⟩ vs rfl rfl hF rfl H hd hG with ⟨g', h1, h2⟩ | ⟨v, w', h1, _⟩
 · rw [eg] at h1
   injection h1 with h1 _
   injection h1 with h1 _
   subst h1
   refine h2.mono fun e w' hee => ?_
   obtain ⟨v, rfl, r', O', nx', η', ⟨rfl, rfl, rfl⟩, _, h4, h5⟩ := hee
   simp only [Den] at h5
   subst h5
   exact ⟨rfl, h4.fr.os, h4.fr.tape, h4.fr.output, h4.fr.size, fun k hk => h4.fr.block k hk fun h => h⟩
 · rw [eg] at h1; cases h1
end Go.Proofs.YtgjnlngljmfefaaDoor
