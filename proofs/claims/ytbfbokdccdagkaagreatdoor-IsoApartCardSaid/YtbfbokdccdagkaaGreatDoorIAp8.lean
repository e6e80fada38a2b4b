/- Part 8: SxDrawn, SxDrawnS, SxDrawnT, SxAuto3, CmpM, SetM, SetN, ListM, MapG, ApartM, Sort, SxRange, SortS, SetO, SxKeep, SplitM, TagM, TermM, ValidM, InferM, WorldM, CloseM, DrawsM, ClosR, LeastM, SxKids, Prs. Conditions: as each part says. -/
import Derived.Lib.Bytealg
import Derived.Lib.Strings
import Derived.Shelf.SlSortCmp.NoneTotal
import Derived.RangeFuncNested
import Derived.Shelf.Sort.Plain
import Derived.Shelf.Slices.In.SortNone
import Derived.Test.YtbfbokdccdagkaaGreatDoorIAp4
import Derived.Test.YtbfbokdccdagkaaGreatDoorIAp7
set_option linter.unusedVariables false
set_option linter.unusedSimpArgs false
namespace Go.Sx
open Go
def Det (v : SV) : Prop := ∀ η u u', Den η v u → Den η v u' → u = u'
def DetL (vs : List SV) : Prop := ∀ η us us', DenL η vs us → DenL η vs us' → us = us'
mutual
def detV : SV → Bool
 | .bool _ | .int _ _ | .str _ | .ptr _ _ _ _ | .val _ | .mp _ | .yf _ => true
 | .dfs _ => false
 | .sl _ r _ _ _ => Nat.beq r 0
 | .agg cs => Z2R cs
 | .tup vs => Z2R vs
 | .ifc _ v => detV v
 | .fn _ a b => Z2R a && Z2R b
 | .arr _ _ => false
 | .any => false
 | .nb _ => false
def Z2R : List SV → Bool
 | [] => true
 | c :: cs => detV c && Z2R cs
end
mutual
theorem Det.of : ∀ {v : SV}, detV v = true → Det v
 | .bool _, _ => fun η u u' h h' => by simp only [Den] at h h'; rw [h, h']
 | .int _ _, _ => fun η u u' h h' => by simp only [Den] at h h'; rw [h, h']
 | .str _, _ => fun η u u' h h' => by simp only [Den] at h h'; rw [h, h']
 | .val _, _ => fun η u u' h h' => by simp only [Den] at h h'; rw [h.1, h'.1]
 | .mp b, _ => fun η u u' h h' => by
   simp only [Den] at h h'
   obtain ⟨e, h1, rfl⟩ := h
   obtain ⟨e', h2, rfl⟩ := h'
   rw [h1] at h2; injection h2 with h2; injection h2 with h2; rw [h2]
 | .ptr b r es c, _ => fun η u u' h h' => by
   simp only [Den] at h h'
   obtain ⟨e, h1, rfl⟩ := h
   obtain ⟨e', h2, rfl⟩ := h'
   rw [h1] at h2; injection h2 with h2; injection h2 with h2; rw [h2]
 | .sl b r es len lim, hd => fun η u u' h h' => by
   simp only [detV] at hd
   have hd := Zq hd
   simp only [Den] at h h'
   rcases h with ⟨h1, rfl, _⟩ | ⟨e, o, h1, rfl, _, _, h2⟩
   · rcases h' with ⟨h1', rfl, _⟩ | ⟨e', o', h1', rfl, _, _, h2'⟩
     · rfl
     · rw [h1] at h1'; cases h1'
   · rcases h' with ⟨h1', rfl, _⟩ | ⟨e', o', h1', rfl, _, _, h2'⟩
     · rw [h1] at h1'; cases h1'
     · rw [h1] at h1'; injection h1' with h1'; injection h1' with h1'; subst h1'
       rw [h2 (.inr hd), h2' (.inr hd)]
 | .agg cs, hd => fun η u u' h h' => by
   simp only [detV] at hd
   simp only [Den] at h h'
   obtain ⟨us, rfl, h1, _⟩ := h
   obtain ⟨us', rfl, h2, _⟩ := h'
   rw [DetL.of hd η us us' h1 h2]
 | .tup cs, hd => fun η u u' h h' => by
   simp only [detV] at hd
   simp only [Den] at h h'
   obtain ⟨us, rfl, h1⟩ := h
   obtain ⟨us', rfl, h2⟩ := h'
   rw [DetL.of hd η us us' h1 h2]
 | .ifc t v, hd => fun η u u' h h' => by
   simp only [detV] at hd
   simp only [Den] at h h'
   obtain ⟨us, rfl, h1⟩ := h
   obtain ⟨us', rfl, h2⟩ := h'
   rw [Det.of hd η us us' h1 h2]
 | .fn f a b, hd => fun η u u' h h' => by
   simp only [detV, Bool.and_eq_true] at hd
   simp only [Den] at h h'
   obtain ⟨us, vs, rfl, h1, h3⟩ := h
   obtain ⟨us', vs', rfl, h2, h4⟩ := h'
   rw [DetL.of hd.1 η us us' h1 h2, DetL.of hd.2 η vs vs' h3 h4]
 | .arr _ _, hd => by simp [detV] at hd
 | .any, hd => by simp [detV] at hd
 | .nb _, hd => by simp [detV] at hd
 | .dfs _, hd => by simp [detV] at hd
 | .yf b, _ => fun η u u' h h' => by
   simp only [Den] at h h'
   obtain ⟨e, h1, rfl⟩ := h
   obtain ⟨e', h2, rfl⟩ := h'
   rw [h1] at h2; injection h2 with h2; injection h2 with h2; rw [h2]
theorem DetL.of : ∀ {vs : List SV}, Z2R vs = true → DetL vs
 | [], _ => fun η us us' h h' => by simp only [DenL] at h h'; rw [h, h']
 | c :: cs, hd => fun η us us' h h' => by
   simp only [Z2R, Bool.and_eq_true] at hd
   simp only [DenL] at h h'
   obtain ⟨u, r, rfl, h1, h2⟩ := h
   obtain ⟨u', r', rfl, h1', h2'⟩ := h'
   rw [Det.of hd.1 η u u' h1 h1', DetL.of hd.2 η r r' h2 h2']
end
def UM : Hps → List (Blk × Hp)
 | [] => []
 | (i, h) :: r => (.loc i, h) :: UM r
def Z3Q (C : Cx) (O : Hps) : Cx := ⟨C.T, C.N, UM O ++ C.S, C.ro⟩
def Z17 (C : Cx) : Cx := ⟨{ C.T with globs := [], gplain := rfl }, C.N, [], C.ro⟩
def shMx (M : Mx) (O : Hps) (η : Env) (w : World) : Mx := ⟨M.P, Z3Q M.C O, w, fun _ => False, η⟩
def blMx (M : Mx) (η : Env) (w : World) : Mx := ⟨M.P, Z17 M.C, w, fun _ => False, η⟩
def Z2S : SV → Prop → Prop
 | .bool _, K | .int _ _, K | .str _, K | .ptr _ _ _ _, K | .val _, K => K
 | .agg cs, K => match Z2R cs with | true => K | false => NEED (Det (.agg cs)) K
 | .tup cs, K => match Z2R cs with | true => K | false => NEED (Det (.tup cs)) K
 | v, K => NEED (Det v) K
def Z6q (N : Nat) (C : Cx) (o : Oper) (fr : Fr) (nx : Nat) (K : SV → Prop) : Prop :=
 match JH N o.dst with
 | false => STOP "slot"
 | true => match o.op with
   | .move x => match Vh fr x with | some v => K v | none => STOP "operand"
   | .assign x => match Vh fr x with | some v => K v | none => STOP "operand"
   | op => match Z9P op with
     | true => STOP "writes"
     | false => (opR C (Vh fr) [] nx op).gv fun v => Z2S v (K v)
structure ADD (M : Mx) (o : Oper) (fr : Fr) (O : Hps) (nx : Nat) (K : SV → Hps → Nat → Prop) : Prop where
 out : ∀ η w, Z1L (shMx M O η w) o (Vh fr) [] nx fun v O2 nx => K v (O2 ++ O) nx
def Z7E (M : Mx) (m : Nat) (o : Oper) (fr : Fr) (O : Hps) (nx : Nat) (K : SV → Hps → Nat → Prop) : Prop :=
 match m with
 | 0 => Z1L M o (Vh fr) O nx K
 | 1 => Z6q M.C.N (Z17 M.C) o fr nx fun v => K v O nx
 | 2 => Z6q M.C.N (Z3Q M.C O) o fr nx fun v => K v O nx
 | _ => ADD M o fr O nx K
inductive Plan where
 | nil
 | take (i m : Nat) (t : Plan)
 | fork (i mi j mj : Nat) (a b : Plan)
 | fork3 (i mi j mj k mk : Nat) (a b c : Plan)
 | join (t : Plan)
def YM : List (Nat × Nat) → Plan
 | [] => .nil
 | (i, m) :: r => .take i m (YM r)
def Plan.depth : Plan → Nat
 | .nil => 0
 | .take _ _ t => t.depth + 1
 | .fork _ _ _ _ a _ => a.depth + 1
 | .fork3 _ _ _ _ _ _ a _ _ => a.depth + 1
 | .join t => t.depth
structure FORK (A B : Prop) : Prop where
 a : A
 b : B
structure JOIN (A : Fr → Prop) (fr : Fr) : Prop where
 out : ∃ fr', (∀ t, lkp t fr' = lkp t fr) ∧ A fr'
theorem JOIN.go {A : Fr → Prop} {fr : Fr} (h : A fr) : JOIN A fr := ⟨fr, fun _ => rfl, h⟩
theorem JOIN.ij {A : Fr → Prop} {fr : Fr} {a b c s : Nat} {x y z g : SV} (h : A ((b, y) :: (c, z) :: (a, x) :: (s, g) :: fr)) (hd : (a ≠ s ∧ b ≠ s ∧ c ≠ s) ∧ a ≠ b ∧ a ≠ c ∧ b ≠ c) : JOIN A ((b, y) :: (s, g) :: (c, z) :: (s, g) :: (a, x) :: (s, g) :: fr) := by
 refine ⟨_, fun t => ?_, h⟩
 obtain ⟨⟨h1, h2, h3⟩, h4, h5, h6⟩ := hd
 simp only [Zf]
 repeat' split
 all_goals first | rfl | (exfalso; omega)
theorem JOIN.ji {A : Fr → Prop} {fr : Fr} {a b c s : Nat} {x y z g : SV} (h : A ((b, y) :: (c, z) :: (a, x) :: (s, g) :: fr)) (hd : (a ≠ s ∧ b ≠ s ∧ c ≠ s) ∧ a ≠ b ∧ a ≠ c ∧ b ≠ c) : JOIN A ((c, z) :: (s, g) :: (a, x) :: (s, g) :: (b, y) :: (s, g) :: fr) := by
 refine ⟨_, fun t => ?_, h⟩
 obtain ⟨⟨h1, h2, h3⟩, h4, h5, h6⟩ := hd
 simp only [Zf]
 repeat' split
 all_goals first | rfl | (exfalso; omega)
def oneD (M : Mx) (ops : List Oper) (i m : Nat) (fr : Fr) (O : Hps) (nx : Nat) (K : Fr → Hps → Nat → Prop) : Prop :=
 match nth ops i with
 | none => STOP "order"
 | some o => match o.guard with
   | none => Z7E M m o fr O nx fun v O nx => putK o.dst v fr fun fr => K fr O nx
   | some (j, want) =>
     match Vk ops j with
     | none => STOP "guard"
     | some s => match lkp s fr with
       | some (.bool b) => IF b
         (fun J => match want with
          | true => Z7E M m o ((s, .bool true) :: fr) O nx fun v O nx => putK o.dst v ((s, .bool true) :: fr) fun fr => J fr O nx
          | false => match JH M.C.N o.dst with | true => putK o.dst YH ((s, .bool true) :: fr) fun fr => J fr O nx | false => STOP "slot")
         (fun J => match want with
          | false => Z7E M m o ((s, .bool false) :: fr) O nx fun v O nx => putK o.dst v ((s, .bool false) :: fr) fun fr => J fr O nx
          | true => match JH M.C.N o.dst with | true => putK o.dst YH ((s, .bool false) :: fr) fun fr => J fr O nx | false => STOP "slot")
         K
       | some (.tup []) => match JH M.C.N o.dst with | true => putK o.dst YH fr fun fr => K fr O nx | false => STOP "slot"
       | _ => STOP "guard"
def runD (M : Mx) (ops : List Oper) : Plan → Fr → Hps → Nat → (Fr → Hps → Nat → Prop) → Prop
 | .nil, fr, O, nx, K => K fr O nx
 | .take i m rest, fr, O, nx, K => oneD M ops i m fr O nx fun fr O nx => runD M ops rest fr O nx K
 | .fork i mi j mj a b, fr, O, nx, K => FORK (oneD M ops i mi fr O nx fun fr O nx => runD M ops a fr O nx K) (oneD M ops j mj fr O nx fun fr O nx => runD M ops b fr O nx K)
 | .fork3 i mi j mj k mk a b c, fr, O, nx, K => FORK (oneD M ops i mi fr O nx fun fr O nx => runD M ops a fr O nx K) (FORK (oneD M ops j mj fr O nx fun fr O nx => runD M ops b fr O nx K) (oneD M ops k mk fr O nx fun fr O nx => runD M ops c fr O nx K))
 | .join t, fr, O, nx, K => JOIN (fun fr => runD M ops t fr O nx K) fr
theorem FORK.skip {M : Mx} {ops : List Oper} {i mi j mj k mk : Nat} {p : Plan} {fr : Fr} {O : Hps} {nx : Nat} {K : Fr → Hps → Nat → Prop} (a b c s : Nat)
   (ha : runD M ops p ((b, YH) :: (c, YH) :: (a, YH) :: (s, .bool false) :: fr) O nx K → oneD M ops i mi fr O nx fun fr O nx => runD M ops (.take k mk (.take j mj (.join p))) fr O nx K)
   (hb : runD M ops p ((b, YH) :: (c, YH) :: (a, YH) :: (s, .bool false) :: fr) O nx K → oneD M ops j mj fr O nx fun fr O nx => runD M ops (.take i mi (.take k mk (.join p))) fr O nx K)
   (r : runD M ops p ((b, YH) :: (c, YH) :: (a, YH) :: (s, .bool false) :: fr) O nx K) :
   FORK (oneD M ops i mi fr O nx fun fr O nx => runD M ops (.take k mk (.take j mj (.join p))) fr O nx K) (oneD M ops j mj fr O nx fun fr O nx => runD M ops (.take i mi (.take k mk (.join p))) fr O nx K) := ⟨ha r, hb r⟩
theorem oneD.pass {M : Mx} {ops : List Oper} {i m : Nat} {fr : Fr} {O : Hps} {nx : Nat} {K : Fr → Hps → Nat → Prop} {o : Oper} {g s a : Nat} {e : Bool}
   (h1 : nth ops i = some o) (h2 : o.guard = some (g, true)) (h3 : Vk ops g = some s) (h4 : lkp s fr = some (.bool e)) (he : e = false) (h5 : o.dst = some a) (h6 : Nat.blt a M.C.N = true)
   (h : K ((a, YH) :: (s, .bool false) :: fr) O nx) : oneD M ops i m fr O nx K := by
 subst he
 unfold oneD
 simp only [h1, h2, h3, h4, h5, JH, h6, putK]
 exact IF.ff h
theorem FORK.pass {M : Mx} {ops : List Oper} {i mi j mj k mk : Nat} {p : Plan} {fr : Fr} {O : Hps} {nx : Nat} {K : Fr → Hps → Nat → Prop} (a b c s : Nat) {oi oj ok : Oper} {gi gj gk : Nat} {e : Bool}
   (hi : nth ops i = some oi) (hj : nth ops j = some oj) (hk : nth ops k = some ok)
   (ei : oi.guard = some (gi, true)) (ej : oj.guard = some (gj, true)) (ek : ok.guard = some (gk, true))
   (si : Vk ops gi = some s) (sj : Vk ops gj = some s) (sk : Vk ops gk = some s)
   (di : oi.dst = some a) (dj : oj.dst = some b) (dk : ok.dst = some c)
   (ni : Nat.blt a M.C.N = true) (nj : Nat.blt b M.C.N = true) (nk : Nat.blt c M.C.N = true)
   (hf : lkp s fr = some (.bool e)) (he : e = false)
   (hd : (a ≠ s ∧ b ≠ s ∧ c ≠ s) ∧ a ≠ b ∧ a ≠ c ∧ b ≠ c)
   (r : runD M ops p ((b, YH) :: (c, YH) :: (a, YH) :: (s, .bool false) :: fr) O nx K) :
   FORK (oneD M ops i mi fr O nx fun fr O nx => runD M ops (.take k mk (.take j mj (.join p))) fr O nx K) (oneD M ops j mj fr O nx fun fr O nx => runD M ops (.take i mi (.take k mk (.join p))) fr O nx K) := by
 have l1 : ∀ {v : SV} {t : Nat}, t ≠ s → lkp s ((t, v) :: (s, .bool false) :: fr) = some (.bool false) := fun h => by
   rw [Zf, if_neg (fun h' => h h'.symm), Zf, if_pos rfl]
 obtain ⟨⟨a1, a2, a3⟩, hd2⟩ := id hd
 have l2 : ∀ {v w : SV} {t u : Nat}, t ≠ s → u ≠ s → lkp s ((t, v) :: (s, .bool false) :: (u, w) :: (s, .bool false) :: fr) = some (.bool false) := fun h _ => by
   rw [Zf, if_neg (fun h' => h h'.symm), Zf, if_pos rfl]
 constructor
 · refine oneD.pass hi ei si hf he di ni ?_
   show oneD M ops k mk _ O nx fun fr O nx => runD M ops (.take j mj (.join p)) fr O nx K
   refine oneD.pass hk ek sk (l1 a1) rfl dk nk ?_
   show oneD M ops j mj _ O nx fun fr O nx => runD M ops (.join p) fr O nx K
   refine oneD.pass hj ej sj (l2 a3 a1) rfl dj nj ?_
   exact JOIN.ij r hd
 · refine oneD.pass hj ej sj hf he dj nj ?_
   show oneD M ops i mi _ O nx fun fr O nx => runD M ops (.take k mk (.join p)) fr O nx K
   refine oneD.pass hi ei si (l1 a2) rfl di ni ?_
   show oneD M ops k mk _ O nx fun fr O nx => runD M ops (.join p) fr O nx K
   refine oneD.pass hk ek sk (l2 a1 a2) rfl dk nk ?_
   exact JOIN.ji r hd
def JP (acc : List Nat) (o : Oper) : Nat := o.after.foldl (fun s e => if Region.binds .any e then s ||| 2 ^ e.on ||| acc.getD e.on 0 else s) 0
def WZ : List Oper → List Nat → List Nat
 | [], acc => acc
 | o :: r, acc => WZ r (acc ++ [JP acc o])
def Z18 (i : Nat) : Nat → List Nat → List Nat
 | 0, l => i :: l
 | _, l => l
def WH (m : Nat) : Bool := m == 0 || m == 3
def Zr : Plan → List Nat
 | .nil => []
 | .take i 0 t => i :: Zr t
 | .take _ _ t => Zr t
 | .fork i mi j mj a b => Z18 i mi (Z18 j mj (Zr a ++ Zr b))
 | .fork3 i mi j mj k mk a b c => Z18 i mi (Z18 j mj (Z18 k mk (Zr a ++ (Zr b ++ Zr c))))
 | .join t => Zr t
def Xq (ops : Array Oper) (ms : List Nat) : Plan → Array Bool → Bool
 | .nil, l => (Region.ready .any ops l).isEmpty
 | .take i m rest, l =>
   (match m with
    | 0 => Region.ready .any ops l == [i]
    | 1 => (Region.ready .any ops l).contains i && Region.free .any ops l i && (Zr rest).all (fun k => k != i)
    | 2 => (Region.ready .any ops l).contains i && Region.free .any ops l i && (Zr rest).all (fun k => k != i && (ms.getD k 0).testBit i)
    | _ => Region.ready .any ops l == [i]) &&
   Xq ops ms rest (l.setIfInBounds i true)
 | .fork i mi j mj a b, l => Region.ready .any ops l == [i, j] && WH mi && WH mj && a.depth == b.depth && Xq ops ms a (l.setIfInBounds i true) && Xq ops ms b (l.setIfInBounds j true)
 | .fork3 i mi j mj k mk a b c, l => Region.ready .any ops l == [i, j, k] && WH mi && WH mj && WH mk && a.depth == b.depth && a.depth == c.depth && Xq ops ms a (l.setIfInBounds i true) && Xq ops ms b (l.setIfInBounds j true) && Xq ops ms c (l.setIfInBounds k true)
 | .join t, l => Xq ops ms t l
def Z7F (ops : Array Oper) (steps : Plan) : Bool :=
 Region.noSelect ops && steps.depth == ops.size && Xq ops (WZ ops.toList []) steps (Array.replicate ops.size false)
end Go.Sx
namespace Go.Sx
open Go
theorem Z2l : ∀ (os : List Oper) (acc : List Nat), (WZ os acc).take acc.length = acc ∧ ∀ j o, os[j]? = some o → (WZ os acc)[acc.length + j]? = some (JP ((WZ os acc).take (acc.length + j)) o)
 | [], acc => ⟨by simp [WZ], fun j o h => by simp at h⟩
 | o :: os, acc => by
   simp only [WZ]
   obtain ⟨h1, h2⟩ := Z2l os (acc ++ [JP acc o])
   simp only [List.length_append, List.length_singleton] at h1 h2
   have h0 : (WZ os (acc ++ [JP acc o])).take acc.length = acc := by
     have := congrArg (List.take acc.length) h1
     rw [List.take_take] at this
     simpa using this
   refine ⟨h0, fun j o' hj => ?_⟩
   cases j with
   | zero =>
     simp at hj; subst hj
     rw [Nat.add_zero, h0]
     have := congrArg (fun l : List Nat => l[acc.length]?) h1
     simpa [List.getElem?_take] using this
   | succ j =>
     have := h2 j o' (by simpa using hj)
     rw [show acc.length + (j + 1) = acc.length + 1 + j by omega]
     exact this
theorem Z1M {acc : List Nat} {o : Oper} {i : Nat} (h : (JP acc o).testBit i = true) : ∃ e ∈ o.after, Region.binds .any e = true ∧ (e.on = i ∨ (acc.getD e.on 0).testBit i = true) := by
 unfold JP at h
 rw [← Array.foldl_toList] at h
 have key : ∀ (es : List Edge) (s : Nat), (es.foldl (fun s e => if Region.binds .any e then s ||| 2 ^ e.on ||| acc.getD e.on 0 else s) s).testBit i = true →
     s.testBit i = true ∨ ∃ e ∈ es, Region.binds .any e = true ∧ (e.on = i ∨ (acc.getD e.on 0).testBit i = true) := by
   intro es
   induction es with
   | nil => intro s h; exact .inl h
   | cons e es ih =>
     intro s h
     simp only [List.foldl_cons] at h
     rcases ih _ h with h | ⟨e', he', h⟩
     · split at h
       · rename_i hb
         simp only [Nat.testBit_or, Bool.or_eq_true] at h
         rcases h with (h | h) | h
         · exact .inl h
         · refine .inr ⟨e, List.mem_cons_self .., hb, .inl ?_⟩
           rw [Nat.testBit_two_pow] at h
           simpa using h
         · exact .inr ⟨e, List.mem_cons_self .., hb, .inr h⟩
       · exact .inl h
     · exact .inr ⟨e', List.mem_cons_of_mem _ he', h⟩
 rcases key _ _ h with h | ⟨e, he, h⟩
 · simp at h
 · exact ⟨e, by simpa using he, h⟩
theorem Z3R {ops : Array Oper} {l : Array Bool} (hc : Closed .any ops l) {i : Nat} : ∀ (k : Nat), ((WZ ops.toList []).getD k 0).testBit i = true → l.getD k false = true → l.getD i false = true := by
 intro k
 induction k using Nat.strongRecOn with
 | _ k ih =>
   intro h hk
   cases hg : (WZ ops.toList [])[k]? with
   | none => rw [List.getD_eq_getElem?_getD, hg] at h; simp at h
   | some m =>
     have hlt : k < ops.size := by
       rcases Nat.lt_or_ge k ops.size with h' | h'
       · exact h'
       · rw [← hc.1] at h'
         simp [Array.getElem?_eq_none h'] at hk
     have ho : ops[k]? = some ops[k] := Array.getElem?_eq_getElem hlt
     have hm := (Z2l ops.toList []).2 k ops[k] (by simp)
     simp only [List.length_nil, Nat.zero_add] at hm
     rw [List.getD_eq_getElem?_getD, hm, Option.getD_some] at h
     obtain ⟨e, he, hb, h⟩ := Z1M h
     have hon := hc.2 k _ ho hk e he hb
     rcases h with rfl | h
     · exact hon
     · rw [List.getD_eq_getElem?_getD, List.getElem?_take] at h
       split at h
       · rename_i hlt'
         exact ih e.on hlt' (by rw [List.getD_eq_getElem?_getD]; exact h) hon
       · simp at h
def agree (w w' : World) : Prop := ∀ k, k < w.heap.size → w'.heap[k]? = w.heap[k]?
theorem agree.refl (w : World) : agree w w := fun _ _ => rfl
theorem agree.trans {a b c : World} (h : agree a b) (k : agree b c) : agree a c := fun n hn => by
 have h1 := h n hn
 have hlt : n < b.heap.size := by
   rw [Array.getElem?_eq_getElem hn] at h1
   exact (Array.getElem?_eq_some_iff.1 h1).1
 rw [k n hlt, h1]
section
variable {M : Mx} {η : Env} {w : World} {O : Hps} {nx : Nat}
theorem Z19 {C : Cx} : ∀ {O : Hps} {j : Nat}, lkpB (.loc j) (UM O ++ C.S) = Jh C O (.loc j)
 | [], j => by simp [UM, Jh, lkp]
 | (i, h) :: r, j => by
   have ih := Z19 (C := C) (O := r) (j := j)
   simp only [UM, List.cons_append, lkpB, Z76, Jh, lkp]
   cases e : Nat.beq j i
   · simp only [e]; rw [ih]; rfl
   · simp only [e]
theorem Z6r {C : Cx} {O : Hps} {b : Blk} : lkS (Z3Q C O) b = Jh C O b := by
 cases b with
 | glob g => rfl
 | loc j => exact Z19
theorem HeapOK.read (H : HeapOK M η w O nx) {w' : World} (hag : agree w w') : HeapOK (shMx M O η w') η w' [] nx := by
 refine ⟨List.prefix_rfl, H.len, ⟨fun i h hi => by simp [lkp] at hi, fun i j h h' n hi => by simp [lkp] at hi⟩, FrW.refl _ _, fun b h hb => ?_⟩
 have hb' : Jh M.C O b = some h := by rw [← Z6r]; exact hb
 have hsat := H.look hb'
 have hag' : ∀ k, feet η w b h k → w'.heap[k]? = w.heap[k]? := fun k f => hag _ (hsat.feet_lt f)
 have hs' := hsat.keep hag'
 exact ⟨hs', fun k f => ⟨hs'.feet_lt f, fun h => h⟩⟩
theorem HeapOK.blind (hl : η.length = nx) (w : World) : HeapOK (blMx M η w) η w [] nx :=
 ⟨List.prefix_rfl, hl, ⟨fun i h hi => by simp [lkp] at hi, fun i j h h' n hi => by simp [lkp] at hi⟩, FrW.refl _ _, fun b h hb => by cases b <;> simp [blMx, Z17, lkS, lkpB, lkp] at hb⟩
theorem HeapOK.join (H : HeapOK M η w O nx) {η' : Env} {w' : World} {O2 : Hps} {nx2 : Nat} (H2 : HeapOK (shMx M O η w) η' w' O2 nx2) : HeapOK M η' w' (O2 ++ O) nx2 ∧ agree w w' := by
 have hag : agree w w' := fun k hk => H2.fr.block k hk (fun h => h)
 have hp : η <+: η' := H2.pre
 have old : ∀ {i : Nat} {h : Hp}, lkp i O = some h → HpSat η' w' true (.loc i) h ∧ ∀ k, feet η' w' (.loc i) h k → feet η w (.loc i) h k ∧ k < w.heap.size := by
   intro i h hi
   obtain ⟨hsat, hF⟩ := H.own.1 i h hi
   have hk : ∀ k, feet η w (.loc i) h k → w'.heap[k]? = w.heap[k]? := fun k f => hag _ (hsat.feet_lt f)
   refine ⟨(hsat.keep (w' := w') hk).mono hp, fun k f => ?_⟩
   have f' := H.stands hp hi hk f
   exact ⟨f', hsat.feet_lt f'⟩
 refine ⟨⟨H.pre.trans hp, H2.len, ⟨fun i h hi => ?_, fun i j h h' k hi hj hij f f' => ?_⟩, H.fr.trans H2.fr (fun n hn => hn.elim), H.sok⟩, hag⟩
 · rcases Xm hi with hi | ⟨_, hi⟩
   · obtain ⟨h1, h2⟩ := H2.own.1 i h hi
     refine ⟨h1, fun k f => .inr ?_⟩
     rcases h2 k f with h3 | h3
     · exact h3.elim
     · exact Nat.le_trans H.fr.size h3
   · obtain ⟨h1, h2⟩ := old hi
     exact ⟨h1, fun k f => (H.own.1 i h hi).2 k (h2 k f).1⟩
 · rcases Xm hi with hi | ⟨_, hi⟩
   · rcases Xm hj with hj | ⟨_, hj⟩
     · exact H2.own.2 i j h h' k hi hj hij f f'
     · have h1 := ((old hj).2 k f').2
       rcases (H2.own.1 i h hi).2 k f with h3 | h3
       · exact h3.elim
       · have h3 : w.heap.size ≤ k := h3
         omega
   · rcases Xm hj with hj | ⟨_, hj⟩
     · have h1 := ((old hi).2 k f).2
       rcases (H2.own.1 j h' hj).2 k f' with h3 | h3
       · exact h3.elim
       · have h3 : w.heap.size ≤ k := h3
         omega
     · exact H.own.2 i j h h' k hi hj hij ((old hi).2 k f).1 ((old hj).2 k f').1
theorem Z4R {v : SV} {K : Prop} (h : Z2S v K) : Det v ∧ K := by
 cases v with
 | agg cs =>
   simp only [Z2S] at h
   split at h
   · rename_i e; exact ⟨Det.of (by simpa only [detV] using e), h⟩
   · exact ⟨h.p, h.k⟩
 | tup cs =>
   simp only [Z2S] at h
   split at h
   · rename_i e; exact ⟨Det.of (by simpa only [detV] using e), h⟩
   · exact ⟨h.p, h.k⟩
 | _ => first | exact ⟨h.p, h.k⟩ | exact ⟨Det.of rfl, h⟩
theorem WI {P : Program} {C' : Cx} (hT : TabOK P C'.T) {N : World → Prop} {o : Oper} {a : Act} {fr : Fr} {nx N0 : Nat} {K : SV → Prop} (hf : FrOK η a fr)
   (hN : ∀ w', N w' → HeapOK ⟨P, C', w', fun _ => False, η⟩ η w' [] nx) (hw : N w) (h : Z6q N0 C' o fr nx K) :
   JH N0 o.dst = true ∧ ∃ u v, (∀ w', N w' → (execOp a.eval o).run P w' = .ok (.value u) w' ∨ ((execOp a.eval o).run P w' = .ok .skip w' ∧ u = undef)) ∧ Den η v u ∧ K v := by
 unfold Z6q at h
 split at h
 · exact h.out.elim
 rename_i hd
 refine ⟨hd, ?_⟩
 split at h
 · rename_i x ho
   split at h
   case h_2 => exact h.out.elim
   rename_i v hv
   exact ⟨a.eval x, v, fun w' _ => .inl (by simp [execOp, ho]), Y5 hf hv, h⟩
 · rename_i x ho
   split at h
   case h_2 => exact h.out.elim
   rename_i v hv
   exact ⟨a.eval x, v, fun w' _ => .inl (by simp [execOp, ho]), Y5 hf hv, h⟩
 · split at h
   · exact h.out.elim
   rename_i hst
   obtain ⟨v, hok, h⟩ := Res.gv_ok h
   obtain ⟨hdet, h⟩ := Z4R h
   have one : ∀ w', N w' → ∃ u, ((execOp a.eval o).run P w' = .ok (.value u) w' ∨ ((execOp a.eval o).run P w' = .ok .skip w' ∧ u = undef)) ∧ Den η v u := by
     intro w' hw'
     have H := hN w' hw'
     obtain ⟨u, w'', η'', h1, h2, h3, h4, h5⟩ := Z2J (M := ⟨P, C', w', fun _ => False, η⟩) (w := w') (ρ := a.eval) ⟨H, hT, fun x sv hx => Y5 hf hx⟩ o (hok [] nx)
     have he : η'' = η := (h2.eq_of_length (by rw [H.len, h3.len])).symm
     subst he
     have hww := h5 hst rfl
     subst hww
     exact ⟨u, h1, h4⟩
   obtain ⟨u, h1, h2⟩ := one w hw
   refine ⟨u, v, fun w' hw' => ?_, h2, h⟩
   obtain ⟨u', h3, h4⟩ := one w' hw'
   rw [hdet η u u' h2 h4]
   exact h3
end
def SS (ks : List Nat) (wc : World) (l : Array Bool) (w : World) : Prop := (∀ k ∈ ks, l.getD k false = false) → agree wc w
section
variable {M : Mx} {ops : Array Oper} {Q : Exit → Act → World → Prop}
theorem X9 {i m : Nat} {rest : Plan} (h : m ≠ 0) : Zr (.take i m rest) = Zr rest := by
 cases m with
 | zero => exact (h rfl).elim
 | succ m => rfl
theorem Z3S {i : Nat} {rest : Plan} : Zr (.take i 0 rest) = i :: Zr rest := rfl
theorem UN {l : Array Bool} {i : Nat} (h : l.getD i true = false) : l.getD i false = false := by
 rcases Nat.lt_or_ge i l.size with h' | h'
 · simp [h'] at h ⊢; exact h
 · simp [Array.getElem?_eq_none h'] at h
theorem VN {η : Env} {fr : Fr} {O : Hps} {nx : Nat} {a : Act} {w : World} (hm : Models M η fr O nx a w) {o : Oper} (hd : JH M.C.N o.dst = true) {u : Value} {v : SV} (hv : Den η v u) {Kp : Fr → Prop} (hk : putK o.dst v fr Kp) :
   ∃ fr', Kp fr' ∧ Models M η fr' O nx (a.put o.dst u) w := hm.put hd List.prefix_rfl hm.heap hv hk
theorem V6 (hQ : ∀ c a w, ¬ Q (.panic c) a w) (hs : Region.noSelect ops = true) {i n : Nat} {o : Oper} {l : Array Bool} {ks : List Nat} (ho : ops[i]? = some o) (hready : i ∈ Region.ready .any ops l) (hfree : Region.free .any ops l i = true) (hne : ∀ k ∈ ks, k ≠ i) (hc : Closed .any ops l)
   {N : World → Prop} {wc : World} (hN : ∀ l w, Closed .any ops l → l.getD i true = false → SS ks wc l w → N w) {a : Act} {w : World} {u : Value} (hy : YieldsN M.P ops N o u a) (hag : agree wc w)
   (h : wpH M.fence M.P .any ops Q (SS ks wc) n (l.setIfInBounds i true) (a.put o.dst u) w) : wpH M.fence M.P .any ops Q (SS ks wc) (n + 1) l a w := by
 refine Z7D M.all ho (Region.noSelect_spec hs) (fun c a w hq => (hQ _ _ _ hq).elim) hN (fun l' w' hc' hun hr hS hk => hS fun k hk' => ?_) n l a w hc (Region.free_spec ho hfree) hready hy (fun _ => hag) (fun _ => hag) h
 rw [getD_set_ne false (Ne.symm (hne k hk'))]; exact hk k hk'
theorem HeapOK.drawn {η : Env} {w : World} {O : Hps} {nx : Nat} (H : HeapOK M η w O nx) {n : Nat} (hn : w.drawn ≤ n) : HeapOK M η { w with drawn := n } O nx :=
 ⟨H.pre, H.len, H.own.still rfl, ⟨H.fr.os, H.fr.tape, H.fr.output, Nat.le_trans H.fr.drawn hn, H.fr.size, H.fr.block⟩, H.sok⟩
theorem Z3T {m : Nat} (h : WH m = true) : m = 0 ∨ m = 3 := by
 unfold WH at h
 simpa using h
theorem Zy {i m : Nat} {l : List Nat} {x : Nat} (h : x ∈ l) : x ∈ Z18 i m l := by
 cases m with
 | zero => exact List.mem_cons_of_mem _ h
 | succ m => exact h
theorem J3 {i : Nat} {l : List Nat} : i ∈ Z18 i 0 l := List.mem_cons_self ..
theorem Zal (hT : TabOK M.P M.C.T) {i m : Nat} (hmode : m = 0 ∨ m = 3) {fr : Fr} {O : Hps} {nx : Nat} {Kn : Fr → Hps → Nat → Prop} (h : oneD M ops.toList i m fr O nx Kn) {η : Env} {a : Act} {w : World} (hm : Models M η fr O nx a w) {R : Act → World → Prop}
   (hR : ∀ {fr : Fr} {O : Hps} {nx : Nat} {η : Env} {a : Act} {w' : World}, Kn fr O nx → Models M η fr O nx a w' → (m = 3 → agree w w') → R a w') : wpOpIn M.fence 0 M.P ops Q i R a w := by
 unfold oneD at h
 split at h
 · exact h.out.elim
 rename_i o ho
 have ho : ops[i]? = some o := by rw [Jw] at ho; simpa using ho
 have skip : ∀ {fr' : Fr}, Models M η fr' O nx a w → Region.wanted o (yielded ops a.tmps) ≠ true → (match JH M.C.N o.dst with | true => putK o.dst YH fr' fun fr => Kn fr O nx | false => STOP "slot") → wpOpIn M.fence 0 M.P ops Q i R a w := by
   intro fr' hm' hw h
   split at h
   case h_2 => exact h.out.elim
   rename_i hd
   obtain ⟨fr2, h1, h2⟩ := VN hm' hd (JY η) h
   unfold wpOpIn
   simp only [ho]
   rw [if_neg hw]; exact ⟨fun f _ => M.all f, hR h1 h2 fun _ => agree.refl w⟩
 have go : ∀ {fr' : Fr}, Models M η fr' O nx a w → Region.wanted o (yielded ops a.tmps) = true → (Z7E M m o fr' O nx fun v O nx => putK o.dst v fr' fun fr => Kn fr O nx) → wpOpIn M.fence 0 M.P ops Q i R a w := by
   intro fr' hm' hw h
   unfold wpOpIn
   simp only [ho]
   rw [if_pos hw]
   rcases hmode with rfl | rfl
   · have h : Z1L M o (Vh fr') O nx fun v O nx => putK o.dst v fr' fun fr => Kn fr O nx := h
     refine (UI hT hm' (fun x sv hx => Y5 hm'.frame hx) h fun u v O' nx' η' w' hd hp hH hv hk => ?_)
     obtain ⟨fr2, h1, h2⟩ := hm'.put hd hp hH hv hk
     exact hR h1 h2 fun h => by cases h
   · have h : ADD M o fr' O nx fun v O nx => putK o.dst v fr' fun fr => Kn fr O nx := h
     have hm2 : Models (shMx M O η w) η fr' [] nx a w := ⟨hm'.heap.read (agree.refl w), hm'.size, hm'.nds, hm'.defers, hm'.ro, hm'.frame⟩
     refine (UI (M := shMx M O η w) hT hm2 (fun x sv hx => Y5 hm'.frame hx) (h.out η w) fun u v O2 nx2 η' w' hd hp hH hv hk => ?_)
     obtain ⟨hJ, hag2⟩ := hm'.heap.join hH
     obtain ⟨fr2, h1, h2⟩ := hm'.put hd hp hJ hv hk
     exact hR h1 h2 fun _ => hag2
 split at h
 · rename_i hg
   exact go hm (V1 hg) h
 · rename_i j want hg
   split at h
   · exact h.out.elim
   rename_i s hsl
   split at h
   · rename_i b hb
     have hbv := Yv (hm.frame s _ hb)
     have hy := VL hsl hbv
     cases b with
     | true =>
       have h := h.t rfl
       have hm' : Models M η ((s, .bool true) :: fr) O nx a w := hm.know hb rfl rfl hbv
       cases want with
       | true => exact go hm' ((Zt hg).2 hy) h
       | false => exact skip hm' (fun hw => by rw [Zt hg, hy] at hw; cases hw) h
     | false =>
       have h := h.f rfl
       have hm' : Models M η ((s, .bool false) :: fr) O nx a w := hm.know hb rfl rfl hbv
       cases want with
       | false => exact go hm' ((Zt hg).2 hy) h
       | true => exact skip hm' (fun hw => by rw [Zt hg, hy] at hw; cases hw) h
   · rename_i hb
     have hbv := hm.frame s _ hb
     simp only [Den, DenL] at hbv
     obtain ⟨vs, hbv, rfl⟩ := hbv
     exact skip hm (fun hw => by rw [Zt hg] at hw; exact V0 hsl (by rw [hbv]; simp) hw) h
   · exact h.out.elim
theorem arm (hT : TabOK M.P M.C.T) {fk t : Plan} {d : Nat} {fr : Fr} {O : Hps} {nx : Nat} {K : Fr → Hps → Nat → Prop} {η : Env} {a : Act} {w wc : World} {l : Array Bool} (hm : Models M η fr O nx a w) (hag : agree wc w) (hc : Closed .any ops l)
   {x m : Nat} (hmo : WH m = true) (hx : x ∈ Region.ready .any ops l) (hxk : m = 0 → x ∈ Zr fk) (hsub : ∀ k ∈ Zr t, k ∈ Zr fk) (hd : t.depth = d)
   (ih : ∀ {fr : Fr} {O : Hps} {nx : Nat} {η : Env} {a : Act} {w wc : World}, runD M ops.toList t fr O nx K → Models M η fr O nx a w → agree wc w → wpH M.fence M.P .any ops Q (SS (Zr t) wc) t.depth (l.setIfInBounds x true) a w)
   (hrun : oneD M ops.toList x m fr O nx fun fr O nx => runD M ops.toList t fr O nx K) :
   wpOpIn M.fence 0 M.P ops Q x (fun a' w' => SS (Zr fk) wc (l.setIfInBounds x true) w' ∧ wpH M.fence M.P .any ops Q (SS (Zr fk) wc) d (l.setIfInBounds x true) a' w') a w := by
 have hin : x < l.size := by
   obtain ⟨h1, o, ho, _⟩ := mem_ready.1 hx
   rw [hc.1]; exact (Array.getElem?_eq_some_iff.1 ho).1
 have hset : (l.setIfInBounds x true).getD x false = true := by simp [hin]
 refine Zal hT (Z3T hmo) hrun hm fun {fr O nx η a w'} hk hm' hag' => ?_
 rcases Z3T hmo with h0 | h3
 · have hno : ∀ l' w', Grows (l.setIfInBounds x true) l' → SS (Zr fk) wc l' w' := by
     intro l' w' hg hk
     have h1 := hk x (hxk h0)
     rw [hg x hset] at h1; cases h1
   refine ⟨hno _ _ (fun _ h => h), ?_⟩
   have := ih hk hm' (agree.refl _)
   rw [hd] at this
   exact UL (l0 := l.setIfInBounds x true) (fun l' w' hg _ => hno l' w' hg) _ _ _ _ (fun _ h => h) this
 · have hag2 : agree wc w' := hag.trans (hag' h3)
   refine ⟨fun _ => hag2, ?_⟩
   have := ih hk hm' hag2
   rw [hd] at this
   exact UL (l0 := l.setIfInBounds x true) (fun l' w'' hg hS hk => hS fun k hkt => hk k (hsub k hkt)) _ _ _ _ (fun _ h => h) this
theorem YW (hT : TabOK M.P M.C.T) (hQ : ∀ c a w, ¬ Q (.panic c) a w) (hs : Region.noSelect ops = true) : ∀ (steps : Plan) {fr : Fr} {O : Hps} {nx : Nat} {K : Fr → Hps → Nat → Prop}, runD M ops.toList steps fr O nx K →
   ∀ {l : Array Bool}, Xq ops (WZ ops.toList []) steps l = true → Closed .any ops l → ∀ {η : Env} {a : Act} {w : World}, Models M η fr O nx a w → (∀ η fr O nx a w, Models M η fr O nx a w → K fr O nx → Q .normal a w) →
   ∀ {wc : World}, agree wc w → wpH M.fence M.P .any ops Q (SS (Zr steps) wc) steps.depth l a w
 | .nil, fr, O, nx, K, h, l, hl, hc, η, a, w, hm, hq, wc, hag => by
   simp only [Xq, List.isEmpty_iff] at hl
   exact ⟨hl, hq η fr O nx a w hm h⟩
 | .take i m rest, fr, O, nx, K, h, l, hl, hc, η, a, w, hm, hq, wc, hag => by
   have IH := @YW hT hQ hs rest
   unfold runD oneD at h
   split at h
   · exact h.out.elim
   rename_i o ho
   have ho : ops[i]? = some o := by rw [Jw] at ho; simpa using ho
   simp only [Xq, Bool.and_eq_true] at hl
   obtain ⟨hl1, hl2⟩ := hl
   have hready : i ∈ Region.ready .any ops l := by
     revert hl1
     split <;> intro hl1
     · rw [beq_iff_eq.1 hl1]; exact List.mem_singleton.2 rfl
     · simp only [Bool.and_eq_true] at hl1; simpa using hl1.1.1
     · simp only [Bool.and_eq_true] at hl1; simpa using hl1.1.1
     · rw [beq_iff_eq.1 hl1]; exact List.mem_singleton.2 rfl
   have hc' := hc.set hready
   have hin : i < l.size := by rw [hc.1]; exact (Array.getElem?_eq_some_iff.1 ho).1
   have hset : (l.setIfInBounds i true).getD i false = true := by simp [hin]
   have modes : ∀ {p : Prop}, (m = 0 → p) → (m = 1 → p) → (m = 2 → p) → (3 ≤ m → p) → p := by
     intro p h0 h1 h2 h3
     match m, h0, h1, h2, h3 with
     | 0, h0, _, _, _ => exact h0 rfl
     | 1, _, h1, _, _ => exact h1 rfl
     | 2, _, _, h2, _ => exact h2 rfl
     | m + 3, _, _, _, h3 => exact h3 (by omega)
   have alone : Region.ready .any ops l = [i] → ∀ {a : Act} {w : World}, agree wc w → wpOpIn M.fence 0 M.P ops Q i (fun a' w' => SS (Zr (.take i m rest)) wc (l.setIfInBounds i true) w' ∧ wpH M.fence M.P .any ops Q (SS (Zr (.take i m rest)) wc) rest.depth (l.setIfInBounds i true) a' w') a w →
       wpH M.fence M.P .any ops Q (SS (Zr (.take i m rest)) wc) (Plan.take i m rest).depth l a w := fun hr a w hag h => Zak hr h
   have afterKill : m = 0 → ∀ {fr : Fr} {O : Hps} {nx : Nat} {η : Env} {a : Act} {w : World}, runD M ops.toList rest fr O nx K → Models M η fr O nx a w →
       SS (Zr (.take i m rest)) wc (l.setIfInBounds i true) w ∧ wpH M.fence M.P .any ops Q (SS (Zr (.take i m rest)) wc) rest.depth (l.setIfInBounds i true) a w := by
     intro h0 fr O nx η a w hrun hm
     subst h0
     rw [Z3S]
     have hno : ∀ l' w', Grows (l.setIfInBounds i true) l' → SS (i :: Zr rest) wc l' w' := by
       intro l' w' hg hk
       have h1 := hk i (List.mem_cons_self ..)
       rw [hg i hset] at h1; cases h1
     exact ⟨hno _ _ (fun _ h => h), UL (l0 := l.setIfInBounds i true) (fun l' w' hg _ => hno l' w' hg) _ _ _ _ (fun _ h => h) (IH hrun hl2 hc' hm hq (agree.refl w))⟩
   have afterElse : m ≠ 0 → ∀ {fr : Fr} {O : Hps} {nx : Nat} {η : Env} {a : Act} {w : World}, runD M ops.toList rest fr O nx K → Models M η fr O nx a w → agree wc w →
       SS (Zr (.take i m rest)) wc (l.setIfInBounds i true) w ∧ wpH M.fence M.P .any ops Q (SS (Zr (.take i m rest)) wc) rest.depth (l.setIfInBounds i true) a w := by
     intro h0 fr O nx η a w hrun hm hag
     rw [X9 h0]
     exact ⟨fun _ => hag, IH hrun hl2 hc' hm hq hag⟩
   have quiet1 : m = 1 → Region.free .any ops l i = true ∧ ∀ k ∈ Zr rest, k ≠ i := by
     intro h1; subst h1
     simp only [Bool.and_eq_true, List.all_eq_true, bne_iff_ne] at hl1
     exact ⟨hl1.1.2, hl1.2⟩
   have quiet2 : m = 2 → Region.free .any ops l i = true ∧ ∀ k ∈ Zr rest, k ≠ i ∧ ((WZ ops.toList []).getD k 0).testBit i = true := by
     intro h1; subst h1
     simp only [Bool.and_eq_true, List.all_eq_true, bne_iff_ne] at hl1
     exact ⟨hl1.1.2, hl1.2⟩
   have alone0 : m = 0 → Region.ready .any ops l = [i] := by intro h1; subst h1; exact beq_iff_eq.1 hl1
   have alone3 : 3 ≤ m → Region.ready .any ops l = [i] := by
     intro h1
     match m, h1, hl1 with
     | m + 3, _, hl1 => exact beq_iff_eq.1 hl1
   have skip : ∀ {fr' : Fr}, Models M η fr' O nx a w → Region.wanted o (yielded ops a.tmps) ≠ true → (match JH M.C.N o.dst with | true => putK o.dst YH fr' fun fr => runD M ops.toList rest fr O nx K | false => STOP "slot") →
       wpH M.fence M.P .any ops Q (SS (Zr (.take i m rest)) wc) (Plan.take i m rest).depth l a w := by
     intro fr' hm' hw h
     split at h
     case h_2 => exact h.out.elim
     rename_i hd
     obtain ⟨fr2, h1, h2⟩ := VN hm' hd (JY η) h
     have hwf : Region.wanted o (yielded ops a.tmps) = false := by simpa using hw
     have op : ∀ {K' : Act → World → Prop}, K' (a.put o.dst undef) w → wpOpIn M.fence 0 M.P ops Q i K' a w := by
       intro K' hk
       unfold wpOpIn
       simp only [ho]
       rw [if_neg hw]; exact ⟨fun f _ => M.all f, hk⟩
     refine modes (fun h0 => alone (alone0 h0) hag (op (afterKill h0 h1 h2))) (fun h0 => ?_) (fun h0 => ?_) (fun h0 => alone (alone3 h0) hag (op (afterElse (by omega) h1 h2 hag)))
     · have hn : m ≠ 0 := by omega
       have := (afterElse hn h1 h2 hag).2
       rw [X9 hn] at this ⊢
       exact V6 hQ hs ho hready (quiet1 h0).1 (quiet1 h0).2 hc (N := fun _ => True) (fun _ _ _ _ _ => trivial) (.inr ⟨hwf, rfl⟩) hag this
     · have hn : m ≠ 0 := by omega
       have := (afterElse hn h1 h2 hag).2
       rw [X9 hn] at this ⊢
       exact V6 hQ hs ho hready (quiet2 h0).1 (fun k hk => ((quiet2 h0).2 k hk).1) hc (N := fun _ => True) (fun _ _ _ _ _ => trivial) (.inr ⟨hwf, rfl⟩) hag this
   have go : ∀ {fr' : Fr}, Models M η fr' O nx a w → Region.wanted o (yielded ops a.tmps) = true → (Z7E M m o fr' O nx fun v O nx => putK o.dst v fr' fun fr => runD M ops.toList rest fr O nx K) →
       wpH M.fence M.P .any ops Q (SS (Zr (.take i m rest)) wc) (Plan.take i m rest).depth l a w := by
     intro fr' hm' hw h
     have op : ∀ {K' : Act → World → Prop}, o.wpIn M.fence 0 M.P a w K' Q → wpOpIn M.fence 0 M.P ops Q i K' a w := by
       intro K' hk
       unfold wpOpIn
       simp only [ho]
       rw [if_pos hw]; exact hk
     refine modes (fun h0 => ?_) (fun h0 => ?_) (fun h0 => ?_) (fun h0 => ?_)
     · have h : Z1L M o (Vh fr') O nx fun v O nx => putK o.dst v fr' fun fr => runD M ops.toList rest fr O nx K := by subst h0; exact h
       refine alone (alone0 h0) hag (op (UI hT hm' (fun x sv hx => Y5 hm'.frame hx) h fun u v O' nx' η' w' hd hp hH hv hk => ?_))
       obtain ⟨fr2, h1, h2⟩ := hm'.put hd hp hH hv hk
       exact afterKill h0 h1 h2
     · have h : Z6q M.C.N (Z17 M.C) o fr' nx fun v => putK o.dst v fr' fun fr => runD M ops.toList rest fr O nx K := by subst h0; exact h
       obtain ⟨hd, u, v, hy, hv, hk⟩ := WI (P := M.P) (C' := Z17 M.C) ⟨hT.und, hT.info, hT.zero, hT.zsh, hT.flat, hT.key⟩ (N := fun _ => True) (w := w) hm'.frame (fun w' _ => HeapOK.blind (M := M) hm'.heap.len w') trivial h
       obtain ⟨fr2, h1, h2⟩ := VN hm' hd hv hk
       have hn : m ≠ 0 := by omega
       have := (afterElse hn h1 h2 hag).2
       rw [X9 hn] at this ⊢
       exact V6 hQ hs ho hready (quiet1 h0).1 (quiet1 h0).2 hc (N := fun _ => True) (fun _ _ _ _ _ => trivial) (.inl ⟨hw, fun w' h => hy w' h⟩) hag this
     · have h : Z6q M.C.N (Z3Q M.C O) o fr' nx fun v => putK o.dst v fr' fun fr => runD M ops.toList rest fr O nx K := by subst h0; exact h
       obtain ⟨hd, u, v, hy, hv, hk⟩ := WI (P := M.P) (C' := Z3Q M.C O) hT (N := agree w) hm'.frame (fun w' h => hm'.heap.read h) (agree.refl w) h
       obtain ⟨fr2, h1, h2⟩ := VN hm' hd hv hk
       have hn : m ≠ 0 := by omega
       have := IH h1 hl2 hc' h2 hq (agree.refl w)
       rw [X9 hn]
       refine UL (S' := SS (Zr rest) w) (l0 := l) (fun l' w' _ hS hk => hag.trans (hS hk)) _ _ _ _ (fun _ h => h) ?_
       refine V6 hQ hs ho hready (quiet2 h0).1 (fun k hk => ((quiet2 h0).2 k hk).1) hc (N := agree w) (fun l' w' hcl hun hS => hS fun k hk => ?_) (.inl ⟨hw, fun w' h => hy w' h⟩) (agree.refl w) this
       cases hlk : l'.getD k false with
       | false => rfl
       | true =>
         have := Z3R hcl k ((quiet2 h0).2 k hk).2 hlk
         rw [UN hun] at this; cases this
     · have h : ADD M o fr' O nx fun v O nx => putK o.dst v fr' fun fr => runD M ops.toList rest fr O nx K := by
         match m, h0, h with
         | m + 3, _, h => exact h
       have hm2 : Models (shMx M O η w) η fr' [] nx a w := ⟨hm'.heap.read (agree.refl w), hm'.size, hm'.nds, hm'.defers, hm'.ro, hm'.frame⟩
       refine alone (alone3 h0) hag (op (UI (M := shMx M O η w) hT hm2 (fun x sv hx => Y5 hm'.frame hx) (h.out η w) fun u v O2 nx2 η' w' hd hp hH hv hk => ?_))
       obtain ⟨hJ, hag2⟩ := hm'.heap.join hH
       obtain ⟨fr2, h1, h2⟩ := hm'.put hd hp hJ hv hk
       exact afterElse (by omega) h1 h2 (hag.trans hag2)
   split at h
   · rename_i hg
     exact go hm (V1 hg) h
   · rename_i j want hg
     split at h
     · exact h.out.elim
     rename_i s hsl
     split at h
     · rename_i b hb
       have hbv := Yv (hm.frame s _ hb)
       have hy := VL hsl hbv
       cases b with
       | true =>
         have h := h.t rfl
         have hm' : Models M η ((s, .bool true) :: fr) O nx a w := hm.know hb rfl rfl hbv
         cases want with
         | true => exact go hm' ((Zt hg).2 hy) h
         | false => exact skip hm' (fun hw => by rw [Zt hg, hy] at hw; cases hw) h
       | false =>
         have h := h.f rfl
         have hm' : Models M η ((s, .bool false) :: fr) O nx a w := hm.know hb rfl rfl hbv
         cases want with
         | false => exact go hm' ((Zt hg).2 hy) h
         | true => exact skip hm' (fun hw => by rw [Zt hg, hy] at hw; cases hw) h
     · rename_i hb
       have hbv := hm.frame s _ hb
       simp only [Den, DenL] at hbv
       obtain ⟨vs, hbv, rfl⟩ := hbv
       exact skip hm (fun hw => by rw [Zt hg] at hw; exact V0 hsl (by rw [hbv]; simp) hw) h
     · exact h.out.elim
 | .fork i mi j mj p q, fr, O, nx, K, h, l, hl, hc, η, a, w, hm, hq, wc, hag => by
   simp only [Xq, Bool.and_eq_true, beq_iff_eq] at hl
   obtain ⟨⟨⟨⟨⟨hr, hmi⟩, hmj⟩, hdep⟩, hlp⟩, hlq⟩ := hl
   unfold runD at h
   have hi : i ∈ Region.ready .any ops l := by rw [hr]; simp
   have hj : j ∈ Region.ready .any ops l := by rw [hr]; simp
   refine ⟨fun h0 => (by rw [hr] at h0; cases h0), fun x hx => ?_⟩
   rw [hr] at hx
   rcases List.mem_cons.1 hx with rfl | hx
   · exact arm hT hm hag hc hmi hi (fun h0 => by subst h0; exact J3) (fun k hk => Zy (Zy (List.mem_append_left _ hk))) rfl (fun hk hm' hag => YW hT hQ hs p hk hlp (hc.set hi) hm' hq hag) h.a
   · have hx := List.mem_singleton.1 hx
     subst hx
     exact arm hT hm hag hc hmj hj (fun h0 => by subst h0; exact Zy J3) (fun k hk => Zy (Zy (List.mem_append_right _ hk))) hdep.symm (fun hk hm' hag => YW hT hQ hs q hk hlq (hc.set hj) hm' hq hag) h.b
 | .fork3 i mi j mj k mk p q r, fr, O, nx, K, h, l, hl, hc, η, a, w, hm, hq, wc, hag => by
   simp only [Xq, Bool.and_eq_true, beq_iff_eq] at hl
   obtain ⟨⟨⟨⟨⟨⟨⟨⟨hr, hmi⟩, hmj⟩, hmk⟩, hdep⟩, hdep2⟩, hlp⟩, hlq⟩, hlr⟩ := hl
   unfold runD at h
   have hi : i ∈ Region.ready .any ops l := by rw [hr]; simp
   have hj : j ∈ Region.ready .any ops l := by rw [hr]; simp
   have hk' : k ∈ Region.ready .any ops l := by rw [hr]; simp
   refine ⟨fun h0 => (by rw [hr] at h0; cases h0), fun x hx => ?_⟩
   rw [hr] at hx
   rcases List.mem_cons.1 hx with rfl | hx
   · exact arm hT hm hag hc hmi hi (fun h0 => by subst h0; exact J3) (fun k hk => Zy (Zy (Zy (List.mem_append_left _ hk)))) rfl (fun hk hm' hag => YW hT hQ hs p hk hlp (hc.set hi) hm' hq hag) h.a
   · rcases List.mem_cons.1 hx with rfl | hx
     · exact arm hT hm hag hc hmj hj (fun h0 => by subst h0; exact Zy J3) (fun k hk => Zy (Zy (Zy (List.mem_append_right _ (List.mem_append_left _ hk))))) hdep.symm (fun hk hm' hag => YW hT hQ hs q hk hlq (hc.set hj) hm' hq hag) h.b.a
     · have hx := List.mem_singleton.1 hx
       subst hx
       exact arm hT hm hag hc hmk hk' (fun h0 => by subst h0; exact Zy (Zy J3)) (fun k hk => Zy (Zy (Zy (List.mem_append_right _ (List.mem_append_right _ hk))))) hdep2.symm (fun hk hm' hag => YW hT hQ hs r hk hlr (hc.set hk') hm' hq hag) h.b.b
 | .join p, fr, O, nx, K, h, l, hl, hc, η, a, w, hm, hq, wc, hag => by
   unfold runD at h
   obtain ⟨fr', he, h⟩ := h.out
   have hm' : Models M η fr' O nx a w := ⟨hm.heap, hm.size, hm.nds, (by rw [he]; exact hm.defers), hm.ro, fun t sv ht => hm.frame t sv (by rw [← he]; exact ht)⟩
   exact YW hT hQ hs p h hl hc hm' hq hag
theorem DRAWN.of {M : Mx} (hT : TabOK M.P M.C.T) (hP : M.P.follows .mixedOrders = true) {id : Nat} {ops : Array Oper} {fr : Fr} {O : Hps} {nx : Nat} {Q : Post} (steps : Plan) (hord : Z7F ops steps = true)
   (h : runD M ops.toList steps fr O nx fun fr O nx => Q .normal fr O nx) : DRAWN M id ops fr O nx Q := by
 simp only [Z7F, Bool.and_eq_true, beq_iff_eq] at hord
 obtain ⟨⟨hs, hlen⟩, hord⟩ := hord
 refine ⟨fun η a w hm => wpIn_region_any hP (WG (S := SS (Zr steps) { w with drawn := w.drawn + 1 }) _ _ _ _ ?_)⟩
 have hm' : Models M η fr O nx a { w with drawn := w.drawn + 1 } := ⟨hm.heap.drawn (Nat.le_succ _), hm.size, hm.nds, hm.defers, hm.ro, hm.frame⟩
 have hc0 : Closed .any ops (Array.replicate ops.size false) := by
   refine ⟨by simp, fun j o hj hl => ?_⟩
   rcases Nat.lt_or_ge j ops.size with h' | h'
   · simp [h'] at hl
   · simp [h'] at hl
 have key := YW (Q := Z7f M Q) hT (fun c a w hq => hq) hs steps h hord hc0 hm' (fun η fr O nx a w hm hq => ⟨η, fr, O, nx, hm, hq⟩) (agree.refl _)
 rw [hlen] at key
 exact key
end
section
variable {σ : Nat → Nat} {k : Nat}
theorem VO (h : ∀ j, j < k → σ j = j) : ∀ {b : Blk}, U4 k b = true → renB σ b = b
 | .glob g, _ => rfl
 | .loc i, hb => by simp only [U4, Nat.blt_eq] at hb; simp only [renB, h i hb]
mutual
theorem JQ (h : ∀ j, j < k → σ j = j) : ∀ {v : SV}, ZN k v = true → ren σ v = v
 | .bool _, _ => rfl
 | .int _ _, _ => rfl
 | .str _, _ => rfl
 | .val _, _ => rfl
 | .any, _ => rfl
 | .nb _, _ => rfl
 | .dfs l, hb => by simp only [ZN] at hb; simp only [ren, YE h hb]
 | .yf b, hb => by simp only [ZN] at hb; simp only [ren, VO h hb]
 | .mp b, hb => by simp only [ZN] at hb; simp only [ren, VO h hb]
 | .ptr b _ _ _, hb => by simp only [ZN] at hb; simp only [ren, VO h hb]
 | .sl b _ _ _ _, hb => by simp only [ZN] at hb; simp only [ren, VO h hb]
 | .agg cs, hb => by simp only [ZN] at hb; simp only [ren, YE h hb]
 | .arr _ rs, hb => by simp only [ZN] at hb; simp only [ren, J4 h hb]
 | .tup vs, hb => by simp only [ZN] at hb; simp only [ren, YE h hb]
 | .ifc _ v, hb => by simp only [ZN] at hb; simp only [ren, JQ h hb]
 | .fn _ a b, hb => by simp only [ZN, Bool.and_eq_true] at hb; simp only [ren, YE h hb.1, YE h hb.2]
theorem YE (h : ∀ j, j < k → σ j = j) : ∀ {vs : List SV}, ZY k vs = true → renL σ vs = vs
 | [], _ => rfl
 | c :: cs, hb => by simp only [ZY, Bool.and_eq_true] at hb; simp only [renL, JQ h hb.1, YE h hb.2]
theorem J4 (h : ∀ j, j < k → σ j = j) : ∀ {vs : List (List SV)}, Ye k vs = true → X0 σ vs = vs
 | [], _ => rfl
 | c :: cs, hb => by simp only [Ye, Bool.and_eq_true] at hb; simp only [X0, YE h hb.1, J4 h hb.2]
end
theorem Z2m (h : ∀ j, j < k → σ j = j) : ∀ {fr : Fr}, U5 k fr = true → renF σ fr = fr
 | [], _ => rfl
 | (t, v) :: r, hb => by
   simp only [U5, Bool.and_eq_true] at hb
   simp only [renF, JQ h hb.1, Z2m h hb.2]
theorem Z6v (h : ∀ j, j < k → σ j = j) : ∀ {c : DC}, WA k c = true → renC σ c = c
 | .v s, hb => by simp only [WA] at hb; simp only [renC, JQ h hb]
 | .kid _ rs, hb => by simp only [WA] at hb; simp only [renC, J4 h hb]
theorem Z1e (h : ∀ j, j < k → σ j = j) : ∀ {r : List DC}, XK k r = true → Z0S σ r = r
 | [], _ => rfl
 | c :: cs, hb => by simp only [XK, Bool.and_eq_true] at hb; simp only [Z0S, Z6v h hb.1, Z1e h hb.2]
theorem WJ (h : ∀ j, j < k → σ j = j) : ∀ {r : List (List DC)}, Yz k r = true → XC σ r = r
 | [], _ => rfl
 | c :: cs, hb => by simp only [Yz, Bool.and_eq_true] at hb; simp only [XC, Z1e h hb.1, WJ h hb.2]
theorem VP (h : ∀ j, j < k → σ j = j) : ∀ {hp : Hp}, Z3 k hp = true → renH σ hp = hp
 | .deep _ _ _, hb => by simp only [Z3] at hb; simp only [renH, WJ h hb]
 | .box _, hb => by simp only [Z3] at hb; simp only [renH, YE h hb]
 | .rows _ _, hb => by simp only [Z3] at hb; simp only [renH, J4 h hb]
 | .siter _ _, _ => rfl
 | .tbl _, _ => rfl
 | .bld _ _ _, _ => rfl
 | .dfr _, _ => rfl
 | .lp _ _ fr, hb => by simp only [Z3] at hb; simp only [renH, Z2m h hb]
 | .mp _, hb => by simp only [Z3] at hb; simp only [renH, J4 h hb]
theorem Z2n (h : ∀ j, j < k → σ j = j) : ∀ {O : Hps}, Z4 k O = true → renO σ O = O
 | [], _ => rfl
 | (i, hp) :: r, hb => by
   simp only [Z4, Bool.and_eq_true, Nat.blt_eq] at hb
   simp only [renO, h i hb.1, VP h hb.2.1, Z2n h hb.2.2]
end
variable {M : Mx} {fr fr' : Fr} {O O' : Hps} {nx : Nat}
theorem Z7R {k i : Nat} (h : i < k) : (List.range k).getD i 0 = i := by simp [List.getD, h]
theorem Z4W {k nx j : Nat} (h : j < k) : ZL (List.range k) nx j = j := by
 simp only [ZL, List.length_range, if_pos h, Z7R h]
def hereO (O : Hps) : Hps → Prop
 | [] => True
 | (i, h) :: r => match lkp i O with
   | some g => g = h ∧ hereO O r
   | none => False
def hereS (C : Cx) (O : Hps) : Hps → Prop
 | [] => True
 | (i, h) :: r => match Jh C O (.loc i) with
   | some g => g = h ∧ hereS C O r
   | none => False
theorem hereO.at {O : Hps} : ∀ {Oc : Hps}, hereO O Oc → ∀ p ∈ Oc, lkp p.1 O = some p.2
 | [], _, p, hp => by cases hp
 | (i, h) :: r, hs, p, hp => by
   simp only [hereO] at hs
   split at hs
   · rename_i g hg
     obtain ⟨rfl, hs⟩ := hs
     rcases List.mem_cons.1 hp with rfl | hp
     · exact hg
     · exact hereO.at hs p hp
   · exact hs.elim
theorem hereS.at {C : Cx} {O : Hps} : ∀ {Sc : Hps}, hereS C O Sc → ∀ p ∈ Sc, Jh C O (.loc p.1) = some p.2
 | [], _, p, hp => by cases hp
 | (i, h) :: r, hs, p, hp => by
   simp only [hereS] at hs
   split at hs
   · rename_i g hg
     obtain ⟨rfl, hs⟩ := hs
     rcases List.mem_cons.1 hp with rfl | hp
     · exact hg
     · exact hereS.at hs p hp
   · exact hs.elim
theorem Xr {k : Nat} : ∀ {O : Hps}, Z4 k O = true → ∀ p ∈ O, p.1 < k ∧ Z3 k p.2 = true
 | [], _, p, hp => by cases hp
 | (i, h) :: r, hb, p, hp => by
   simp only [Z4, Bool.and_eq_true, Nat.blt_eq] at hb
   rcases List.mem_cons.1 hp with rfl | hp
   · exact ⟨hb.1, hb.2.1⟩
   · exact Xr hb.2.2 p hp
theorem YF {k : Nat} : ∀ {O : Hps}, Z4 k O = true → ∀ j ∈ Zk O, j < k
 | [], _, j, hj => by cases hj
 | (i, h) :: r, hb, j, hj => by
   simp only [Z4, Bool.and_eq_true, Nat.blt_eq] at hb
   rcases List.mem_cons.1 hj with rfl | hj
   · exact hb.1
   · exact YF hb.2.2 j hj
theorem Z5O {f : Nat → Nat} : ∀ {l : List Nat}, (∀ j ∈ l, f j = j) → l.map f = l
 | [], _ => rfl
 | x :: l, h => by simp only [List.map_cons, h x (List.mem_cons_self ..), Z5O fun j hj => h j (List.mem_cons_of_mem _ hj)]
theorem Z1f : ∀ {S : Hps} {p : Nat × Hp}, p ∈ S → p.1 ∈ Zk S
 | [], p, hp => by cases hp
 | (i, h) :: S, p, hp => by
   rcases List.mem_cons.1 hp with rfl | hp
   · exact List.mem_cons_self ..
   · exact List.mem_cons_of_mem _ (Z1f hp)
theorem CALL.here {f : FuncId} {args : List SV} {K : SV → Hps → Nat → Prop} {k : Nat} {Oc Sc : Hps} {Q : SV → Hps → Nat → Prop} (sp : Does M.P M.C.T f k args Oc Sc Q)
   (hk : Nat.ble k nx = true) (hb : ZY k args = true) (hbO : Z4 k Oc = true) (hbS : Z4 k Sc = true) (hO : hereO O Oc) (hS : hereS M.C O Sc)
   (hd : (Zk Sc).all (fun j => !((Zk Oc).any (Nat.beq j))) = true)
   (hQ : ∀ r O' nx', Q r O' nx' → nx' = k ∧ ZN k r = true ∧ Z4 k O' = true)
   (hK : ∀ r O', Q r O' k → K r (O' ++ YI (Zk Oc) O) nx) : CALL M f args O nx K := by
 have hk := Nat.le_of_ble_eq_true hk
 have hσ : ∀ j, j < k → ZL (List.range k) nx j = j := fun j hj => Z4W hj
 have hnames : (Zk Oc).map (ZL (List.range k) nx) = Zk Oc := Z5O fun j hj => hσ j (YF hbO j hj)
 refine CALL.of (List.range k) sp (by simp) (fun i hi => by have := List.mem_range.1 hi; omega) (YE hσ hb).symm hb ?_ ?_ ?_ ?_
 · intro p hp
   obtain ⟨h1, h2⟩ := Xr hbO p hp
   exact ⟨h1, by rw [hσ _ h1, VP hσ h2]; exact hO.at p hp, h2⟩
 · intro j hj j' hj' he
   rwa [hσ j (YF hbO j hj), hσ j' (YF hbO j' hj')] at he
 · intro p hp
   obtain ⟨h1, h2⟩ := Xr hbS p hp
   refine ⟨h1, by rw [hσ _ h1, VP hσ h2]; exact hS.at p hp, h2, ?_⟩
   rw [hnames, hσ _ h1]
   intro hm
   have hj : p.1 ∈ Zk Sc := Z1f hp
   have := List.all_eq_true.1 hd _ hj
   simp only [Bool.not_eq_eq_eq_not, Bool.not_true] at this
   have h3 : (Zk Oc).any (Nat.beq p.1) = true := List.any_eq_true.2 ⟨p.1, hm, YP _⟩
   rw [h3] at this; cases this
 · intro r O' nx' hq
   obtain ⟨rfl, h1, h2⟩ := hQ r O' nx' hq
   have := hK r O' hq
   rw [JQ hσ h1, Z2n hσ h2, hnames]
   simpa using this
def thereO (σ : Nat → Nat) (O : Hps) : Hps → Prop
 | [] => True
 | (i, h) :: r => match lkp (σ i) O with
   | some g => g = renH σ h ∧ thereO σ O r
   | none => False
def thereS (C : Cx) (σ : Nat → Nat) (O : Hps) : Hps → Prop
 | [] => True
 | (i, h) :: r => match Jh C O (.loc (σ i)) with
   | some g => g = renH σ h ∧ thereS C σ O r
   | none => False
theorem thereO.at {σ : Nat → Nat} {O : Hps} : ∀ {Oc : Hps}, thereO σ O Oc → ∀ p ∈ Oc, lkp (σ p.1) O = some (renH σ p.2)
 | [], _, p, hp => by cases hp
 | (i, h) :: r, hs, p, hp => by
   simp only [thereO] at hs
   split at hs
   · rename_i g hg
     obtain ⟨rfl, hs⟩ := hs
     rcases List.mem_cons.1 hp with rfl | hp
     · exact hg
     · exact thereO.at hs p hp
   · exact hs.elim
theorem thereS.at {C : Cx} {σ : Nat → Nat} {O : Hps} : ∀ {Sc : Hps}, thereS C σ O Sc → ∀ p ∈ Sc, Jh C O (.loc (σ p.1)) = some (renH σ p.2)
 | [], _, p, hp => by cases hp
 | (i, h) :: r, hs, p, hp => by
   simp only [thereS] at hs
   split at hs
   · rename_i g hg
     obtain ⟨rfl, hs⟩ := hs
     rcases List.mem_cons.1 hp with rfl | hp
     · exact hg
     · exact thereS.at hs p hp
   · exact hs.elim
theorem CALL.at {f : FuncId} {args argsc : List SV} {K : SV → Hps → Nat → Prop} {k : Nat} {Oc Sc : Hps} {Q : SV → Hps → Nat → Prop} (L : List Nat) (sp : Does M.P M.C.T f k argsc Oc Sc Q)
   (hL : L.length = k) (hLn : L.all (fun i => Nat.blt i nx) = true) (ha : args = renL (ZL L nx) argsc) (hb : ZY k argsc = true) (hbO : Z4 k Oc = true) (hbS : Z4 k Sc = true) (hO : thereO (ZL L nx) O Oc) (hS : thereS M.C (ZL L nx) O Sc)
   (hinj : (Zk Oc).all (fun j => (Zk Oc).all fun j' => !(Nat.beq (ZL L nx j) (ZL L nx j')) || Nat.beq j j') = true)
   (hd : (Zk Sc).all (fun j => !((Zk Oc).any fun j' => Nat.beq (ZL L nx j) (ZL L nx j'))) = true)
   (hK : ∀ r O' nx', Q r O' nx' → K (ren (ZL L nx) r) (renO (ZL L nx) O' ++ YI ((Zk Oc).map (ZL L nx)) O) (nx + (nx' - k))) : CALL M f args O nx K := by
 refine CALL.of L sp hL (fun i hi => by have := List.all_eq_true.1 hLn i hi; simpa [Nat.blt_eq] using this) ha hb (fun p hp => ?_) (fun j hj j' hj' he => ?_) (fun p hp => ?_) hK
 · obtain ⟨h1, h2⟩ := Xr hbO p hp
   exact ⟨h1, hO.at p hp, h2⟩
 · have := List.all_eq_true.1 (List.all_eq_true.1 hinj j hj) j' hj'
   simp only [he, YP, Bool.not_true, Bool.false_or] at this
   exact Zq this
 · obtain ⟨h1, h2⟩ := Xr hbS p hp
   refine ⟨h1, hS.at p hp, h2, fun hm => ?_⟩
   obtain ⟨j', hj', he⟩ := List.mem_map.1 hm
   have := List.all_eq_true.1 hd _ (Z1f hp)
   simp only [Bool.not_eq_eq_eq_not, Bool.not_true] at this
   have h3 : (Zk Oc).any (fun j' => Nat.beq (ZL L nx p.1) (ZL L nx j')) = true := List.any_eq_true.2 ⟨j', hj', by rw [he]; exact YP _⟩
   rw [h3] at this; cases this
theorem FIN.at {k : Nat} {r : SV} {Q : SV → Hps → Nat → Prop} (hk : M.η0.length = k) (τ : List Nat) (rc : SV) (Oc : Hps) (hτ : τ.all (fun i => Nat.blt i nx) = true) (hr : r = ren (Yd k τ) rc) (hb : ZN (k + τ.length) rc = true) (hbO : Z4 (k + τ.length) Oc = true)
   (hO : thereO (Yd k τ) O Oc) (hinj : (Zk Oc).all (fun j => (Zk Oc).all fun j' => !(Nat.beq (Yd k τ j) (Yd k τ j')) || Nat.beq j j') = true) (hQ : Q rc Oc (k + τ.length)) : FIN M O nx r Q := by
 refine FIN.keep hk τ (rc := rc) (Oc := Oc) (fun i hi => by have := List.all_eq_true.1 hτ i hi; simpa [Nat.blt_eq] using this) hr hb (fun p hp => ?_) (fun j hj j' hj' he => ?_) hQ
 · obtain ⟨h1, h2⟩ := Xr hbO p hp
   exact ⟨h1, hO.at p hp, h2⟩
 · have := List.all_eq_true.1 (List.all_eq_true.1 hinj j hj) j' hj'
   simp only [he, YP, Bool.not_true, Bool.false_or] at this
   exact Zq this
theorem Z9d {G : Prop} {body : Code} {Q : Post} {n : Nat} {X : Type} (P : X → Prop) (frx : X → Fr) (Ox : X → Hps) (h1 : (∀ x, P x → LOOP M body (frx x) (Ox x) n Q) → G) (h2 : ∀ x, P x → LOOP M body (frx x) (Ox x) n Q) : G := h1 h2
theorem CALL.weak {f : FuncId} {args : List SV} {K : SV → Hps → Nat → Prop} {O1 : Hps} {n1 : Nat} (h : ∀ η w, HeapOK M η w O nx → ∃ η', η <+: η' ∧ HeapOK M η' w O1 n1) (hc : CALL M f args O1 n1 K) : CALL M f args O nx K := by
 refine ⟨fun η w vs H hd => ?_⟩
 obtain ⟨η1, hp, H1⟩ := h η w H
 refine (hc.out η1 w vs H1 (DenL.mono hp hd)).mono ?_
 rintro v w' ⟨r, O', nx', η', h1, h2⟩
 exact ⟨r, O', nx', η', hp.trans h1, h2⟩
def Z1g (nx es : Nat) : Nat → List SV → Option (List SV)
 | 0, .val (.slice none 0 0) :: r => some (.sl (.loc nx) 0 es 0 none :: r)
 | j + 1, c :: r => match Z1g nx es j r with | some r => some (c :: r) | none => none
 | _, _ => none
theorem Z3Y {nx es : Nat} : ∀ {j : Nat} {row row' : List SV}, Z1g nx es j row = some row' → ∀ (i : Nat) (sv : SV), row'[i]? = some sv → row[i]? = some sv ∨ (row[i]? = some (SV.val (.slice none 0 0)) ∧ sv = SV.sl (.loc nx) 0 es 0 none)
 | 0, [], _, h => by simp [Z1g] at h
 | 0, c :: r, row', h => by
   unfold Z1g at h
   split at h
   · rename_i e1 e2
     injection e2 with e2 e3
     subst e2 e3
     injection h with h; subst h
     intro i sv hi
     cases i with
     | zero => simp at hi; subst hi; exact .inr ⟨rfl, rfl⟩
     | succ i => exact .inl (by simpa using hi)
   · simp_all
   · cases h
 | j + 1, [], _, h => by simp [Z1g] at h
 | j + 1, c :: r, row', h => by
   unfold Z1g at h
   split at h
   · rename_i r1 hr
     injection h with h; subst h
     intro i sv hi
     cases i with
     | zero => left; simpa using hi
     | succ i =>
       have := Z3Y hr i sv (by simpa using hi)
       simpa using this
   · cases h
theorem HeapOK.nilCell {η : Env} {w : World} (H : HeapOK M η w O nx) {i j es : Nat} {row row' : List SV} (hi : lkp i O = some (.box row)) (hr : Z1g nx es j row = some row') :
   ∃ η', η <+: η' ∧ HeapOK M η' w ((nx, .rows es []) :: setK i (.box row') O) (nx + 1) := by
 have hpre : η <+: η ++ [none] := List.prefix_append _ _
 have hnew : (η ++ [none])[nx]? = some none := by rw [List.getElem?_append_right (by rw [H.len]; omega), H.len]; simp
 have hold : ∀ {i h}, lkp i O = some h → (η ++ [none])[i]? = η[i]? := fun {i h} hi => by
   rw [List.getElem?_append_left (by rw [H.len]; exact H.lt hi)]
 have hin : ∀ {a h}, lkp a (setK i (.box row') O) = some h → ∃ h0, lkp a O = some h0 ∧ HpSat (η ++ [none]) w true (.loc a) h ∧ ∀ n, feet (η ++ [none]) w (.loc a) h n → feet η w (.loc a) h0 n := by
   intro a h ha
   rw [ZU _ _ _ _ (by rw [hi]; rfl)] at ha
   split at ha
   · rename_i e
     subst e
     injection ha with ha
     subst ha
     refine ⟨_, hi, ?_, fun n f => H.stands hpre hi (fun _ _ => rfl) (show feet (η ++ [none]) w (.loc _) (.box row) n from f)⟩
     have := (H.own.1 _ _ hi).1.mono hpre
     simp only [HpSat] at this ⊢
     obtain ⟨e, arr, T, fz, h1, h2, h3, h4⟩ := this
     refine ⟨e, arr, T, fz, h1, h2, h3, fun c sv hc => ?_⟩
     rcases Z3Y hr c sv hc with hc' | ⟨hc', rfl⟩
     · exact h4 c sv hc'
     · obtain ⟨v, h5, h6, h7⟩ := h4 c _ hc'
       refine ⟨v, h5, h6, ?_⟩
       simp only [Den] at h7 ⊢
       exact .inl ⟨hnew, h7.1, trivial⟩
   · exact ⟨h, ha, (H.own.1 _ _ ha).1.mono hpre, fun n f => H.stands hpre ha (fun _ _ => rfl) f⟩
 refine ⟨η ++ [none], hpre, H.pre.trans hpre, by simp [H.len], ⟨fun a h ha => ?_, fun a b h h' n ha hb hab f f' => ?_⟩, H.fr, H.sok⟩
 · rw [Zf] at ha
   split at ha
   · rename_i e; subst e; injection ha with ha; subst ha
     exact ⟨.inl ⟨hnew, rfl⟩, fun n f => (feet.none (b := .loc _) hnew f).elim⟩
   · obtain ⟨h0, h1, h2, h3⟩ := hin ha
     exact ⟨h2, fun n f => (H.own.1 a h0 h1).2 n (h3 n f)⟩
 · rw [Zf] at ha hb
   split at ha
   · rename_i e1; subst e1; exact (feet.none (b := .loc _) hnew f).elim
   · split at hb
     · rename_i e2; subst e2; exact (feet.none (b := .loc _) hnew f').elim
     · obtain ⟨h0, h1, _, h3⟩ := hin ha
       obtain ⟨h0', h1', _, h3'⟩ := hin hb
       exact H.own.2 a b h0 h0' n h1 h1' hab (h3 n f) (h3' n f')
theorem CALL.nilCell {f : FuncId} {args : List SV} {K : SV → Hps → Nat → Prop} (i j es : Nat) {row row' : List SV} (hi : lkp i O = some (.box row)) (hr : Z1g nx es j row = some row') (hc : CALL M f args ((nx, .rows es []) :: setK i (.box row') O) (nx + 1) K) : CALL M f args O nx K :=
 CALL.weak (fun η w H => H.nilCell hi hr) hc
theorem FIN.here {k : Nat} {r rc : SV} {Oc : Hps} {Q : SV → Hps → Nat → Prop} (hk : M.η0.length = k) (hr : r = rc) (hb : ZN k rc = true) (hbO : Z4 k Oc = true) (hO : hereO O Oc) (hQ : Q rc Oc k) : FIN M O nx r Q := by
 have hσ : ∀ j, j < k → Yd k [] j = j := fun j hj => by simp [Yd, hj]
 refine FIN.keep hk [] (rc := rc) (Oc := Oc) (fun i hi => by cases hi) (by rw [JQ hσ hb]; exact hr) hb ?_ ?_ hQ
 · intro p hp
   obtain ⟨h1, h2⟩ := Xr hbO p hp
   exact ⟨h1, by rw [hσ _ h1, VP hσ h2]; exact hO.at p hp, h2⟩
 · intro j hj j' hj' he
   rwa [hσ j (YF hbO j hj), hσ j' (YF hbO j' hj')] at he
def Loose (k : Nat) : List SV → List SV → Prop
 | _, [] => True
 | [], _ :: _ => False
 | c :: cs, c' :: cs' => (c' = .any ∨ (c' = c ∧ ZN k c = true)) ∧ Loose k cs cs'
theorem Loose.get {k : Nat} : ∀ {row row' : List SV}, Loose k row row' → ∀ (j : Nat) (sv : SV), row'[j]? = some sv → ∃ c, row[j]? = some c ∧ (sv = .any ∨ (sv = c ∧ ZN k c = true))
 | _, [], _, j, sv, h => by simp at h
 | [], _ :: _, h, _, _, _ => h.elim
 | c :: cs, c' :: cs', h, 0, sv, hj => by simp at hj; subst hj; exact ⟨c, rfl, h.1⟩
 | c :: cs, c' :: cs', h, j + 1, sv, hj => by simp at hj; obtain ⟨d, h1, h2⟩ := Loose.get h.2 j sv hj; exact ⟨d, by simpa using h1, h2⟩
theorem FIN.loose {k : Nat} {r : SV} {Q : SV → Hps → Nat → Prop} (hk : M.η0.length = k) (i : Nat) (row' : List SV) {row : List SV} (hr : plain r = true) (hO : lkp i O = some (.box row)) (hi : Nat.blt i k = true) (hl : Loose k row row') (hQ : Q r [(i, .box row')] k) : FIN M O nx r Q := by
 refine ⟨fun η w v H hd => ⟨r, [(i, .box row')], k, M.η0, hQ, List.prefix_rfl, ?_, ?_⟩⟩
 · have hi : i < k := by simpa [Nat.blt_eq] using hi
   have hget : ∀ j, j < k → η[j]? = M.η0[j]? := fun j hj => by
     obtain ⟨t, ht⟩ := H.pre
     rw [← ht, List.getElem?_append_left (by omega)]
   have hb : Bwd η M.η0 id k := fun j x hj hx => by rw [← hget j hj]; exact hx
   have hsat : HpSat M.η0 w true (.loc i) (.box row') := by
     have := (H.own.1 i _ hO).1
     simp only [HpSat] at this ⊢
     obtain ⟨e, arr, T, fz, h1, h2, h3, h4⟩ := this
     refine ⟨e, arr, T, fz, by simp only [Env.get] at h1 ⊢; rw [← hget i hi]; exact h1, h2, h3, fun j sv hj => ?_⟩
     obtain ⟨c, h5, h6⟩ := hl.get j sv hj
     obtain ⟨u, h7, h8, h9⟩ := h4 j c h5
     refine ⟨u, h7, h8, ?_⟩
     rcases h6 with rfl | ⟨rfl, h6⟩
     · simp only [Den]
     · exact Den.unren hb h6 (by rw [Z1a (σ := id) (fun _ => rfl)]; exact h9)
   refine ⟨List.prefix_rfl, hk, ⟨fun j h hj => ?_, fun a b h h' n ha hb' hab => ?_⟩, H.fr, H.sok⟩
   · rw [Zf] at hj
     split at hj
     · rename_i e; subst e; injection hj with hj; subst hj
       exact ⟨hsat, fun n f => (H.own.1 _ _ hO).2 n ((show feet M.η0 w (.loc _) (.box row) n from f).mono H.pre)⟩
     · simp [lkp] at hj
   · rw [Zf] at ha hb'
     split at ha
     · split at hb'
       · rename_i e1 e2; exact (hab (e1.trans e2.symm)).elim
       · simp [lkp] at hb'
     · simp [lkp] at ha
 · have hb : Bwd η M.η0 (fun i => i) 0 := fun i x hi => by omega
   exact Den.unren hb (Xj 0 hr) (by rw [XD _ hr]; exact hd)
def anyN : Nat → List SV
 | 0 => []
 | n + 1 => .any :: anyN n
theorem Z5P {η η' : Env} : ∀ {cs : List SV} {vs : List Value}, DenL η cs vs → DenL η' (anyN cs.length) vs
 | [], vs, h => by simpa [DenL, anyN] using h
 | c :: cs, vs, h => by
   simp only [DenL, anyN, List.length_cons] at h ⊢
   obtain ⟨u, us, rfl, _, h⟩ := h
   exact ⟨u, us, rfl, by simp only [Den], Z5P h⟩
theorem FIN.anyA (n : Nat) {k : Nat} {r : SV} {cs vs : List SV} {Q : SV → Hps → Nat → Prop} (hk : M.η0.length = k) (hr : r = .tup (.agg cs :: vs)) (hn : VZ cs n = true) (hv : Ys vs = true) (hQ : Q (.tup (.agg (anyN n) :: vs)) [] k) : FIN M O nx r Q := by
 have hn : cs.length = n := by
   clear hr hQ
   induction n generalizing cs with
   | zero => cases cs with
     | nil => rfl
     | cons a l => simp [VZ] at hn
   | succ n ih => cases cs with
     | nil => simp [VZ] at hn
     | cons a l => simp only [VZ] at hn; simp [ih hn]
 refine ⟨fun η w v H hd => ⟨.tup (.agg (anyN n) :: vs), [], k, M.η0, hQ, List.prefix_rfl, ⟨List.prefix_rfl, hk, ⟨fun i h hi => by simp [lkp] at hi, fun i j h h' n hi => by simp [lkp] at hi⟩, H.fr, H.sok⟩, ?_⟩⟩
 rw [hr] at hd
 simp only [Den, DenL] at hd ⊢
 obtain ⟨us, h1, u, us', h2, ⟨xs, h5, h6, h7⟩, h4⟩ := hd
 refine ⟨us, h1, u, us', h2, ⟨xs, h5, by rw [← hn]; exact Z5P h6, h7⟩, ?_⟩
 have hb : Bwd η M.η0 (fun i => i) 0 := fun i x hi => by omega
 exact DenL.unren hb (Zu 0 hv) (by rw [ZB _ hv]; exact h4)
class PlF {α : Type} (f : α → List SV) : Prop where
 h : ∀ x, Ys (f x) = true
class Pl (rs : List (List SV)) : Prop where
 h : Zo rs = true
class PlD (rs : List (List DC)) : Prop where
 h : Xw rs = true
instance {α : Type} {f : α → List SV} [p : PlF f] {l : List α} : Pl (l.map f) := ⟨ZX f p.h l⟩
instance : PlF bytesRow := ⟨fun _ => rfl⟩
theorem Xs {m i : Nat} {h : Hp} {O : Hps} (h1 : Nat.blt i m = true) (h2 : Z3 m h = true) (h3 : Z4 m O = true) : Z4 m ((i, h) :: O) = true := by simp only [Z4, h1, h2, h3, Bool.and_self]
theorem Z1h {k : IntKind} {a b : Int} (h : a = b) : Hp.box [.int k a] = Hp.box [.int k b] := by rw [h]
theorem Z3Z {b : Blk} {r es n n' : Nat} {lim : Option Nat} (h : n = n') : Hp.box [.sl b r es n lim] = Hp.box [.sl b r es n' lim] := by rw [h]
section
variable {m es : Nat} {σ τ : Nat → Nat} {rs : List (List SV)} {ds : List (List DC)} {mp : Bool}
theorem Z40 [p : Pl rs] : Z3 m (.rows es rs) = true := Jo m (h := .rows es rs) p.h
theorem Z41 [p : Pl rs] : Z3 m (.mp rs) = true := Jo m (h := .mp rs) p.h
theorem Z1i [p : PlD ds] : Z3 m (.deep mp es ds) = true := Jo m (h := .deep mp es ds) p.h
theorem renR [p : Pl rs] : renH σ (.rows es rs) = .rows es rs := Y4 σ (h := .rows es rs) p.h
theorem renM [p : Pl rs] : renH σ (.mp rs) = .mp rs := Y4 σ (h := .mp rs) p.h
theorem renDp [p : PlD ds] : renH σ (.deep mp es ds) = .deep mp es ds := Y4 σ (h := .deep mp es ds) p.h
theorem Z7S [p : Pl rs] : renH σ (.rows es rs) = renH τ (.rows es rs) := renR.trans renR.symm
theorem Z7T [p : Pl rs] : renH σ (.mp rs) = renH τ (.mp rs) := renM.trans renM.symm
theorem Z7U [p : PlD ds] : renH σ (.deep mp es ds) = renH τ (.deep mp es ds) := renDp.trans renDp.symm
end
section
variable {M : Mx} {fr fr' : Fr} {O O' : Hps} {nx : Nat}
theorem CALL.aA {f : FuncId} {args argsc : List SV} {K : SV → Hps → Nat → Prop} {k : Nat} {Oc Sc : Hps} {Q : SV → Hps → Nat → Prop} (L : List Nat) (sp : Does M.P M.C.T f k argsc Oc Sc Q)
   (hK : ∀ r O' nx', Q r O' nx' → K (ren (ZL L nx) r) (renO (ZL L nx) O' ++ YI ((Zk Oc).map (ZL L nx)) O) (nx + (nx' - k)))
   (hL : L.length = k := by exact rfl) (hLn : L.all (fun i => Nat.blt i nx) = true := by exact rfl) (ha : args = renL (ZL L nx) argsc := by exact rfl) (hb : ZY k argsc = true := by exact rfl)
   (hbO : Z4 k Oc = true := by (repeat' (first | (refine Xs rfl ?_ ?_) | exact Z40 | exact Z41 | exact Z1i | rfl))) (hbS : Z4 k Sc = true := by (repeat' (first | (refine Xs rfl ?_ ?_) | exact Z40 | exact Z41 | exact Z1i | rfl))) (hO : thereO (ZL L nx) O Oc := by (repeat' (first | exact trivial | (with_reducible rfl) | exact renR.symm | exact Z7S | exact renM.symm | exact Z7T | exact renDp.symm | exact Z7U | (exact Z6 Pl.h (by simp [Zp, List.take_of_length_le] <;> rfl)) | exact rfl | ((conv => whnf); refine ⟨?_, ?_⟩)))) (hS : thereS M.C (ZL L nx) O Sc := by (repeat' (first | exact trivial | (with_reducible rfl) | exact renR.symm | exact Z7S | exact renM.symm | exact Z7T | exact renDp.symm | exact Z7U | (exact Z6 Pl.h (by simp [Zp, List.take_of_length_le] <;> rfl)) | exact rfl | ((conv => whnf); refine ⟨?_, ?_⟩))))
   (hinj : (Zk Oc).all (fun j => (Zk Oc).all fun j' => !(Nat.beq (ZL L nx j) (ZL L nx j')) || Nat.beq j j') = true := by exact rfl)
   (hd : (Zk Sc).all (fun j => !((Zk Oc).any fun j' => Nat.beq (ZL L nx j) (ZL L nx j'))) = true := by exact rfl) : CALL M f args O nx K :=
 CALL.at L sp hL hLn ha hb hbO hbS hO hS hinj hd hK
theorem FIN.aA {k : Nat} {r : SV} {Q : SV → Hps → Nat → Prop} (hk : M.η0.length = k) (τ : List Nat) (rc : SV) (Oc : Hps) (hQ : Q rc Oc (k + τ.length)) (hτ : τ.all (fun i => Nat.blt i nx) = true := by exact rfl) (hr : r = ren (Yd k τ) rc := by exact rfl) (hb : ZN (k + τ.length) rc = true := by exact rfl) (hbO : Z4 (k + τ.length) Oc = true := by (repeat' (first | (refine Xs rfl ?_ ?_) | exact Z40 | exact Z41 | exact Z1i | rfl)))
   (hO : thereO (Yd k τ) O Oc := by (repeat' (first | exact trivial | (with_reducible rfl) | exact renR.symm | exact Z7S | exact renM.symm | exact Z7T | exact renDp.symm | exact Z7U | (exact Z6 Pl.h (by simp [Zp, List.take_of_length_le] <;> rfl)) | exact rfl | ((conv => whnf); refine ⟨?_, ?_⟩)))) (hinj : (Zk Oc).all (fun j => (Zk Oc).all fun j' => !(Nat.beq (Yd k τ j) (Yd k τ j')) || Nat.beq j j') = true := by exact rfl) : FIN M O nx r Q :=
 FIN.at hk τ rc Oc hτ hr hb hbO hO hinj hQ
theorem GOES.cA {k m : Nat} (hk : M.η0.length = k) (hkm : Nat.ble k m = true := by exact rfl) (hmn : Nat.ble m nx = true := by exact rfl) (hbf : V7 m fr' = true := by exact rfl) (hbo : Z4 m O' = true := by (repeat' (first | (refine Xs rfl ?_ ?_) | exact Z40 | exact Z41 | exact Z1i | rfl)))
   (hf : cutK fr fr' := by (repeat' (first | (with_reducible rfl) | exact trivial | (exact Zm rfl (by first | omega | (simp (disch := omega) only [lnB, Z9, Zd] <;> omega) | (simp; done) | (simp <;> omega))) | (exact congrArg (SV.int _) (by first | omega | (simp (disch := omega) only [lnB, Z9, Zd] <;> omega) | (simp; done) | (simp <;> omega))) | (exact Z1h (by first | omega | (simp (disch := omega) only [lnB, Z9, Zd] <;> omega) | (simp; done) | (simp <;> omega))) | (exact Z3Z (by first | omega | (simp (disch := omega) only [lnB, Z9, Zd] <;> omega) | (simp; done) | (simp <;> omega))) | exact renR | exact renM | exact renDp | (with_reducible assumption) | (exact congrArg (Hp.rows _) (by simp [List.take_of_length_le] <;> rfl)) | ((conv => whnf); refine ⟨?_, ?_⟩) | (simp; done) | rfl))) (hO : Z7K O O' := by (repeat' (first | (with_reducible rfl) | exact trivial | (exact Zm rfl (by first | omega | (simp (disch := omega) only [lnB, Z9, Zd] <;> omega) | (simp; done) | (simp <;> omega))) | (exact congrArg (SV.int _) (by first | omega | (simp (disch := omega) only [lnB, Z9, Zd] <;> omega) | (simp; done) | (simp <;> omega))) | (exact Z1h (by first | omega | (simp (disch := omega) only [lnB, Z9, Zd] <;> omega) | (simp; done) | (simp <;> omega))) | (exact Z3Z (by first | omega | (simp (disch := omega) only [lnB, Z9, Zd] <;> omega) | (simp; done) | (simp <;> omega))) | exact renR | exact renM | exact renDp | (with_reducible assumption) | (exact congrArg (Hp.rows _) (by simp [List.take_of_length_le] <;> rfl)) | ((conv => whnf); refine ⟨?_, ?_⟩) | (simp; done) | rfl))) (hd : WC fr fr' = true := by exact rfl) (hro : WD M.C.ro id m = true := by exact rfl) : GOES M fr O nx fr' O' m := GOES.cutting hk hkm hmn hbf hbo hf hO hd hro
theorem GOES.kA {k : Nat} (hk : M.η0.length = k) (τ : List Nat) (hτ : τ.all (fun i => Nat.blt i nx) = true := by exact rfl)
   (hn : (Zk O').all (fun j => (Zk O').all fun j' => !(Nat.beq (Yd k τ j) (Yd k τ j')) || Nat.beq j j') = true := by exact rfl)
   (hbf : V7 (k + τ.length) fr' = true := by exact rfl) (hbo : Z4 (k + τ.length) O' = true := by (repeat' (first | (refine Xs rfl ?_ ?_) | exact Z40 | exact Z41 | exact Z1i | rfl))) (hf : subK (Yd k τ) fr fr' := by (repeat' (first | (with_reducible rfl) | exact trivial | exact renR.symm | exact Z7S | exact renM.symm | exact Z7T | exact renDp.symm | exact Z7U | (exact Zm rfl (by first | omega | (simp (disch := omega) only [lnB, Z9, Zd] <;> omega) | (simp; done) | (simp <;> omega))) | (exact congrArg (SV.int _) (by first | omega | (simp (disch := omega) only [lnB, Z9, Zd] <;> omega) | (simp; done) | (simp <;> omega))) | (exact Z1h (by first | omega | (simp (disch := omega) only [lnB, Z9, Zd] <;> omega) | (simp; done) | (simp <;> omega))) | (exact Z3Z (by first | omega | (simp (disch := omega) only [lnB, Z9, Zd] <;> omega) | (simp; done) | (simp <;> omega))) | (with_reducible assumption) | (exact Z6 Pl.h (by simp [Zp, List.take_of_length_le] <;> rfl)) | ((conv => whnf); refine ⟨?_, ?_⟩) | (simp only [ren, renB]; done) | rfl))) (hO : Z7O (Yd k τ) O O' := by (repeat' (first | (with_reducible rfl) | exact trivial | exact renR.symm | exact Z7S | exact renM.symm | exact Z7T | exact renDp.symm | exact Z7U | (exact Zm rfl (by first | omega | (simp (disch := omega) only [lnB, Z9, Zd] <;> omega) | (simp; done) | (simp <;> omega))) | (exact congrArg (SV.int _) (by first | omega | (simp (disch := omega) only [lnB, Z9, Zd] <;> omega) | (simp; done) | (simp <;> omega))) | (exact Z1h (by first | omega | (simp (disch := omega) only [lnB, Z9, Zd] <;> omega) | (simp; done) | (simp <;> omega))) | (exact Z3Z (by first | omega | (simp (disch := omega) only [lnB, Z9, Zd] <;> omega) | (simp; done) | (simp <;> omega))) | (with_reducible assumption) | (exact Z6 Pl.h (by simp [Zp, List.take_of_length_le] <;> rfl)) | ((conv => whnf); refine ⟨?_, ?_⟩) | (simp only [ren, renB]; done) | rfl))) (hd : WC fr fr' = true := by exact rfl) (hro : WD M.C.ro (Yd k τ) (k + τ.length) = true := by exact rfl) : GOES M fr O nx fr' O' (k + τ.length) :=
 GOES.keeping hk τ hτ hn hbf hbo hf hO hd hro
end
theorem AU {P Q : Prop} (k : Q) (h : Q → P := by first | (with_reducible exact IF.tt) | (with_reducible exact IF.ff) | exact NEED.au | (with_reducible exact GET.at rfl) | (with_reducible exact GETG.at rfl)) : P := h k
theorem IW {J : Type} {b : Bool} {A B : J → Prop} {j : J} {p q : Prop} (x : p → A j) (y : q → B j)
   (hp : b = true → p := by (intro h; first | (simp (disch := omega) only [hsB, hsC, lnB, Z9, Zd, simprocAttr] at h; exact h) | (exact (show (0 : Nat) = 1 by simp (disch := omega) only [hsB, hsC, lnB, Z9, Zd, simprocAttr] at h)) | exact h))
   (hq : b = false → q := by (intro h; first | (simp (disch := omega) only [hsB, hsC, lnB, Z9, Zd, simprocAttr] at h; exact h) | (exact (show (0 : Nat) = 1 by simp (disch := omega) only [hsB, hsC, lnB, Z9, Zd, simprocAttr] at h)) | exact h)) : IF b A B j := ⟨fun h => x (hp h), fun h => y (hq h)⟩
theorem Zau {b : Blk} {r es len : Nat} {lim : Option Nat} (h : 0 < len) : Det (.sl b r es len lim) := by
 intro η u u' h1 h2
 simp only [Den] at h1 h2
 rcases h1 with ⟨_, _, h0⟩ | ⟨e, o, g1, rfl, g3, g4, g5⟩
 · omega
 rcases h2 with ⟨_, _, h0⟩ | ⟨e', o', k1, rfl, k3, k4, k5⟩
 · omega
 rw [g1] at k1
 injection k1 with k1
 injection k1 with k1
 subst k1
 rw [g5 (.inl (by omega)), k5 (.inl (by omega))]
theorem AD {P Q : Prop} (k : Q) (h : Q → P := by first | exact fun k => NEED.mk (Det.of rfl) k | exact fun k => NEED.mk (Zau (by omega)) k) : P := h k
end Go.Sx
namespace Go.Our
open Go.Sx
structure Tri {α : Type} (c : α → α → Int) : Prop where
 rng : ∀ a b, c a b = -1 ∨ c a b = 0 ∨ c a b = 1
 anti : ∀ a b, c b a = - c a b
 zero : ∀ a b, c a b = 0 ↔ a = b
 trans : ∀ a b d, c a b ≤ 0 → c b d ≤ 0 → c a d ≤ 0
def cmpI (a b : Int) : Int := if a < b then -1 else if a > b then 1 else 0
theorem triI : Tri cmpI where
 rng a b := by unfold cmpI; (repeat' split) <;> omega
 anti a b := by unfold cmpI; (repeat' split) <;> omega
 zero a b := by unfold cmpI; (repeat' split) <;> omega
 trans a b d := by unfold cmpI; (repeat' split) <;> omega
open Lib (compareBytes)
theorem Z9S : ∀ a b, compareBytes a b = -1 ∨ compareBytes a b = 0 ∨ compareBytes a b = 1
 | [], [] => by simp [compareBytes]
 | [], _ :: _ => by simp [compareBytes]
 | _ :: _, [] => by simp [compareBytes]
 | a :: as_, b :: bs => by
   unfold compareBytes
   split
   · simp
   · split
     · simp
     · exact Z9S as_ bs
theorem Z7V : ∀ a b, compareBytes b a = - compareBytes a b
 | [], [] => by simp [compareBytes]
 | [], _ :: _ => by simp [compareBytes]
 | _ :: _, [] => by simp [compareBytes]
 | a :: as_, b :: bs => by
   unfold compareBytes
   simp only [UInt8.lt_iff_toNat_lt]
   by_cases h : a.toNat < b.toNat
   · have : ¬ b.toNat < a.toNat := by omega
     simp [h, this]
   · by_cases h' : b.toNat < a.toNat
     · simp [h, h']
     · simp only [h, h', if_false]; exact Z7V as_ bs
theorem Z7W : ∀ a b, compareBytes a b = 0 ↔ a = b
 | [], [] => by simp [compareBytes]
 | [], _ :: _ => by simp [compareBytes]
 | _ :: _, [] => by simp [compareBytes]
 | a :: as_, b :: bs => by
   unfold compareBytes
   simp only [UInt8.lt_iff_toNat_lt, List.cons.injEq, ← UInt8.toNat_inj]
   by_cases h : a.toNat < b.toNat
   · simp [h]; omega
   · by_cases h' : b.toNat < a.toNat
     · simp [h, h']; omega
     · have : a.toNat = b.toNat := by omega
       simp only [this, Nat.lt_irrefl, if_false, true_and]; exact Z7W as_ bs
theorem Z5Q : ∀ a b c, compareBytes a b ≤ 0 → compareBytes b c ≤ 0 → compareBytes a c ≤ 0
 | [], _, [] => by simp [compareBytes]
 | [], _, _ :: _ => by simp [compareBytes]
 | _ :: _, [], _ => by simp [compareBytes]
 | _ :: _, _ :: _, [] => by simp [compareBytes]
 | a :: as_, b :: bs, c :: cs => by
   unfold compareBytes
   simp only [UInt8.lt_iff_toNat_lt]
   have ih := Z5Q as_ bs cs
   (repeat' split) <;> first | omega | (intro x y; first | exact ih x y | omega)
def cmpL (a b : List UInt8) : Int := compareBytes a b
theorem triL : Tri cmpL where
 rng a b := Z9S _ _
 anti a b := Z7V _ _
 zero a b := Z7W _ _
 trans a b d := Z5Q _ _ _
def Xa {β γ : Type} (c : β → β → Int) (d : γ → γ → Int) (a b : β × γ) : Int := if c a.1 b.1 ≠ 0 then c a.1 b.1 else d a.2 b.2
theorem Z30 {β γ : Type} {c : β → β → Int} {d : γ → γ → Int} (hc : Tri c) (hd : Tri d) : Tri (Xa c d) where
 rng a b := by unfold Xa; split <;> first | exact hc.rng _ _ | exact hd.rng _ _
 anti a b := by
   unfold Xa
   rw [hc.anti a.1 b.1, hd.anti a.2 b.2]
   by_cases h : c a.1 b.1 = 0
   · simp [h]
   · have : ¬ - c a.1 b.1 = 0 := by omega
     simp [h, this]
 zero a b := by
   unfold Xa
   by_cases h : c a.1 b.1 = 0
   · simp only [h, ne_eq, not_true_eq_false, if_false]
     rw [hd.zero]
     have hf := (hc.zero _ _).1 h
     exact ⟨fun hg => Prod.ext hf hg, fun e => by rw [e]⟩
   · simp only [ne_eq, h, not_false_eq_true, if_true, false_iff]
     intro e; subst e
     exact h ((hc.zero _ _).2 rfl)
 trans a b e := by
   unfold Xa
   intro h1 h2
   have r1 := hc.rng a.1 b.1; have r2 := hc.rng b.1 e.1
   have t1 := hc.trans a.1 b.1 e.1
   by_cases x : c a.1 b.1 = 0
   · have ex := (hc.zero _ _).1 x
     simp only [x, ne_eq, not_true_eq_false, if_false] at h1
     rw [ex]
     by_cases y : c b.1 e.1 = 0
     · simp only [y, ne_eq, not_true_eq_false, if_false] at h2 ⊢
       exact hd.trans _ _ _ h1 h2
     · simp only [ne_eq, y, not_false_eq_true, if_true] at h2 ⊢
       exact h2
   · simp only [ne_eq, x, not_false_eq_true, if_true] at h1
     by_cases y : c b.1 e.1 = 0
     · have ey := (hc.zero _ _).1 y
       rw [← ey]
       simp only [ne_eq, x, not_false_eq_true, if_true]; exact h1
     · simp only [ne_eq, y, not_false_eq_true, if_true] at h2
       have hle := t1 h1 h2
       have hne : c a.1 e.1 ≠ 0 := by
         intro hz
         have e1 := (hc.zero _ _).1 hz
         rw [← e1] at h2 y
         have := hc.anti a.1 b.1
         omega
       simp only [ne_eq, hne, not_false_eq_true, if_true]; exact hle
theorem Zav {α β : Type} {c : β → β → Int} (hc : Tri c) (f : α → β) (hf : ∀ a b, f a = f b → a = b) : Tri (fun a b => c (f a) (f b)) where
 rng a b := hc.rng _ _
 anti a b := hc.anti _ _
 zero a b := by rw [hc.zero]; exact ⟨hf a b, fun e => by rw [e]⟩
 trans a b d := hc.trans _ _ _
theorem Vt : ∀ a b : List UInt8, Op.bytesLess a b = decide (Lib.compareBytes a b < 0)
 | [], [] => by simp [Op.bytesLess, Lib.compareBytes]
 | [], _ :: _ => by simp [Op.bytesLess, Lib.compareBytes]
 | _ :: _, [] => by simp [Op.bytesLess, Lib.compareBytes]
 | a :: as_, b :: bs => by
   unfold Op.bytesLess Lib.compareBytes
   rw [Vt as_ bs]
   simp only [UInt8.lt_iff_toNat_lt]
   have hbeq : (a == b) = decide (a.toNat = b.toNat) := by
     rw [Bool.eq_iff_iff]; simp [UInt8.toNat_inj]
   rw [hbeq]
   by_cases h : a.toNat < b.toNat
   · simp [h]
   · by_cases h' : b.toNat < a.toNat
     · have : ¬ a.toNat = b.toNat := by omega
       simp [h, h', this]
     · have : a.toNat = b.toNat := by omega
       simp [this]
theorem Z42 (a b : List UInt8) : Z6e a b = decide (cmpL a b < 0) := Vt a b
def Tm.key (x : Tm) : Int × List UInt8 × List UInt8 × List UInt8 := (x.k, x.t, x.y, x.l)
def Yb (a b : Tm) : Int := Xa cmpI (Xa cmpL (Xa cmpL cmpL)) a.key b.key
theorem triT : Tri Yb := Zav (Z30 triI (Z30 triL (Z30 triL triL))) Tm.key (fun a b h => by
 cases a; cases b; simp [Tm.key] at h; simp [h])
def Qd.key (q : Qd) : Tm × Tm × Tm × Tm := (q.g, q.s, q.p, q.o)
def Z4X (a b : Qd) : Int := Xa Yb (Xa Yb (Xa Yb Yb)) a.key b.key
def orI : List Int → Int
 | [] => 0
 | x :: l => if x ≠ 0 then x else orI l
theorem Z9T (a b : Tm) : orI [cmpI a.k b.k, cmpL a.t b.t, cmpL a.y b.y, cmpL a.l b.l] = Yb a b := by
 simp only [orI, Yb, Xa, Tm.key]
 (repeat' split) <;> simp_all
theorem Z9U (a b : Qd) : orI [Yb a.g b.g, Yb a.s b.s, Yb a.p b.p, Yb a.o b.o] = Z4X a b := by
 simp only [orI, Z4X, Xa, Qd.key]
 (repeat' split) <;> simp_all
abbrev Qd.row (q : Qd) : List SV := [.int .i64 q.s.k, .str q.s.t, .str q.s.y, .str q.s.l, .int .i64 q.p.k, .str q.p.t, .str q.p.y, .str q.p.l, .int .i64 q.o.k, .str q.o.t, .str q.o.y, .str q.o.l, .int .i64 q.g.k, .str q.g.t, .str q.g.y, .str q.g.l]
def ZA (q : Qd) : List SV := q.row
def Zw (x : Tm) : List SV := [.int .i64 x.k, .str x.t, .str x.y, .str x.l]
theorem Zc (l : List Tm) : Zo (l.map Zw) = true := ZX _ (fun _ => rfl) l
instance : PlF Zw := ⟨fun _ => rfl⟩
theorem Tm.ext' {a b : Tm} (h : Zw a = Zw b) : a = b := by
 obtain ⟨_, _, _, _⟩ := a
 obtain ⟨_, _, _, _⟩ := b
 simp only [Zw, List.cons.injEq, SV.int.injEq, SV.str.injEq, true_and, and_true] at h
 simp_all
def Z2o : Qd := ⟨ZW, ZW, ZW, ZW⟩
theorem Z5R (l : List Qd) : Zo (l.map ZA) = true := ZX _ (fun _ => rfl) l
instance : PlF ZA := ⟨fun _ => rfl⟩
theorem Z7X {α : Type} (f : α → List SV) (l z : List α) : (((l ++ z).map f).drop 0).take l.length = l.map f := by
 rw [List.drop_zero, List.map_append, List.take_append_of_le_length (by simp), List.take_of_length_le (by simp)]
theorem Z9e {α : Type} (f : α → List SV) (l : List α) (i : Nat) (x : α) : (l.map f).set i (f x) = (l.set i x).map f := by rw [List.map_set]
theorem Z7Y {α : Type} {f : α → List SV} {l : List α} {i j : Nat} (h : i < l.length) (hj : j = i) : (l.map f)[j]? = some (f l[i]) := by
 subst hj
 rw [List.getElem?_map, List.getElem?_eq_getElem h]; rfl
theorem Qd.ext' {a b : Qd} (h : ZA a = ZA b) : a = b := by
 obtain ⟨⟨_, _, _, _⟩, ⟨_, _, _, _⟩, ⟨_, _, _, _⟩, ⟨_, _, _, _⟩⟩ := a
 obtain ⟨⟨_, _, _, _⟩, ⟨_, _, _, _⟩, ⟨_, _, _, _⟩, ⟨_, _, _, _⟩⟩ := b
 simp only [ZA, Qd.row, List.cons.injEq, SV.int.injEq, SV.str.injEq, true_and, and_true] at h
 simp_all
end Go.Our
set_option linter.unusedSectionVars false
namespace Go.Our
section
variable {α : Type} {c : α → α → Int}
theorem Tri.lt_trans (h : Tri c) {x y z : α} (h1 : c x y < 0) (h2 : c y z ≤ 0) : c x z < 0 := by
 have h3 := h.trans x y z (by omega) h2
 rcases Int.lt_or_eq_of_le h3 with h4 | h4
 · exact h4
 · have e := (h.zero x z).1 h4
   subst e
   have := h.anti x y
   omega
theorem Tri.self (h : Tri c) (x : α) : c x x = 0 := (h.zero x x).2 rfl
theorem Tri.ne (h : Tri c) {x y : α} (hl : c x y < 0) : x ≠ y := fun e => by subst e; have := h.self x; omega
theorem Tri.gt (h : Tri c) {x y : α} (hl : ¬ c x y ≤ 0) : c y x < 0 := by have := h.anti x y; omega
def Rise (c : α → α → Int) (l : List α) : Prop := l.Pairwise fun a b => c a b < 0
theorem Z5S (h : Tri c) : ∀ {l m : List α}, Rise c l → Rise c m → (∀ x, x ∈ l ↔ x ∈ m) → l = m
 | [], [], _, _, _ => rfl
 | [], y :: m, _, _, he => by have := (he y).2 (by simp); simp at this
 | x :: l, [], _, _, he => by have := (he x).1 (by simp); simp at this
 | x :: l, y :: m, hl, hm, he => by
   have hl := List.pairwise_cons.1 hl
   have hm := List.pairwise_cons.1 hm
   have hxy : x = y := by
     rcases List.mem_cons.1 ((he x).1 (by simp)) with e | hx
     · exact e
     · rcases List.mem_cons.1 ((he y).2 (by simp)) with e | hy
       · exact e.symm
       · have h1 := hm.1 x hx
         have h2 := hl.1 y hy
         have := h.anti x y
         omega
   subst hxy
   congr 1
   refine Z5S h hl.2 hm.2 fun z => ⟨fun hz => ?_, fun hz => ?_⟩
   · rcases List.mem_cons.1 ((he z).1 (by simp [hz])) with e | h1
     · subst e; exact (h.ne (hl.1 _ hz) rfl).elim
     · exact h1
   · rcases List.mem_cons.1 ((he z).2 (by simp [hz])) with e | h1
     · subst e; exact (h.ne (hm.1 _ hz) rfl).elim
     · exact h1
end
section
variable {α : Type} [DecidableEq α] {c : α → α → Int}
def Zg : List α → List α
 | [] => []
 | [a] => [a]
 | a :: b :: l => if a = b then Zg (b :: l) else a :: Zg (b :: l)
theorem Uq : ∀ (l : List α) (x : α), x ∈ Zg l ↔ x ∈ l
 | [], x => by simp [Zg]
 | [a], x => by simp [Zg]
 | a :: b :: l, x => by
   have ih := Uq (b :: l) x
   unfold Zg
   split
   · rename_i e; subst e; rw [ih]; simp
   · rw [List.mem_cons, ih]; simp [List.mem_cons]
def leC (c : α → α → Int) (x y : α) : Bool := !(decide (c y x < 0))
theorem Z31 (h : Tri c) {x y : α} : leC c x y = true ↔ c x y ≤ 0 := by
 have := h.anti x y
 unfold leC
 simp only [Bool.not_eq_true', decide_eq_false_iff_not]
 omega
theorem WK (h : Tri c) : ∀ (l : List α), l.Pairwise (fun a b => c a b ≤ 0) → Rise c (Zg l)
 | [], _ => List.Pairwise.nil
 | [a], _ => by simp [Zg, Rise]
 | a :: b :: l, hp => by
   have hp' := List.pairwise_cons.1 hp
   have ih := WK h (b :: l) hp'.2
   unfold Zg
   split
   · exact ih
   · rename_i hne
     refine List.pairwise_cons.2 ⟨fun x hx => ?_, ih⟩
     rw [Uq] at hx
     have hab : c a b < 0 := by
       have h1 := hp'.1 b (by simp)
       have h2 : c a b ≠ 0 := fun e => hne ((h.zero a b).1 e)
       omega
     rcases List.mem_cons.1 hx with rfl | hx
     · exact hab
     · exact h.lt_trans hab ((List.pairwise_cons.1 hp'.2).1 x hx)
def setL (c : α → α → Int) (l : List α) : List α := Zg (l.mergeSort (leC c))
theorem Z1j (l : List α) (x : α) : x ∈ setL c l ↔ x ∈ l := by
 unfold setL
 rw [Uq]
 exact List.mem_mergeSort
theorem VQ (h : Tri c) (l : List α) : Rise c (setL c l) := by
 refine WK h _ ?_
 have := List.pairwise_mergeSort (le := leC c) (fun a b d h1 h2 => by rw [Z31 h] at *; exact h.trans a b d h1 h2) (fun a b => by
   have := h.anti a b
   rw [Bool.or_eq_true, Z31 h, Z31 h]; omega) l
 exact this.imp fun h1 => (Z31 h).1 h1
theorem Z9V (h : Tri c) {l m : List α} (hm : Rise c m) (he : ∀ x, x ∈ m ↔ x ∈ l) : m = setL c l := Z5S h hm (VQ h l) fun x => (he x).trans (Z1j l x).symm
theorem Ur : ∀ (l : List α), (Zg l).length ≤ l.length
 | [] => by simp [Zg]
 | [a] => by simp [Zg]
 | a :: b :: l => by
   have ih := Ur (b :: l)
   unfold Zg
   split
   · simp only [List.length_cons] at ih ⊢; omega
   · simp only [List.length_cons] at ih ⊢; omega
theorem Us (l : List α) : (setL c l).length ≤ l.length := by
 have := Ur (l.mergeSort (leC c))
 rw [List.length_mergeSort] at this
 exact this
def Vu (c : α → α → Int) (out : List α) (q : α) : List α := match out.getLast? with
 | none => [q]
 | some z => if c z q < 0 then out ++ [q] else out
def XO (c : α → α → Int) (out : List α) : List α → List α → List α
 | [], [] => out
 | x :: a, [] => XO c (Vu c out x) a []
 | [], y :: b => XO c (Vu c out y) [] b
 | x :: a, y :: b => if c x y ≤ 0 then XO c (Vu c out x) a (y :: b) else XO c (Vu c out y) (x :: a) b
termination_by a b => a.length + b.length
theorem XF (h : Tri c) {out : List α} {q : α} (ho : Rise c out) (hq : ∀ x ∈ out, c x q ≤ 0) : Rise c (Vu c out q) ∧ ∀ x, x ∈ Vu c out q ↔ x ∈ out ∨ x = q := by
 unfold Vu
 cases hg : out.getLast? with
 | none =>
   have : out = [] := List.getLast?_eq_none_iff.1 hg
   subst this
   exact ⟨by simp [Rise], by simp⟩
 | some z =>
   obtain ⟨pre, rfl⟩ := List.getLast?_eq_some_iff.1 hg
   simp only
   have ho' := List.pairwise_append.1 ho
   split
   · rename_i hz
     refine ⟨List.pairwise_append.2 ⟨ho, List.pairwise_singleton .., fun x hx y hy => ?_⟩, fun x => by simp only [List.mem_append, List.mem_singleton]⟩
     have hy := List.mem_singleton.1 hy
     subst hy
     rcases List.mem_append.1 hx with hx | hx
     · exact h.lt_trans (ho'.2.2 x hx z (by simp)) (by omega)
     · have := List.mem_singleton.1 hx; subst this; exact hz
   · rename_i hz
     have he : z = q := (h.zero z q).1 (by have := hq z (by simp); omega)
     subst he
     exact ⟨ho, fun x => by simp only [List.mem_append, List.mem_singleton]; grind⟩
theorem J5 (h : Tri c) : ∀ (n : Nat) (out a b : List α), a.length + b.length = n → Rise c out → Rise c a → Rise c b → (∀ x ∈ out, ∀ y, y ∈ a ∨ y ∈ b → c x y ≤ 0) → Rise c (XO c out a b) ∧ ∀ x, x ∈ XO c out a b ↔ x ∈ out ∨ x ∈ a ∨ x ∈ b
 | n, out, [], [], hn, ho, ha, hb, hh => by unfold XO; exact ⟨ho, by simp⟩
 | 0, out, x :: a, b, hn, _, _, _, _ => by simp at hn
 | 0, out, [], y :: b, hn, _, _, _, _ => by simp at hn
 | n + 1, out, x :: a, [], hn, ho, ha, hb, hh => by
   have ha' := List.pairwise_cons.1 ha
   obtain ⟨h1, h2⟩ := XF h ho (q := x) fun z hz => hh z hz x (by simp)
   obtain ⟨h3, h4⟩ := J5 h n (Vu c out x) a [] (by simp at hn ⊢; omega) h1 ha'.2 hb (fun z hz y hy => by
     rcases (h2 z).1 hz with hz | rfl
     · exact hh z hz y (by simpa using Or.inr (by simpa using hy))
     · have : y ∈ a := by simpa using hy
       have := ha'.1 y this; omega)
   unfold XO
   refine ⟨h3, fun z => ?_⟩
   rw [h4, h2]
   simp only [List.mem_cons, List.not_mem_nil, or_false]
   grind
 | n + 1, out, [], y :: b, hn, ho, ha, hb, hh => by
   have hb' := List.pairwise_cons.1 hb
   obtain ⟨h1, h2⟩ := XF h ho (q := y) fun z hz => hh z hz y (by simp)
   obtain ⟨h3, h4⟩ := J5 h n (Vu c out y) [] b (by simp at hn ⊢; omega) h1 ha hb'.2 (fun z hz w hw => by
     have hw : w ∈ b := by simpa using hw
     rcases (h2 z).1 hz with hz | rfl
     · exact hh z hz w (by simp [hw])
     · have := hb'.1 w hw; omega)
   unfold XO
   refine ⟨h3, fun z => ?_⟩
   rw [h4, h2]
   simp only [List.mem_cons, List.not_mem_nil, false_or]
   grind
 | n + 1, out, x :: a, y :: b, hn, ho, ha, hb, hh => by
   have ha' := List.pairwise_cons.1 ha
   have hb' := List.pairwise_cons.1 hb
   unfold XO
   split
   · rename_i hxy
     obtain ⟨h1, h2⟩ := XF h ho (q := x) fun z hz => hh z hz x (by simp)
     obtain ⟨h3, h4⟩ := J5 h n (Vu c out x) a (y :: b) (by simp at hn ⊢; omega) h1 ha'.2 hb (fun z hz w hw => by
       rcases (h2 z).1 hz with hz | rfl
       · exact hh z hz w (by rcases hw with hw | hw <;> simp [hw] <;> simp at hw <;> simp [hw])
       · rcases hw with hw | hw
         · have := ha'.1 w hw; omega
         · rcases List.mem_cons.1 hw with rfl | hw
           · exact hxy
           · exact h.trans _ _ _ hxy (by have := hb'.1 w hw; omega))
     refine ⟨h3, fun z => ?_⟩
     rw [h4, h2]
     simp only [List.mem_cons]
     grind
   · rename_i hxy
     have hyx := h.gt hxy
     obtain ⟨h1, h2⟩ := XF h ho (q := y) fun z hz => hh z hz y (by simp)
     obtain ⟨h3, h4⟩ := J5 h n (Vu c out y) (x :: a) b (by simp at hn ⊢; omega) h1 ha hb'.2 (fun z hz w hw => by
       rcases (h2 z).1 hz with hz | rfl
       · exact hh z hz w (by rcases hw with hw | hw <;> simp [hw] <;> simp at hw <;> simp [hw])
       · rcases hw with hw | hw
         · rcases List.mem_cons.1 hw with rfl | hw
           · omega
           · exact h.trans _ x _ (by omega) (by have := ha'.1 w hw; omega)
         · have := hb'.1 w hw; omega)
     refine ⟨h3, fun z => ?_⟩
     rw [h4, h2]
     simp only [List.mem_cons]
     grind
end
end Go.Our
namespace Go.Our
section
variable {α : Type} {c : α → α → Int}
theorem Z5T : Rise c ([] : List α) := List.Pairwise.nil
def wanted (f b s p q : Prop) : Prop := (f ∧ p ∧ ¬ q) ∨ (b ∧ p ∧ q) ∨ (s ∧ ¬ p ∧ q)
end
section
variable {α : Type} [DecidableEq α] {c : α → α → Int}
theorem Z6w (h : Tri c) {xs ys l : List α} (hx : Rise c xs) (hy : Rise c ys) (hl : ∀ z, z ∈ l ↔ z ∈ xs ∨ z ∈ ys) : XO c [] xs ys = setL c l := by
 obtain ⟨h1, h2⟩ := J5 h _ [] xs ys rfl Z5T hx hy (by simp)
 exact Z9V h h1 fun z => by rw [h2, hl]; simp
theorem Vv : ∀ {l : List α} {i : Nat} (h0 : 1 ≤ i) (h : i < l.length), Zg (l.take (i + 1)) = if l[i] = l[i - 1]'(by omega) then Zg (l.take i) else Zg (l.take i) ++ [l[i]]
 | [], i, _, h => by simp at h
 | [a], i, h0, h => by simp at h; omega
 | a :: b :: l, 0, h0, h => by omega
 | a :: b :: l, 1, h0, h => by
   simp only [List.take_succ_cons, List.take_zero, Zg, List.getElem_cons_succ, List.getElem_cons_zero, Nat.sub_self]
   by_cases e : a = b
   · subst e; simp
   · rw [if_neg e, if_neg (fun h => e h.symm)]; rfl
 | a :: b :: l, i + 2, h0, h => by
   have hi : i + 1 < (b :: l).length := by simpa using h
   have ih := Vv (l := b :: l) (i := i + 1) (by omega) hi
   have e2 : (a :: b :: l)[i + 2 - 1]'(by simp at h ⊢; omega) = (b :: l)[i + 1 - 1]'(by simp at h ⊢; omega) := rfl
   have e3 : (a :: b :: l)[i + 2] = (b :: l)[i + 1] := rfl
   rw [e2, e3]
   simp only [List.take_succ_cons, Zg] at ih ⊢
   by_cases e : a = b
   · simp only [if_pos e]; exact ih
   · simp only [if_neg e, ih]
     split <;> simp
theorem Z1k {l : List α} (h : l.length < 2) : Zg l = l := by
 match l, h with
 | [], _ => rfl
 | [a], _ => rfl
theorem Z4Y {l : List α} : Zg (l.take 1) = l.take 1 := Z1k (by simp; omega)
end
section
variable {α : Type} [DecidableEq α] {c : α → α → Int}
def Z00 (out : List α) (q : α) : List α := match out.getLast? with
 | none => [q]
 | some z => if z ≠ q then out ++ [q] else out
def Y2 (c : α → α → Int) (out : List α) : List α → List α → List α
 | [], [] => out
 | x :: a, [] => Y2 c (Z00 out x) a []
 | [], y :: b => Y2 c (Z00 out y) [] b
 | x :: a, y :: b => if c x y ≤ 0 then Y2 c (Z00 out x) a (y :: b) else Y2 c (Z00 out y) (x :: a) b
termination_by a b => a.length + b.length
theorem Z0e (h : Tri c) {out : List α} {q : α} (hq : ∀ x ∈ out, c x q ≤ 0) : Z00 out q = Vu c out q := by
 unfold Z00 Vu
 cases hg : out.getLast? with
 | none => rfl
 | some z =>
   have hz : z ∈ out := List.mem_of_getLast? hg
   have := hq z hz
   simp only
   by_cases e : z = q
   · subst e
     have := h.self z
     rw [if_neg (by simp), if_neg (by omega)]
   · have : c z q ≠ 0 := fun e2 => e ((h.zero z q).1 e2)
     rw [if_pos e, if_pos (by omega)]
theorem Vw (h : Tri c) : ∀ (n : Nat) (out a b : List α), a.length + b.length = n → Rise c out → Rise c a → Rise c b → (∀ x ∈ out, ∀ y, y ∈ a ∨ y ∈ b → c x y ≤ 0) → Y2 c out a b = XO c out a b
 | n, out, [], [], hn, ho, ha, hb, hh => by unfold Y2 XO; rfl
 | 0, out, x :: a, b, hn, _, _, _, _ => by simp at hn
 | 0, out, [], y :: b, hn, _, _, _, _ => by simp at hn
 | n + 1, out, x :: a, [], hn, ho, ha, hb, hh => by
   have ha' := List.pairwise_cons.1 ha
   obtain ⟨h1, h2⟩ := XF h ho (q := x) fun z hz => hh z hz x (by simp)
   unfold Y2 XO
   rw [Z0e h fun z hz => hh z hz x (by simp)]
   exact Vw h n (Vu c out x) a [] (by simp at hn ⊢; omega) h1 ha'.2 hb (fun z hz y hy => by
     rcases (h2 z).1 hz with hz | rfl
     · exact hh z hz y (by simpa using Or.inr (by simpa using hy))
     · have : y ∈ a := by simpa using hy
       have := ha'.1 y this; omega)
 | n + 1, out, [], y :: b, hn, ho, ha, hb, hh => by
   have hb' := List.pairwise_cons.1 hb
   obtain ⟨h1, h2⟩ := XF h ho (q := y) fun z hz => hh z hz y (by simp)
   unfold Y2 XO
   rw [Z0e h fun z hz => hh z hz y (by simp)]
   exact Vw h n (Vu c out y) [] b (by simp at hn ⊢; omega) h1 ha hb'.2 (fun z hz w hw => by
     have hw : w ∈ b := by simpa using hw
     rcases (h2 z).1 hz with hz | rfl
     · exact hh z hz w (by simp [hw])
     · have := hb'.1 w hw; omega)
 | n + 1, out, x :: a, y :: b, hn, ho, ha, hb, hh => by
   have ha' := List.pairwise_cons.1 ha
   have hb' := List.pairwise_cons.1 hb
   unfold Y2 XO
   split
   · rename_i hxy
     obtain ⟨h1, h2⟩ := XF h ho (q := x) fun z hz => hh z hz x (by simp)
     rw [Z0e h fun z hz => hh z hz x (by simp)]
     exact Vw h n (Vu c out x) a (y :: b) (by simp at hn ⊢; omega) h1 ha'.2 hb (fun z hz w hw => by
       rcases (h2 z).1 hz with hz | rfl
       · exact hh z hz w (by rcases hw with hw | hw <;> simp [hw] <;> simp at hw <;> simp [hw])
       · rcases hw with hw | hw
         · have := ha'.1 w hw; omega
         · rcases List.mem_cons.1 hw with rfl | hw
           · exact hxy
           · exact h.trans _ _ _ hxy (by have := hb'.1 w hw; omega))
   · rename_i hxy
     have hyx := h.gt hxy
     obtain ⟨h1, h2⟩ := XF h ho (q := y) fun z hz => hh z hz y (by simp)
     rw [Z0e h fun z hz => hh z hz y (by simp)]
     exact Vw h n (Vu c out y) (x :: a) b (by simp at hn ⊢; omega) h1 ha hb'.2 (fun z hz w hw => by
       rcases (h2 z).1 hz with hz | rfl
       · exact hh z hz w (by rcases hw with hw | hw <;> simp [hw] <;> simp at hw <;> simp [hw])
       · rcases hw with hw | hw
         · rcases List.mem_cons.1 hw with rfl | hw
           · omega
           · exact h.trans _ x _ (by omega) (by have := ha'.1 w hw; omega)
         · have := hb'.1 w hw; omega)
def U0 (c : α → α → Int) (l : List α) : List α := if l.length < 2 then l else Y2 c [] (U0 c (l.take (l.length / 2))) (U0 c (l.drop (l.length / 2)))
termination_by l.length
decreasing_by
 · simp only [List.length_take]; omega
 · simp only [List.length_drop]; omega
theorem UQ (h : Tri c) : ∀ (n : Nat) (l : List α), l.length ≤ n → U0 c l = setL c l
 | 0, l, hn => by
   have : l = [] := List.length_eq_zero_iff.1 (by omega)
   subst this
   unfold U0
   simp [setL, Zg]
 | n + 1, l, hn => by
   unfold U0
   split
   · match l with
     | [] => simp [setL, Zg]
     | [x] => simp [setL, Zg]
     | x :: y :: l => simp at *; omega
   · rw [UQ h n _ (by simp; omega), UQ h n _ (by simp; omega), Vw h _ _ _ _ rfl Z5T (VQ h _) (VQ h _) (by simp)]
     refine Z6w h (VQ h _) (VQ h _) fun z => ?_
     rw [Z1j, Z1j, ← List.mem_append, List.take_append_drop]
theorem Zaw {β : Type} [DecidableEq β] {d : β → β → Int} (h : Tri c) (h' : Tri d) (f : α → β) (hf : ∀ x y, d (f x) (f y) = c x y) (l : List α) : (setL c l).map f = setL d (l.map f) := by
 refine Z9V h' ?_ fun y => ?_
 · have := VQ h l
   unfold Rise at this ⊢
   rw [List.pairwise_map]
   exact this.imp fun {a b} hab => by rw [hf]; exact hab
 · simp only [List.mem_map, Z1j]
end
def YN (t : Tm) : List (List UInt8) := if t.k = 2 then [t.t] else []
def Yp (q : Qd) : List (List UInt8) := YN q.s ++ YN q.p ++ YN q.o ++ YN q.g
def ZF (l : List Qd) : List (List UInt8) := l.flatMap Yp
def ZZ (s : List UInt8) : Tm := ⟨2, s, [], []⟩
theorem Z7Z (x y : List UInt8) : Yb (ZZ x) (ZZ y) = cmpL x y := by
 have h1 : cmpI 2 2 = 0 := by decide
 have h2 : cmpL ([] : List UInt8) [] = 0 := triL.self []
 simp only [Yb, ZZ, Tm.key, Xa, h1, h2]
 split <;> simp_all
theorem Z6x (l : List (List UInt8)) : (setL Yb (l.map ZZ)).map Tm.t = setL cmpL l := by
 rw [← Zaw triL triT ZZ Z7Z, List.map_map]
 conv => rhs; rw [← List.map_id (setL cmpL l)]
 rfl
abbrev Pr := List UInt8 × List UInt8
end Go.Our
namespace Go.Our
open Go.Sx
structure KeyK (α : Type) [DecidableEq α] where
 ks : Bool × List CK
 enc : α → SV
 is : ∀ a b, WT ks (enc a) (enc b) = decide (a = b)
 ok : ∀ a, Ji ks (enc a) = true
 pl : ∀ a, plain (enc a) = true
section
variable {α β : Type} [DecidableEq α] (K : KeyK α)
def Z01 (f : β → SV) (l : List (α × β)) : List (List SV) := l.map fun p => [K.enc p.1, f p.2]
def Z2p (es : Nat) (f : β → List (List SV)) (l : List (α × β)) : List (List DC) := l.map fun p => [.v (K.enc p.1), .kid es (f p.2)]
def ixA (a : α) : List (α × β) → Option (Nat × β)
 | [] => none
 | (k, v) :: r => if a = k then some (0, v) else (ixA a r).map fun p => (p.1 + 1, p.2)
def getA (a : α) : List (α × β) → Option β
 | [] => none
 | (k, v) :: r => if a = k then some v else getA a r
def setA (a : α) (v : β) : List (α × β) → List (α × β)
 | [] => [(a, v)]
 | (k, u) :: r => if a = k then (k, v) :: r else (k, u) :: setA a v r
theorem Z4Z (a : α) : ∀ l : List (α × β), (ixA a l).map Prod.snd = getA a l
 | [] => rfl
 | (k, v) :: r => by
   unfold ixA getA
   split
   · rfl
   · rw [Option.map_map, ← Z4Z a r]; rfl
theorem Z5U {a : α} {l : List (α × β)} (h : ixA a l = none) : getA a l = none := by rw [← Z4Z, h]; rfl
theorem UR {a : α} {l : List (α × β)} {i : Nat} {v : β} (h : ixA a l = some (i, v)) : getA a l = some v := by rw [← Z4Z, h]; rfl
theorem Va (a b : α) (v : β) : ∀ l : List (α × β), getA b (setA a v l) = if b = a then some v else getA b l
 | [] => by
   simp only [setA, getA]
 | (k, u) :: r => by
   unfold setA
   by_cases h : a = k
   · subst h
     rw [if_pos rfl]
     simp only [getA]
     by_cases e : b = a
     · rw [if_pos e, if_pos e]
     · rw [if_neg e, if_neg e, if_neg e]
   · rw [if_neg h]
     simp only [getA, Va a b v r]
     by_cases e : b = k
     · subst e; rw [if_pos rfl, if_neg (fun e => h e.symm), if_pos rfl]
     · rw [if_neg e, if_neg e]
theorem Z32 (f : β → SV) (a : α) : ∀ (l : List (α × β)) (i : Nat), JG K.ks (K.enc a) i (Z01 K f l) = (ixA a l).map fun p => (i + p.1, f p.2)
 | [], i => rfl
 | (k, v) :: r, i => by
   have ih := Z32 f a r (i + 1)
   simp only [Z01, List.map_cons, JG, K.is, ixA] at ih ⊢
   by_cases h : a = k
   · simp [h]
   · simp only [h, decide_false, if_false, ih, Option.map_map]
     congr 1
     funext p
     simp only [Function.comp, Prod.mk.injEq, and_true]
     omega
theorem Z33 (f : β → SV) (l : List (α × β)) : Ve K.ks (Z01 K f l) := by
 intro r hr
 obtain ⟨p, _, rfl⟩ := List.mem_map.1 hr
 exact ⟨_, _, rfl, K.ok _⟩
theorem Z2q {a : α} {v : β} : ∀ {l : List (α × β)} {i : Nat} {u : β}, ixA a l = some (i, u) → setA a v l = l.modify i (fun p => (p.1, v))
 | [], _, _, h => by cases h
 | (k, w) :: r, i, u, h => by
   unfold ixA at h
   unfold setA
   split at h
   · rename_i e
     injection h with h; injection h with h1 h2; subst h1
     rw [if_pos e, List.modify_zero_cons]
   · rename_i e
     obtain ⟨⟨j, x⟩, hj, he⟩ := Option.map_eq_some_iff.1 h
     injection he with h1 h2
     subst h1
     rw [if_neg e, List.modify_succ_cons, Z2q hj]
theorem Z43 {a : α} {v : β} : ∀ {l : List (α × β)}, ixA a l = none → setA a v l = l ++ [(a, v)]
 | [], _ => rfl
 | (k, w) :: r, h => by
   unfold ixA at h
   unfold setA
   split at h
   · cases h
   · rename_i e
     rw [if_neg e, List.cons_append, Z43 (by simpa using h)]
theorem Z9W (f : β → SV) (a : α) (v : β) (l : List (α × β)) : setM K.ks (K.enc a) (f v) (Z01 K f l) = Z01 K f (setA a v l) := by
 unfold setM
 rw [Z32]
 cases h : ixA a l with
 | none => simp only [Option.map_none]; rw [Z43 h]; simp [Z01]
 | some p =>
   obtain ⟨i, u⟩ := p
   simp only [Option.map_some, Nat.zero_add]
   rw [Z2q h]
   unfold Z01
   apply List.ext_getElem?
   intro j
   rw [List.getElem?_modify, List.getElem?_map, List.getElem?_map, List.getElem?_modify]
   by_cases e : i = j
   · subst e
     cases l[i]? <;> simp [putV]
   · cases l[j]? <;> simp [e]
theorem Z80 (f : β → SV) (hf : ∀ b, plain (f b) = true) (l : List (α × β)) : Zo (Z01 K f l) = true := by
 unfold Z01
 exact ZX _ (fun p => by simp only [Ys, K.pl, hf, Bool.and_self]) l
theorem Z50 (es : Nat) (f : β → List (List SV)) (a : α) : ∀ (l : List (α × β)) (i : Nat), findD K.ks (K.enc a) i (Z2p K es f l) = (ixA a l).map fun p => (i + p.1, .kid es (f p.2))
 | [], i => rfl
 | (k, v) :: r, i => by
   have ih := Z50 es f a r (i + 1)
   simp only [Z2p, List.map_cons, findD, X1, K.is, ixA] at ih ⊢
   by_cases h : a = k
   · simp [h]
   · simp only [h, decide_false, if_false, ih, Option.map_map]
     congr 1
     funext p
     simp only [Function.comp, Prod.mk.injEq, and_true]
     omega
theorem Z5V (es : Nat) (f : β → List (List SV)) (hf : ∀ b, Zo (f b) = true) : ∀ l : List (α × β), Xw (Z2p K es f l) = true
 | [] => rfl
 | p :: l => by
   have ih := Z5V es f hf l
   unfold Z2p at ih ⊢
   simp only [List.map_cons, Xw, Uh, Wq, K.pl, hf, ih, Bool.and_self]
end
section
variable {α β : Type} [DecidableEq α]
theorem FIND.A (K : KeyK α) (f : β → SV) (a : α) (l : List (α × β)) {J : Type} {A : Nat → SV → J → Prop} {B : J → Prop} {j : J} (hs : ∀ i v, ixA a l = some (i, v) → A (0 + i) (f v) j) (hn : ixA a l = none → B j) : FIND (JG K.ks (K.enc a) 0 (Z01 K f l)) A B j := by
 refine FIND.mk (fun i v hf => ?_) (fun hf => ?_)
 · obtain ⟨⟨k, x⟩, hj, he⟩ := Option.map_eq_some_iff.1 ((Z32 K f a l 0).symm.trans hf)
   cases he
   exact hs _ _ hj
 · exact hn (Option.map_eq_none_iff.1 ((Z32 K f a l 0).symm.trans hf))
theorem FINDD.A (K : KeyK α) (es : Nat) (f : β → List (List SV)) (a : α) (l : List (α × β)) {J : Type} {A : Nat → DC → J → Prop} {B : J → Prop} {j : J} (hs : ∀ i v, ixA a l = some (i, v) → A (0 + i) (.kid es (f v)) j) (hn : ixA a l = none → B j) : FINDD (findD K.ks (K.enc a) 0 (Z2p K es f l)) A B j := by
 refine FINDD.mk (fun i v hf => ?_) (fun hf => ?_)
 · obtain ⟨⟨k, x⟩, hj, he⟩ := Option.map_eq_some_iff.1 ((Z50 K es f a l 0).symm.trans hf)
   cases he
   exact hs _ _ hj
 · exact hn (Option.map_eq_none_iff.1 ((Z50 K es f a l 0).symm.trans hf))
end
def KQ : KeyK Qd where
 ks := (true, [.int .i64, .str, .str, .str, .int .i64, .str, .str, .str, .int .i64, .str, .str, .str, .int .i64, .str, .str, .str])
 enc := Qd.sv
 is a b := by
   obtain ⟨⟨a1, a2, a3, a4⟩, ⟨a5, a6, a7, a8⟩, ⟨a9, b1, b2, b3⟩, ⟨b4, b5, b6, b7⟩⟩ := a
   obtain ⟨⟨c1, c2, c3, c4⟩, ⟨c5, c6, c7, c8⟩, ⟨c9, d1, d2, d3⟩, ⟨d4, d5, d6, d7⟩⟩ := b
   rw [Bool.eq_iff_iff]
   simp [WT, JV, ZT, Zi, Qd.sv, Xz]
   simp only [and_assoc]
 ok a := by simp [Ji, JV, ZT, Zi, Qd.sv, Xz]
 pl a := rfl
def KT : KeyK (List UInt8) where
 ks := (false, [.str])
 enc := .str
 is a b := by rw [Bool.eq_iff_iff]; simp [WT, JV, ZT, Zi]
 ok a := by simp [Ji, JV, ZT, Zi]
 pl a := rfl
abbrev LB := List UInt8
def xsL (t : LB) (j : Nat) : LB := t ++ List.replicate j 120
theorem Z51 (t : LB) : xsL t 0 = t := by simp [xsL]
theorem Z52 (t : LB) (j : Nat) : xsL t (j + 1) = xsL t j ++ [120] := by
 unfold xsL
 rw [List.append_assoc, show [(120 : UInt8)] = List.replicate 1 120 from rfl, List.replicate_append_replicate]
theorem Z5W (t : LB) (j : Nat) : (xsL t j).length = t.length + j := by simp [xsL]
theorem Zbf {t : LB} {i j : Nat} (h : xsL t i = xsL t j) : i = j := by
 have := congrArg List.length h
 rw [Z5W, Z5W] at this; omega
def Z9f (U : List LB) (t : LB) : Nat → LB
 | 0 => t
 | n + 1 => if t ∈ U then Z9f U (t ++ [120]) n else t
def Z53 (U : List LB) (t : LB) : LB := Z9f U t (U.length + 1)
theorem Z5X {α : Type} [DecidableEq α] : ∀ {l u : List α}, l.Nodup → (∀ x ∈ l, x ∈ u) → l.length ≤ u.length
 | [], u, _, _ => Nat.zero_le _
 | a :: l, u, hn, hs => by
   have ha := hs a (List.mem_cons_self ..)
   have hn' := List.nodup_cons.1 hn
   have := Z5X (u := u.erase a) hn'.2 (fun x hx => (List.mem_erase_of_ne (fun (e : x = a) => hn'.1 (by rw [← e]; exact hx))).2 (hs x (List.mem_cons_of_mem _ hx)))
   rw [List.length_erase_of_mem ha] at this
   have := List.length_pos_of_mem ha
   simp only [List.length_cons]
   omega
theorem Z1l {U : List LB} {t : LB} {j : Nat} (h : ∀ i, i < j → xsL t i ∈ U) : j ≤ U.length := by
 have hn : ((List.range j).map (xsL t)).Nodup := by
   rw [List.nodup_iff_pairwise_ne, List.pairwise_map]
   exact List.nodup_range.imp fun hab e => hab (Zbf e)
 have := Z5X (u := U) hn fun x hx => by
   obtain ⟨i, hi, rfl⟩ := List.mem_map.1 hx
   exact h i (List.mem_range.1 hi)
 simpa using this
theorem Z81 {U : List LB} {t : LB} : ∀ (n i j : Nat), j - i ≤ n → i ≤ j → (∀ k, i ≤ k → k < j → xsL t k ∈ U) → xsL t j ∉ U → Z9f U (xsL t i) n = xsL t j
 | 0, i, j, h1, h2, _, _ => by rw [show i = j by omega]; rfl
 | n + 1, i, j, h1, h2, h, hj => by
   unfold Z9f
   rcases Nat.lt_or_eq_of_le h2 with h3 | rfl
   · rw [if_pos (h i (Nat.le_refl _) h3), ← Z52]
     exact Z81 n (i + 1) j (by omega) (by omega) (fun k hk => h k (by omega)) hj
   · rw [if_neg hj]
theorem Z82 {U : List LB} {t : LB} {j : Nat} (h : ∀ i, i < j → xsL t i ∈ U) (hj : xsL t j ∉ U) : Z53 U t = xsL t j := by
 have hl := Z1l h
 have := Z81 (t := t) (U.length + 1) 0 j (by omega) (by omega) (fun k _ hk => h k hk) hj
 rwa [Z51] at this
def JR : List LB → List LB → List (LB × LB) → Option (List (LB × LB))
 | [], _, ps => some ps
 | x :: own, U, ps => if 65536 < (Z53 U (x ++ [120])).length then none else JR own (U ++ [Z53 U (x ++ [120])]) (ps ++ [(x, Z53 U (x ++ [120]))])
def ownB (A B : List LB) : List LB := B.filter fun x => decide (x ∈ A)
def Vx (A B : List LB) : Option (List (LB × LB)) := JR (ownB A B) (A ++ B) []
theorem Z6y {own U : List LB} {ps : List (LB × LB)} {i : Nat} (h : i < own.length) : JR (own.drop i) U ps = if 65536 < (Z53 U (own[i] ++ [120])).length then none else JR (own.drop (i + 1)) (U ++ [Z53 U (own[i] ++ [120])]) (ps ++ [(own[i], Z53 U (own[i] ++ [120]))]) := by
 rw [List.drop_eq_getElem_cons h]
 rfl
theorem Z83 {own U : List LB} {ps : List (LB × LB)} : JR (own.drop own.length) U ps = some ps := by rw [List.drop_length]; rfl
theorem Z84 {A B : List LB} {i : Nat} (h : i < B.length) : ownB A (B.take (i + 1)) = if B[i] ∈ A then ownB A (B.take i) ++ [B[i]] else ownB A (B.take i) := by
 unfold ownB
 rw [List.take_succ_eq_append_getElem h, List.filter_append, List.filter_cons, List.filter_nil]
 by_cases e : B[i] ∈ A <;> simp [e]
end Go.Our
namespace Go.Sx
open Go Go.Sort Go.Shelf Go.Proofs
theorem HeapOK.later {M : Mx} {η : Env} {w w' : World} {O : Hps} {nx : Nat} (H : HeapOK M η w O nx) (hf : FrW w w' fun _ => False) : HeapOK M η w' O nx := by
 have hk : ∀ {i h}, lkp i O = some h → ∀ k, feet η w (.loc i) h k → w'.heap[k]? = w.heap[k]? := fun hi k f => hf.block k ((H.own.1 _ _ hi).1.feet_lt f) (fun h => h)
 have hb : ∀ {i h}, lkp i O = some h → ∀ k, feet η w' (.loc i) h k → feet η w (.loc i) h k := fun hi k f => H.stands List.prefix_rfl hi (hk hi) f
 exact ⟨H.pre, H.len, ⟨fun i h hi => ⟨(H.own.1 i h hi).1.keep (hk hi), fun k f => (H.own.1 i h hi).2 k (hb hi k f)⟩, fun i j h h' k hi hj hij f f' => H.own.2 i j h h' k hi hj hij (hb hi k f) (hb hj k f')⟩, H.fr.trans hf (fun n h => h.elim), H.sok⟩
section
variable {α : Type} [Inhabited α] (enc : α → List Value) (k : Nat)
end
theorem Zay {w : World} {g i : Nat} {c : Array Value} {T : TypeId} {fz : Nat × Nat} (h : w.heap[g]? = some (.cells c T fz)) : w.cell? ⟨g, i, none⟩ = c[i]? := by simp [World.cell?, h]
end Go.Sx
namespace Go.Sx
open Go
def Mx.at (M : Mx) (N : Nat) (ro : Option (Nat × Nat)) (η : Env) : Mx := ⟨M.P, ⟨M.C.T, N, M.C.S, ro⟩, M.w0, M.F, η⟩
def endI (M : Mx) (res : List ResultVar) (K : SV → Hps → Nat → Prop) : Post
 | .normal, fr, O, nx => Z2O fr O fun O => WY M.C fr O res fun vs => K (Z2N vs) O nx
 | .ret, fr, O, nx => Z2O fr O fun O => WY M.C fr O res fun vs => K (Z2N vs) O nx
 | .exit _, _, _, _ => STOP "exit"
def Z88 : List Nat → List SV → Fr → (Fr → Prop) → Prop
 | [], ags, fr, K => match ags with
   | [] => match Z4O (lkp DS fr) with
     | true => STOP "round"
     | false => K fr
   | _ :: _ => STOP "round"
 | p :: ps, ags, fr, K => match ags with
   | a :: ags => Z88 ps ags ((p, a) :: fr) K
   | [] => STOP "round"
def Z89 (j : Nat) (K : SV → Hps → Nat → Prop) : Post := fun e fr O nx => match lkp j O with
 | some h => match h with
   | .lp st li fr0 => match st with
     | .busy => match e with
       | .normal => Z1K j (.lp .ready li fr0) O fun O => K (.bool true) O nx
       | .ret => Z1K j (.lp (.left none) li fr0) O fun O => K (.bool false) O nx
       | .exit id => Z1K j (.lp (.left (some id)) li fr0) O fun O => K (.bool false) O nx
     | _ => STOP "record"
   | _ => STOP "record"
 | none => STOP "record"
def Z9X (M : Mx) (j : Nat) (body : Code) (K : SV → Hps → Nat → Prop) : Post := fun e fr O nx => match e with
 | .normal => match lkp j O with
   | some h => match h with
     | .lp st li fr0 => match st with
       | .ready => Z1K j (.lp .busy li fr0) O fun O => run M body fr O nx (Z89 j K)
       | _ => STOP "record"
     | _ => STOP "record"
   | none => STOP "record"
 | _ => STOP "assignment"
def noDS : Fr → (Fr → Prop) → Prop
 | [], K => K []
 | (t, v) :: r, K => match Nat.beq t DS with
   | true => noDS r K
   | false => noDS r fun r => K ((t, v) :: r)
def Z9g (fr : Fr) (d : Nat) (K : Fr → Prop) : Prop := match lkp DS fr with
 | some v => match v with
   | .dfs l => K ((DS, .dfs (.ptr (.loc d) 0 0 0 :: l)) :: fr)
   | _ => K ((DS, .dfs [.ptr (.loc d) 0 0 0]) :: fr)
 | none => K ((DS, .dfs [.ptr (.loc d) 0 0 0]) :: fr)
def Z8a (j : Nat) (frK : (Fr → Prop) → Prop) (Q : Post) : SV → Hps → Nat → Prop := fun _ O nx => match lkp j O with
 | some h => match h with
   | .lp st _ _ => match st with
     | .ready => Z0r j O fun O => frK fun fr => Q .normal fr O nx
     | .busy => STOP "record"
     | .left jump => match jump with
       | none => Z0r j O fun O => frK fun fr => Q .ret fr O nx
       | some id => Z0r j O fun O => frK fun fr => Q (.exit id) fr O nx
   | _ => STOP "record"
 | none => STOP "record"
section
variable {M : Mx} {η : Env} {w : World} {O : Hps} {nx : Nat}
theorem SOK.longer (h : SOK M) {η : Env} (hp : M.η0 <+: η) {N : Nat} {ro : Option (Nat × Nat)} : SOK (M.at N ro η) := by
 intro b hh hb
 have hb' : lkS M.C b = some hh := by cases b <;> exact hb
 obtain ⟨h1, h2⟩ := h b hh hb'
 obtain ⟨x, hx, _⟩ := h1.lt
 exact ⟨h1.mono hp, fun k f => h2 k (feet.less hp hx f)⟩
theorem HeapOK.at (H : HeapOK M η w O nx) {N : Nat} {ro : Option (Nat × Nat)} : HeapOK (M.at N ro η) η w O nx := ⟨List.prefix_rfl, H.len, H.own, H.fr, H.sok.longer H.pre⟩
theorem HeapOK.back {η0 : Env} {N : Nat} {ro : Option (Nat × Nat)} (H : HeapOK (M.at N ro η0) η w O nx) (hp : M.η0 <+: η0) (hs : SOK M) : HeapOK M η w O nx := ⟨hp.trans H.pre, H.len, H.own, H.fr, hs⟩
theorem Z45 (hT : TabOK M.P M.C.T) {g : FuncId} {fn : Func} {c : Code} (hf : M.P.funcs[g]? = some fn) (hb : fn.body = some c) (N : Nat) (hN : fn.ntmps = N) (hND : N ≤ DS) {args : List SV} (hlen : args.length ≤ N) {res : List ResultVar} (hres : fn.results = res.toArray)
   {K : SV → Hps → Nat → Prop} {vs : List Value} (H : HeapOK M η w O nx) (hd : DenL η args vs) (h : run (M.at N none η) c (Uo 0 args) O nx (endI (M.at N none η) res K))
   {R : Ending → World → Prop} (hR : ∀ v r w' O' nx' η', η <+: η' → HeapOK M η' w' O' nx' → Den η' r v → K r O' nx' → R (.returned v) w') : Calls M.P g ⟨vs⟩ w R := by
 have hl := ZE hd
 refine callsIn_wide (n := 0) |>.1 (callsIn_of_wp_marks hf hb trivial ?_)
 have hm : Models (M.at N none η) η (Uo 0 args) O nx { tmps := ⟨vs⟩ ++ Array.replicate (fn.ntmps - (Array.mk vs).size) undef, defers := [] } w := by
   refine ⟨H.at, ?_, hND, Z5F (Nat.le_trans hlen hND), (fun l j h => by cases h), ?_⟩
   · simp only [Array.size_append, Array.size_replicate, hN, List.size_toArray]
     show vs.length + (N - vs.length) = N
     omega
   · intro t sv ht
     obtain ⟨v, _, h1, h2⟩ := Z2P hd ht
     have hlt := (List.getElem?_eq_some_iff.1 h1).1
     simp only [Nat.sub_zero] at h1 hlt
     rw [Array.getD_eq_getD_getElem?, Array.getElem?_append_left (by simpa using hlt)]
     have : (Array.mk vs)[t]? = some v := by simpa using h1
     rw [this]; exact h2
 refine Code.wpIn_mono ?_ (ZQ (M := M.at N none η) hT c h η _ w hm)
 have fin : ∀ {η1 : Env} {fr1 : Fr} {O1 : Hps} {nx1 : Nat} {a : Act} {w1 : World}, Models (M.at N none η) η1 fr1 O1 nx1 a w1 → (Z2O fr1 O1 fun O1 => WY (M.at N none η).C fr1 O1 res fun vs => K (Z2N vs) O1 nx1) →
     LeavesInM Fence.wide 0 M.P fn a.tmps R a.defers .returning w1 := by
   intro η1 fr1 O1 nx1 a w1 hm1 hr
   exact Z3O (M := M.at N none η) hT hres hm1 hr fun w2 O2 v r H2 hd2 hk => hR v r w2 O2 nx1 η1 H2.pre (H2.back H.pre H.sok) hd2 hk
 intro e a w hq
 cases e with
 | normal => obtain ⟨η1, fr1, O1, nx1, hm1, hq⟩ := hq; exact fin hm1 hq
 | ret => obtain ⟨η1, fr1, O1, nx1, hm1, hq⟩ := hq; exact fin hm1 hq
 | exit id => obtain ⟨η1, fr1, O1, nx1, hm1, hq⟩ := hq; exact hq.out.elim
 | goto l => exact hq.elim
 | panic ch => exact hq.elim
 | outgrown => exact hq.elim
def Y6 : List Nat → List Value → Array Value → Array Value
 | p :: ps, v :: vs, t => Y6 ps vs (t.setIfInBounds p v)
 | _, _, t => t
theorem Z46 : ∀ (ps : List Nat) (vs : List Value) (t : Array Value), ((ps.toArray.zip ⟨vs⟩).foldl (fun tmps (p : Nat × Value) => tmps.setIfInBounds p.1 p.2) t) = Y6 ps vs t := by
 intro ps vs t
 have h1 : (ps.toArray.zip ⟨vs⟩ : Array (Nat × Value)) = (ps.zip vs).toArray := by simp
 rw [h1, ← Array.foldl_toList]
 simp only
 induction ps generalizing vs t with
 | nil => simp [Y6]
 | cons p ps ih =>
   cases vs with
   | nil => simp [Y6]
   | cons v vs =>
     simp only [List.zip_cons_cons, List.foldl_cons, Y6]
     exact ih vs (t.setIfInBounds p v) (by simp)
theorem Z1m : ∀ (ps : List Nat) (vs : List Value) (t : Array Value), (Y6 ps vs t).size = t.size
 | [], vs, t => by simp [Y6]
 | p :: ps, [], t => by simp [Y6]
 | p :: ps, v :: vs, t => by simp only [Y6]; rw [Z1m ps vs]; simp
theorem Z5Y {η : Env} : ∀ {ps : List Nat} {ags : List SV} {fr : Fr} {K : Fr → Prop} {vs : List Value} {t : Array Value}, Z88 ps ags fr K → DenL η ags vs → TmpsOK η t fr → (∀ p ∈ ps, p < t.size) → ∃ fr', K fr' ∧ Z4O (lkp DS fr') = false ∧ TmpsOK η (Y6 ps vs t) fr' ∧ vs.length = ps.length
 | [], ags, fr, K, vs, t, h, hd, ht, hp => by
   simp only [Z88] at h
   split at h
   · split at h
     · exact h.out.elim
     · rename_i hn
       simp only [DenL] at hd
       subst hd
       exact ⟨fr, h, hn, ht, rfl⟩
   · exact h.out.elim
 | p :: ps, ags, fr, K, vs, t, h, hd, ht, hp => by
   simp only [Z88] at h
   split at h
   · rename_i a ags
     simp only [DenL] at hd
     obtain ⟨u, us, rfl, h1, h2⟩ := hd
     have hpt := hp p (List.mem_cons_self ..)
     obtain ⟨fr', h3, h4, h5, h6⟩ := Z5Y (t := t.setIfInBounds p u) h h2 (fun s sv hs => by
       rw [Zf] at hs
       split at hs
       · rename_i e; subst e; injection hs with hs; subst hs
         simpa [Array.getD_eq_getD_getElem?, Array.getElem?_setIfInBounds, hpt] using h1
       · rename_i e
         rw [Array.getD_eq_getD_getElem?, Array.getElem?_setIfInBounds, if_neg (Ne.symm e), ← Array.getD_eq_getD_getElem?]
         exact ht s sv hs) (fun q hq => by rw [Array.size_setIfInBounds]; exact hp q (List.mem_cons_of_mem _ hq))
     exact ⟨fr', h3, h4, h5, by simp [h6]⟩
   · exact h.out.elim
theorem HeapOK.record (H : HeapOK M η w O nx) {j : Nat} {st st' : LpS} {li : LpI} {fr0 : Fr} (hj : lkp j O = some (.lp st li fr0)) {e : Ent} (he : η[j]? = some (some e)) :
   ∃ r, w.heap[e.g]? = some (.loop r) ∧ r.state = st.state ∧ r.pending = st.jump ∧ ∀ r' : Loop, r'.state = st'.state → r'.pending = st'.jump → r'.params = r.params → r'.assign = r.assign → r'.body = r.body → r'.tmps = r.tmps → HeapOK M η (w.putObj e.g (.loop r')) (setK j (.lp st' li fr0) O) nx := by
 have hs := (H.own.1 j _ hj).1
 simp only [HpSat] at hs
 obtain ⟨e', r, h1, h2, h3, h4, h5, h6, h7, h8, h9, h10⟩ := hs
 have h1' : η[j]? = some (some e') := h1
 rw [he] at h1'
 injection h1' with h1'
 injection h1' with h1'
 subst h1'
 have hlt := (Array.getElem?_eq_some_iff.1 h3).1
 refine ⟨r, h3, h4, h5, fun r' q1 q2 q3 q4 q5 q6 => ?_⟩
 refine H.upd hj he (fun k hk => World.putObj_heap_other hk) World.putObj_size rfl rfl rfl ?_
 simp only [HpSat]
 exact ⟨e, r', h1, h2, World.putObj_heap_same hlt, q1, q2, by rw [q3]; exact h6, by rw [q4]; exact h7, by rw [q5]; exact h8, by rw [q6]; exact h9, by rw [q6]; exact h10⟩
theorem YIELD.of (hT : TabOK M.P M.C.T) {j : Nat} {li : LpI} {fr0 : Fr} {args : List SV} {K : SV → Hps → Nat → Prop} (hj : lkp j O = some (.lp .ready li fr0)) (hps : li.ps.all (fun p => Nat.blt p li.N) = true) (hND : Nat.ble li.N DS = true)
   (h : ∀ (η1 : Env) (l : Nat), η1.length = nx → Z88 li.ps args fr0 fun fr => run (M.at li.N (some (l, j)) η1) li.asg fr O nx (Z9X (M.at li.N (some (l, j)) η1) j li.body K)) : YIELD M j args O nx K := by
 refine ⟨fun η w vs e H hd he => ?_⟩
 obtain ⟨r, hr, hst, hpe, _⟩ := H.record (st' := .ready) hj he
 have hs := (H.own.1 j _ hj).1
 simp only [HpSat] at hs
 obtain ⟨e', r', h1, h2, h3, h4, h5, h6, h7, h8, h9, h10⟩ := hs
 have h1' : η[j]? = some (some e') := h1
 rw [he] at h1'
 injection h1' with h1'
 injection h1' with h1'
 subst h1'
 rw [hr] at h3
 injection h3 with h3
 injection h3 with h3
 subst h3
 obtain ⟨fr, hrun, hnd, htm, hlen⟩ := Z5Y (h η e.g H.len) hd h10 (fun p hp => by rw [h9]; simpa [Nat.blt_eq] using List.all_eq_true.1 hps p hp)
 have hpr : r.params = li.ps.toArray := by rw [← h6]
 refine ⟨r.fn, _, r.assign, r.body, run_yield hr (by rw [hpr]; simpa using hlen), ?_⟩
 rw [h7, h8]
 have hfold : ((r.params.zip ⟨vs⟩).foldl (fun tmps (x : Nat × Value) => tmps.setIfInBounds x.1 x.2) r.tmps) = Y6 li.ps vs r.tmps := by rw [hpr]; exact Z46 li.ps vs r.tmps
 have hfold' : ((r.params.zip ⟨vs⟩).foldl (fun tmps x => match x with | (t, a) => tmps.setIfInBounds t a) r.tmps) = Y6 li.ps vs r.tmps := hfold
 rw [hfold']
 generalize hMr : M.at li.N (some (e.g, j)) η = Mr at hrun
 have hTr : TabOK Mr.P Mr.C.T := by subst hMr; exact hT
 have hPr : Mr.P = M.P := by subst hMr; rfl
 have hfr : Mr.fence = Fence.wide.inRound e.g := by subst hMr; rfl
 have hm : Models Mr η fr O nx { tmps := Y6 li.ps vs r.tmps, defers := [] } w := by
   subst hMr
   refine ⟨H.at, by rw [Z1m]; exact h9, Nat.le_of_ble_eq_true hND, (DfOK.no hnd).2 rfl, fun l' j' hl => ?_, htm⟩
   injection hl with hl
   injection hl with hl1 hl2
   subst hl1 hl2
   exact ⟨e, he, rfl⟩
 refine roundIn_of_wpIn trivial ?_
 rw [← hPr, ← hfr]
 refine Code.wpIn_mono ?_ (ZQ hTr li.asg hrun η _ w hm)
 intro ex a1 w1 hq
 cases ex with
 | exit id => obtain ⟨η1, fr1, O1, nx1, hm1, hq⟩ := hq; exact hq.out.elim
 | ret => obtain ⟨η1, fr1, O1, nx1, hm1, hq⟩ := hq; exact hq.out.elim
 | goto l => exact hq.elim
 | panic ch => exact hq.elim
 | outgrown => exact hq.elim
 | normal =>
   obtain ⟨η1, fr1, O1, nx1, hm1, hq⟩ := hq
   simp only [Z9X] at hq
   split at hq
   case h_2 => exact hq.out.elim
   rename_i hh hj1
   split at hq
   case h_2 => exact hq.out.elim
   rename_i st1 li1 fr01
   split at hq
   case h_2 => exact hq.out.elim
   rw [XA] at hq
   obtain ⟨e1, he1, heg⟩ := hm1.ro e.g j (by subst hMr; rfl)
   obtain ⟨r1, hr1, hs1, hp1, hup1⟩ := hm1.heap.record (st' := .busy) hj1 he1
   rw [heg] at hr1 hup1
   refine ⟨_, run_beginRound hr1 hs1, ?_⟩
   have hm2 : Models Mr η1 fr1 (setK j (.lp .busy li1 fr01) O1) nx1 a1 (w1.putObj e.g (.loop { r1 with state := .busy })) := ⟨hup1 _ rfl hp1 rfl rfl rfl rfl, hm1.size, hm1.nds, hm1.defers, hm1.ro, hm1.frame⟩
   refine Code.wpIn_mono ?_ (ZQ hTr li.body hq η1 a1 _ hm2)
   have fin : ∀ {ex : Ex} {η2 : Env} {fr2 : Fr} {O2 : Hps} {nx2 : Nat} {a2 : Act} {w2 : World} (jump : Option Code), Models Mr η2 fr2 O2 nx2 a2 w2 → Z89 j K ex fr2 O2 nx2 → (match ex with | .normal => jump = none | .ret => jump = some .ret | .exit id => jump = some (.exit id)) →
       ∃ v w', (Instr.endRound e.g jump).run Mr.P w2 = .ok v w' ∧ ∃ v', Ending.returned v = .returned v' ∧ ∃ r O' nx' η', η <+: η' ∧ HeapOK M η' w' O' nx' ∧ Den η' r v' ∧ K r O' nx' := by
     intro ex η2 fr2 O2 nx2 a2 w2 jump hm2 hq hj'
     unfold Z89 at hq
     split at hq
     case h_2 => exact hq.out.elim
     rename_i hh hj2
     split at hq
     case h_2 => exact hq.out.elim
     rename_i st2 li2 fr02
     split at hq
     case h_2 => exact hq.out.elim
     obtain ⟨e2, he2, heg2⟩ := hm2.ro e.g j (by subst hMr; rfl)
     have hpre : η <+: η2 := by have := hm2.heap.pre; subst hMr; exact this
     have back : ∀ {w' : World} {O' : Hps}, HeapOK Mr η2 w' O' nx2 → HeapOK M η2 w' O' nx2 := fun h => by subst hMr; exact h.back H.pre H.sok
     cases ex with
     | normal =>
       simp only at hj'
       subst hj'
       simp only [XA] at hq
       obtain ⟨r2, hr2, hs2, hp2, hup2⟩ := hm2.heap.record (st' := .ready) hj2 he2
       rw [heg2] at hr2 hup2
       exact ⟨_, _, run_endRound none hr2, _, rfl, .bool true, _, _, η2, hpre, back (hup2 _ rfl rfl rfl rfl rfl rfl), (by simp only [Den]; rfl), hq⟩
     | ret =>
       simp only at hj'
       subst hj'
       simp only [XA] at hq
       obtain ⟨r2, hr2, hs2, hp2, hup2⟩ := hm2.heap.record (st' := .left none) hj2 he2
       rw [heg2] at hr2 hup2
       exact ⟨_, _, run_endRound (some .ret) hr2, _, rfl, .bool false, _, _, η2, hpre, back (hup2 _ rfl rfl rfl rfl rfl rfl), (by simp only [Den]; rfl), hq⟩
     | exit id =>
       simp only at hj'
       subst hj'
       simp only [XA] at hq
       obtain ⟨r2, hr2, hs2, hp2, hup2⟩ := hm2.heap.record (st' := .left (some id)) hj2 he2
       rw [heg2] at hr2 hup2
       exact ⟨_, _, run_endRound (some (.exit id)) hr2, _, rfl, .bool false, _, _, η2, hpre, back (hup2 _ rfl rfl rfl rfl rfl rfl), (by simp only [Den]; rfl), hq⟩
   intro ex a2 w2 hq2
   cases ex with
   | normal => obtain ⟨η2, fr2, O2, nx2, hm2, hq2⟩ := hq2; exact fin none hm2 hq2 rfl
   | ret => obtain ⟨η2, fr2, O2, nx2, hm2, hq2⟩ := hq2; exact fin (some .ret) hm2 hq2 rfl
   | exit id => obtain ⟨η2, fr2, O2, nx2, hm2, hq2⟩ := hq2; exact fin (some (.exit id)) hm2 hq2 rfl
   | goto l => exact hq2.elim
   | panic ch => exact hq2.elim
   | outgrown => exact hq2.elim
theorem Z56 {K : Fr → Prop} : ∀ {fr : Fr}, noDS fr K → ∃ fr0, K fr0 ∧ lkp DS fr0 = none ∧ ∀ t v, lkp t fr0 = some v → lkp t fr = some v
 | [], h => ⟨[], h, rfl, fun t v h => h⟩
 | (d, u) :: r, h => by
   unfold noDS at h
   split at h
   · rename_i e
     have e := Zq e
     obtain ⟨fr0, h1, h0, h2⟩ := Z56 h
     refine ⟨fr0, h1, h0, fun t v ht => ?_⟩
     rw [Zf]
     split
     · rename_i e2
       rw [e2, e, h0] at ht; cases ht
     · exact h2 t v ht
   · rename_i e
     have e := XB e
     obtain ⟨fr0, h1, h0, h2⟩ := Z56 h
     refine ⟨(d, u) :: fr0, h1, by rw [Zf, if_neg (Ne.symm e)]; exact h0, fun t v ht => ?_⟩
     rw [Zf] at ht ⊢
     split
     · rename_i e; rw [if_pos e] at ht; exact ht
     · rename_i e; rw [if_neg e] at ht; exact h2 t v ht
theorem Z6C (hT : TabOK M.P M.C.T) {gf g : FuncId} {fn : Func} {c : Code} {cap : List SV} (hcall : ∀ args w, (callFunc gf args).run M.P w = .ok (.enter g args) w) (hf : M.P.funcs[g]? = some fn) (hb : fn.body = some c) (N : Nat) (hN : fn.ntmps = N) (hND : N ≤ DS) (hlen : cap.length + 1 ≤ N) (hres : fn.results = #[])
   {f : Operand} {Q : Post} {a a' : Act} {η1 : Env} {w1 : World} {O1 : Hps} {n1 j l : Nat} (hev : ∃ vs, a.eval f = .func (.func gf) #[] ⟨vs⟩ ∧ DenL η1 cap vs) (H1 : HeapOK M η1 w1 O1 n1) (hj : η1[j]? = some (some ⟨l, 0, 0⟩)) {frK : (Fr → Prop) → Prop}
   (hfrK : ∀ {K : Fr → Prop}, frK K → ∃ fr', K fr' ∧ ∀ η' w' O' nx', η1 <+: η' → HeapOK M η' w' O' nx' → Models M η' fr' O' nx' a' w')
   (h : run (M.at N none η1) c (Uo 0 (.yf (.loc j) :: cap)) O1 n1 (endI (M.at N none η1) [] (Z8a j frK Q))) :
   ∃ (d : Deferred) (w1' : World) (f' : FuncId) (args : Array Value) (w2 : World), (resolve a.eval (rangeCall f l) 0).run M.P w1 = .ok d w1' ∧ (∀ f', Target.leads M.P w1' d.target d.args = some f' → M.fence.fn f') ∧ (invoke d.target d.args).run M.P w1' = .ok (.enter f' args) w2 ∧
     (M.fence.depth.isSome = true → 1 ≤ 0) ∧ CallsIn M.fence (0 - 1) M.P f' args w2 (rangePost M.fence 0 M.P l (Z7f M Q) a') := by
 obtain ⟨vs, hv, hd⟩ := hev
 refine ⟨{ target := .fn (.func gf) ⟨vs⟩, args := #[.func (.yield l) #[] #[]] }, w1, g, #[.func (.yield l) #[] #[]] ++ ⟨vs⟩, w1, ?_, fun f' _ => M.all f', ?_, (fun h => by cases h), ?_⟩
 · simp only [resolve, hv]
   simp [go_sem]
 · simp [invoke, go_sem, hcall]
 · have hargs : (#[.func (.yield l) #[] #[]] ++ (⟨vs⟩ : Array Value)) = ⟨Value.func (.yield l) #[] #[] :: vs⟩ := by apply Array.ext'; simp
   rw [hargs]
   have hd1 : DenL η1 (.yf (.loc j) :: cap) (Value.func (.yield l) #[] #[] :: vs) := by
     simp only [DenL, Den]
     exact ⟨_, _, rfl, ⟨_, hj, rfl⟩, hd⟩
   refine callsIn_wide.2 (Z45 hT hf hb N hN hND (by simpa using hlen) (by simpa using hres) H1 hd1 h fun v r w' O' nx' η' hp H' hd' hk => ?_)
   unfold Z8a at hk
   split at hk
   case h_2 => exact hk.out.elim
   rename_i hh hj'
   split at hk
   case h_2 => exact hk.out.elim
   rename_i st li fr0
   have hje : η'[j]? = some (some ⟨l, 0, 0⟩) := Env.get_mono (b := .loc j) hp hj
   obtain ⟨r1, hr1, hs1, hp1, _⟩ := H'.record (st' := .ready) hj' hje
   obtain ⟨s1, p1, c1, c2, c3, c4, c5, c6⟩ := r1
   simp only at hr1 hs1 hp1
   subst hs1 hp1
   have hdrop : HeapOK M η' (w'.putObj l (.loop { state := .exhausted, pending := st.jump, fn := c1, tmps := c2, params := c3, assign := c4, body := c5, defers := c6 })) (delK j O') nx' := H'.drop hj' hje (fun k hk => World.putObj_heap_other (by rintro rfl; exact hk (feet.own (b := .loc j) hje))) World.putObj_size rfl rfl rfl (Nat.le_refl _)
   split at hk
   · rw [X2] at hk
     obtain ⟨fr', h1, h2⟩ := hfrK hk
     exact ⟨_, _, run_endLoop hr1 (by simp [LpS.state]), ⟨η', fr', _, nx', h2 η' _ _ _ hp hdrop, h1⟩⟩
   · exact hk.out.elim
   · split at hk
     · rw [X2] at hk
       obtain ⟨fr', h1, h2⟩ := hfrK hk
       exact ⟨_, _, run_endLoop hr1 (by simp [LpS.state]), wpIn_ret ⟨η', fr', _, nx', h2 η' _ _ _ hp hdrop, h1⟩⟩
     · rw [X2] at hk
       obtain ⟨fr', h1, h2⟩ := hfrK hk
       exact ⟨_, _, run_endLoop hr1 (by simp [LpS.state]), wpIn_exit ⟨η', fr', _, nx', h2 η' _ _ _ hp hdrop, h1⟩⟩
theorem Z9h {fr : Fr} {d : Nat} {K : Fr → Prop} (h : Z9g fr d K) : ∃ l, K ((DS, .dfs (.ptr (.loc d) 0 0 0 :: l)) :: fr) ∧ ∀ {η : Env} {ds : List Deferred}, DfOK η ds (lkp DS fr) → DfL η l ds := by
 unfold Z9g at h
 split at h
 · rename_i v hv
   split at h
   · rename_i l
     exact ⟨l, h, fun hd => by rw [hv] at hd; exact hd⟩
   · rename_i hn
     refine ⟨[], h, fun hd => ?_⟩
     rw [hv] at hd
     have : Z4O (some v) = false := by cases v <;> first | rfl | exact (hn _ rfl).elim
     rw [DfOK.no this] at hd
     subst hd; rfl
 · rename_i hv
   refine ⟨[], h, fun hd => ?_⟩
   rw [hv] at hd
   have hd : _ = [] := hd
   subst hd; rfl
theorem RANGEF.of (hT : TabOK M.P M.C.T) {f : Operand} {ps : Array Tmp} {asg body : Code} {fr : Fr} {Q : Post} {gf g : FuncId} {cap : List SV} {fn : Func} {c : Code} (hcall : ∀ args w, (callFunc gf args).run M.P w = .ok (.enter g args) w) (hf : M.P.funcs[g]? = some fn) (hb : fn.body = some c) (N : Nat) (hN : fn.ntmps = N)
   (li : LpI) (hli : li = ⟨M.C.N, ps.toList, asg, body⟩) (hv : Vh fr f = some (.fn (.func gf) [] cap)) (hlen : Nat.ble (cap.length + 1) N = true) (hres : fn.results = #[]) (hro : M.C.ro = none)
   (h : noDS fr fun fr0 => ∀ η1 : Env, η1.length = nx + 2 → run (M.at N none η1) c (Uo 0 (.yf (.loc (nx + 1)) :: cap)) ((nx + 1, .lp .ready li fr0) :: (nx, .dfr []) :: O) (nx + 2) (endI (M.at N none η1) [] (Z8a (nx + 1) (Z9g fr nx) Q))) (hND : Nat.ble N DS = true := by rfl) : RANGEF M f ps asg body fr O nx Q := by
 obtain ⟨fr0, h, _, hfr0⟩ := Z56 h
 refine ⟨fun η a w hm => wpIn_rangeFunc fun fnid _ => ?_⟩
 have hround : M.fence.round = none := by simp [Mx.fence, hro]
 rw [hround]
 obtain ⟨rec, hrec⟩ : ∃ rec : Loop, rec = { state := .ready, pending := none, fn := fnid, tmps := a.tmps, params := ps, assign := asg, body, defers := w.heap.size } := ⟨_, rfl⟩
 have hl := hm.heap.len
 obtain ⟨η1, hη1⟩ : ∃ η1 : Env, η1 = η ++ [some ⟨w.heap.size, 0, 0⟩] := ⟨_, rfl⟩
 have H1 : HeapOK M η1 (w.alloc (.deferred (some []))) ((nx, .dfr []) :: O) (nx + 1) := by
   rw [hη1]
   refine hm.heap.alloc (w' := w.alloc (.deferred (some []))) (o := .deferred (some [])) (h := .dfr []) rfl rfl rfl rfl 0 0 ?_
   simp only [HpSat]
   exact ⟨⟨w.heap.size, 0, 0⟩, by simp [Env.get, ← hl], rfl, World.alloc_heap_new w _, (fun n hn => nomatch hn), by simp⟩
 have hl1 := H1.len
 obtain ⟨η2, hη2⟩ : ∃ η2 : Env, η2 = η1 ++ [some ⟨w.heap.size + 1, 0, 0⟩] := ⟨_, rfl⟩
 have hsz : (w.alloc (.deferred (some []))).heap.size = w.heap.size + 1 := World.size_alloc _ _
 have hpre : η <+: η2 := by rw [hη2, hη1, List.append_assoc]; exact List.prefix_append _ _
 have hj2 : η2[nx + 1]? = some (some ⟨w.heap.size + 1, 0, 0⟩) := by rw [hη2, ← hl1]; simp
 have hd2 : η2[nx]? = some (some ⟨w.heap.size, 0, 0⟩) := by
   rw [hη2, List.getElem?_append_left (by omega), hη1, ← hl]; simp
 have H2 : HeapOK M η2 ((w.alloc (.deferred (some []))).alloc (.loop rec)) ((nx + 1, .lp .ready li fr0) :: (nx, .dfr []) :: O) (nx + 2) := by
   have := H1.alloc (w' := (w.alloc (.deferred (some []))).alloc (.loop rec)) (o := .loop rec) (h := .lp .ready li fr0) rfl rfl rfl rfl 0 0 (by
     rw [hsz, ← hη2]
     simp only [HpSat]
     refine ⟨_, rec, hj2, rfl, by rw [← hsz]; exact World.alloc_heap_new _ _, ?_⟩
     subst hrec hli
     exact ⟨rfl, rfl, rfl, rfl, rfl, hm.size, fun t sv ht => (hm.frame t sv (hfr0 t sv ht)).mono hpre⟩)
   rw [hsz, ← hη2] at this
   exact this
 have hev : ∃ vs, a.eval f = .func (.func gf) #[] ⟨vs⟩ ∧ DenL η2 cap vs := by
   have := Y5 hm.frame hv
   simp only [Den, DenL] at this
   obtain ⟨us, vs, h1, rfl, h3⟩ := this
   exact ⟨vs, h1, h3.mono hpre⟩
 obtain ⟨d, w1', f', args, w2, q1, q2, q3, q4, q5⟩ := Z6C (a' := { a with defers := [{ target := .collected w.heap.size, args := #[] }] ++ a.defers }) hT hcall hf hb N hN (Nat.le_of_ble_eq_true hND) (Nat.le_of_ble_eq_true hlen) hres hev H2 hj2 (frK := Z9g fr nx) (fun {K} hk => by
   obtain ⟨l, h1, h2⟩ := Z9h hk
   refine ⟨_, h1, fun η' w' O' nx' hp H' => ⟨H', hm.size, hm.nds, ?_, Un (hpre.trans hp) hm.ro, fun t sv ht => ?_⟩⟩
   · rw [Zf, if_pos rfl]
     exact ⟨⟨w.heap.size, 0, 0⟩, a.defers, Env.get_mono (b := .loc nx) hp hd2, rfl, h2 (hm.defers.mono (hpre.trans hp))⟩
   · rw [Zf] at ht
     split at ht
     · injection ht with ht; subst ht; simp only [Den]
     · exact (hm.frame t sv ht).mono (hpre.trans hp)) (h η2 H2.len)
 refine ⟨w.heap.size + 1, [{ target := .collected w.heap.size, args := #[] }], _, d, w1', f', args, w2, run_enterLoop_outer _ _ _ _ _, ?_, q2, q3, q4, q5⟩
 rw [hrec] at q1
 exact q1
end
theorem FIN.weak {M : Mx} {O O1 : Hps} {nx n1 : Nat} {r r1 : SV} {Q : SV → Hps → Nat → Prop} (h : ∀ η w v, HeapOK M η w O nx → Den η r v → ∃ η', η <+: η' ∧ HeapOK M η' w O1 n1 ∧ Den η' r1 v) (hf : FIN M O1 n1 r1 Q) : FIN M O nx r Q :=
 ⟨fun η w v H hd => let ⟨η1, h1, h2, h3⟩ := h η w v H hd; hf.out η1 w v h2 h3⟩
theorem FIN.nil {M : Mx} {O : Hps} {nx : Nat} {Q : SV → Hps → Nat → Prop} (es : Nat) (hf : FIN M ((nx, .rows es []) :: O) (nx + 1) (.sl (.loc nx) 0 es 0 none) Q) : FIN M O nx (.val (.slice none 0 0)) Q := by
 refine FIN.weak (fun η w v H hd => ?_) hf
 have hnew : (η ++ [none])[nx]? = some none := by rw [List.getElem?_append_right (by rw [H.len]; omega), H.len]; simp
 refine ⟨η ++ [none], List.prefix_append _ _, H.push none (fun _ _ => rfl) (Nat.le_refl _) rfl rfl rfl (Nat.le_refl _) (.inl ⟨hnew, rfl⟩) (fun k f => (feet.none (b := .loc nx) hnew f).elim) (fun k f => (feet.none (b := .loc nx) hnew f).elim), ?_⟩
 simp only [Den] at hd ⊢
 exact .inl ⟨hnew, hd.1, trivial⟩
theorem FIN.nilCell {M : Mx} {O : Hps} {nx : Nat} {r : SV} {Q : SV → Hps → Nat → Prop} (i j es : Nat) {row row' : List SV} (hi : lkp i O = some (.box row)) (hr : Z1g nx es j row = some row') (hf : FIN M ((nx, .rows es []) :: setK i (.box row') O) (nx + 1) r Q) : FIN M O nx r Q :=
 FIN.weak (fun η w v H hd => let ⟨η', h1, h2⟩ := H.nilCell hi hr; ⟨η', h1, h2, Den.mono h1 hd⟩) hf
end Go.Sx
namespace Go.Sx
open Go Go.Sort Go.Shelf Go.Proofs Go.Our
def Zh (s : List UInt8) : List SV := [.str s]
theorem Zj (l : List (List UInt8)) : Zo (l.map Zh) = true := ZX _ (fun _ => rfl) l
instance : PlF Zh := ⟨fun _ => rfl⟩
theorem leS (x y : List UInt8) : decide (x ≤ y) = leC cmpL x y := by
 show decide (x ≤ y) = !decide (Lib.compareBytes y x < 0)
 rw [← Vt, Go.Proofs.bytesLess_eq]
 rw [Bool.eq_iff_iff]
 simp [List.not_lt]
theorem Vb (w : World) (blk m : Nat) (d : Array (List UInt8)) (os : Array Obj) : (grow (putRow encStr (Sort.ahead w m) blk 0 d) os).heap = (mapBlock w blk (putCells encStr 0 d)).heap ++ os := by simp [grow, putRow, mapBlock, Sort.ahead]
theorem Z34 (w : World) (blk m : Nat) (d : Array (List UInt8)) (os : Array Obj) : w.heap.size ≤ (grow (putRow encStr (Sort.ahead w m) blk 0 d) os).heap.size := by
 rw [Vb]; simp [mapBlock]
theorem Z1P (w : World) (blk m : Nat) (d : Array (List UInt8)) (os : Array Obj) {g : Nat} (hg : g < w.heap.size) (hne : g ≠ blk) : (grow (putRow encStr (Sort.ahead w m) blk 0 d) os).heap[g]? = w.heap[g]? := by
 rw [Vb, Array.getElem?_append_left (by simpa [mapBlock] using hg)]
 simp only [mapBlock, Array.getElem?_modify]
 rw [if_neg (fun h => hne h.symm)]
theorem Z47 (w : World) (blk m : Nat) (d : Array (List UInt8)) (os : Array Obj) {c : Array Value} {T : TypeId} {fz : Nat × Nat} (h : w.heap[blk]? = some (.cells c T fz)) : (grow (putRow encStr (Sort.ahead w m) blk 0 d) os).heap[blk]? = some (.cells (putCells encStr 0 d c) T fz) := by
 have hlt := (Array.getElem?_eq_some_iff.1 h).1
 rw [Vb, Array.getElem?_append_left (by simpa [mapBlock] using hlt)]
 simp only [mapBlock, Array.getElem?_modify, if_true, h, Option.map_eq_map, Option.map_some, onCells]
theorem Z48 {P : Program} {T : Tab} {ρ : Ren} (L : Lays.n190 P ρ) (ef : ∀ args w, (callFunc (ρ.f 190) args).run P w = .ok (.enter (ρ.f 190) args) w) (l : List (List UInt8)) (hl : l.length < 4611686018427387904) :
   Does P T (ρ.f 190) 1 [.sl (.loc 0) 0 1 l.length none] [(0, .rows 1 (l.map Zh))] [] (fun r O nx => r = .tup [] ∧ O = [(0, .rows 1 ((l.mergeSort (leC cmpL)).map Zh))] ∧ nx = 1) := by
 refine ⟨fun M vs hP hT' hF hS H hd => .inl ⟨ρ.f 190, by rw [hP]; exact ef _ _, ?_⟩⟩
 obtain ⟨P', ⟨T', N', S', ro'⟩, w0, F, η0⟩ := M
 simp only at hP hT' hF hS H hd ⊢
 subst hP hT'
 simp only [DenL] at hd
 obtain ⟨v, us, rfl, hv, rfl⟩ := hd
 have hsat := (H.own.1 0 _ rfl).1
 simp only [HpSat, Env.get] at hsat
 simp only [Den, Env.get] at hv
 have fin : ∀ w' (O' : Hps), FrW w0 w' F → HpSat η0 w' true (.loc 0) (.rows 1 ((l.mergeSort (leC cmpL)).map Zh)) →
     ∃ r O' nx' η', (r = SV.tup [] ∧ O' = [(0, Hp.rows 1 ((l.mergeSort (leC cmpL)).map Zh))] ∧ nx' = 1) ∧ η0 <+: η' ∧ HeapOK ⟨P', ⟨T', N', S', ro'⟩, w0, F, η0⟩ η' w' O' nx' ∧ Den η' r (.tuple #[]) := by
   intro w' O' hfr hs
   refine ⟨_, _, _, η0, ⟨rfl, rfl, rfl⟩, List.prefix_rfl, ⟨H.pre, H.len, ⟨fun i h hi => ?_, fun i j h h' k hi hj hij f f' => ?_⟩, hfr, H.sok⟩, ?_⟩
   · rw [Zf] at hi
     split at hi
     · rename_i e; subst e
       injection hi with hi; subst hi
       refine ⟨hs, fun n f => (H.own.1 0 _ rfl).2 n ?_⟩
       obtain ⟨e, h1, h2⟩ := f
       exact ⟨e, h1, h2⟩
     · simp [lkp] at hi
   · rw [Zf] at hi hj
     split at hi
     · rename_i e; subst e
       split at hj
       · rename_i e2; exact (hij e2.symm).elim
       · simp [lkp] at hj
     · simp [lkp] at hi
   · simp only [Den, DenL]; exact ⟨[], rfl, rfl⟩
 rcases hsat with ⟨hn, hnil⟩ | ⟨e, arr, Tt, fz, he, hheap, hown, hcells⟩
 · have hl0 : l = [] := by simpa using hnil
   subst hl0
   have hv2 : v = .slice none 0 0 := by
     rcases hv with ⟨_, h, _⟩ | ⟨e, o, h, _⟩
     · exact h
     · rw [hn] at h; cases h
   subst hv2
   refine (Any.slices_Sort_string_none L none 0 w0).mono ?_
   rintro e w' ⟨rfl, rfl⟩
   refine ⟨_, rfl, fin _ [] (FrW.refl _ _) ?_⟩
   simp only [HpSat, Env.get]
   exact .inl ⟨hn, by simp⟩
 · obtain ⟨hun, hsz, hle, hb0⟩ := hown trivial
   obtain ⟨hel, hvv⟩ : l.length ≤ e.cap ∧ v = .slice (some ⟨e.g, 0, none⟩) l.length e.cap := by
     rcases hv with ⟨h, _⟩ | ⟨e', o, h, h2, h3, h4, h5⟩
     · rw [he] at h; cases h
     · rw [he] at h; cases h
       simp only [Option.getD_none, Nat.zero_add, Nat.sub_zero] at h2 h3
       have := h5 (.inr trivial)
       rw [hb0] at this
       simp only [Nat.zero_mul, Nat.add_zero] at this
       subst this
       exact ⟨h3, h2⟩
   subst hvv
   have hblk : e.g < w0.heap.size := (Array.getElem?_eq_some_iff.1 hheap).1
   have hsize : l.length ≤ arr.size := by rw [hsz]; omega
   have hcell : ∀ (i : Nat) (x : List UInt8), l[i]? = some x → arr[i]? = some (encStr x) := by
     intro i x hi
     obtain ⟨h1, h2⟩ := hcells i (Zh x) (by rw [List.getElem?_map, hi]; rfl)
     obtain ⟨u, h3, h4, h5⟩ := h2 0 (.str x) rfl
     rw [hb0, Nat.zero_add, Nat.mul_one, Nat.add_zero] at h3
     simp only [Den] at h5
     rw [h3, h5]; try rfl
   have hH : Holds encStr w0 e.g 0 l.toArray := by
     intro t ht
     rw [List.size_toArray] at ht
     have h4 := hcell t l[t] (List.getElem?_eq_getElem ht)
     refine ⟨by rw [Nat.zero_add, Zay hheap, h4]; simp [ht], ?_⟩
     have := hun t (by omega)
     simp only [World.frozen?, hheap, Nat.zero_add]
     simpa using this
   have hFg : F e.g := by
     rcases (H.own.1 0 _ rfl).2 e.g ⟨e, he, .inl rfl⟩ with h | h
     · exact h
     · have h : w0.heap.size ≤ e.g := h
       omega
   have hmain := Any.slices_Sort_string L e.g 0 e.cap l w0 hH hblk hl
   rw [show (fun x y : List UInt8 => decide (x ≤ y)) = leC cmpL from funext fun x => funext fun y => leS x y] at hmain
   refine hmain.mono ?_
   rintro e1 w' ⟨rfl, n, os, rfl⟩
   refine ⟨_, rfl, fin _ [] ?_ ?_⟩
   · refine ⟨rfl, rfl, rfl, ?_, Z34 .., fun b hb hnF => Z1P w0 e.g n _ os hb (fun e => hnF (e ▸ hFg))⟩
     simp [grow, putRow, mapBlock, Sort.ahead]
   · simp only [HpSat, Env.get]
     have hsl : (l.mergeSort (leC cmpL)).length = l.length := List.length_mergeSort l
     refine .inr ⟨e, _, Tt, fz, he, Z47 w0 e.g n _ os hheap, fun _ => ⟨?_, ?_, ?_, hb0⟩, fun i rw1 hi => ?_⟩
     · simp only [putCells, Array.size_mapIdx]; exact hun
     · simp only [putCells, Array.size_mapIdx]; exact hsz
     · rw [List.length_map, hsl]; exact hel
     · rw [List.getElem?_map] at hi
       obtain ⟨x, hx, rfl⟩ := Option.map_eq_some_iff.1 hi
       refine ⟨rfl, fun j sv hj => ?_⟩
       have hil := (List.getElem?_eq_some_iff.1 hx).1
       match j, hj with
       | 0, hj =>
         injection hj with hj; subst hj
         refine ⟨encStr x, ?_, rfl, by simp only [Den]; try rfl⟩
         have hlt : i < arr.size := by omega
         rw [hb0, Nat.zero_add, Nat.mul_one, Nat.add_zero]
         have hxe := (List.getElem?_eq_some_iff.1 hx).2
         have hil' : i < l.length := by omega
         simp only [putCells, Array.getElem?_mapIdx, Array.getElem?_eq_getElem hlt, Option.map_some, Nat.zero_le, true_and, Nat.zero_add, List.size_toArray, hsl, hil', if_true, Nat.sub_zero]
         rw [Array.getElem!_eq_getD, Array.getD_eq_getD_getElem?]
         simp [hx]
end Go.Sx
namespace Go.Our
section
variable {α : Type} {c : α → α → Int}
end
end Go.Our
namespace Go.Sx
open Go
def Z49 : List Nat → Hps → (Hps → Prop) → Prop
 | [], _, K => K []
 | i :: is, O, K => match lkp i O with
   | some h => Z49 is O fun r => K ((i, h) :: r)
   | none => Z49 is O K
def Z6G : Hps → Hps → (Hps → Prop) → Prop
 | [], r, K => K r
 | (i, h) :: l, r, K => Z6G l r fun r => K ((i, h) :: r)
theorem Wb : ∀ {ts : List Nat} {O : Hps} {K : Hps → Prop}, Z49 ts O K → ∃ r, K r
 | [], O, K, h => ⟨_, h⟩
 | t :: ts, O, K, h => by
   simp only [Z49] at h
   split at h
   · obtain ⟨r, hr⟩ := Wb h; exact ⟨_, hr⟩
   · exact Wb h
theorem Z4a : ∀ {l r : Hps} {K : Hps → Prop}, Z6G l r K ↔ K (l ++ r)
 | [], r, K => Iff.rfl
 | (t, v) :: l, r, K => by simp only [Z6G, List.cons_append, Z4a]
theorem Uu {m es : Nat} {rs : List (List SV)} (h : Zo rs = true) : Z3 m (.rows es rs) = true := by simp only [Z3, Z0 _ h]
theorem U7 {m es : Nat} {σ : Nat → Nat} {rs : List (List SV)} (h : Zo rs = true) : Z3 m (renH σ (.rows es rs)) = true := by rw [Y4 _ (h := .rows es rs) h]; exact Uu h
section
variable {M : Mx} {fr : Fr} {O : Hps} {nx : Nat}
theorem LOOP.gok {body : Code} {Q : Post} (hT : TabOK M.P M.C.T) (ks ko : List Nat) {X : Type} (P : X → Prop) (chg : X → Fr) (Ox : X → Hps) (n0 : Nat) (μ : X → Nat) (x0 : X) (hP : P x0)
   (h : Z6u ks fr fun fr0 => Z49 ko O fun O0 => (appK (chg x0) fr0 fun fr' => Z6G (Ox x0) O0 fun O' => GOES M fr O nx fr' O' n0) ∧
     ∀ x, P x → appK (chg x) fr0 fun fr1 => Z6G (Ox x) O0 fun O1 => run M body fr1 O1 n0 fun e fr O nx => match e with
       | .normal => ∃ x', P x' ∧ μ x' < μ x ∧ appK (chg x') fr0 fun fr' => Z6G (Ox x') O0 fun O' => GOES M fr O nx fr' O' n0
       | e => Q e fr O nx) : LOOP M body fr O nx Q := by
 obtain ⟨fr0, h⟩ := Z1b h
 obtain ⟨O0, h1, h2⟩ := Wb h
 simp only [Z2W, Z4a] at h1 h2
 exact LOOP.inv hT P (fun x => (chg x ++ fr0, Ox x ++ O0, n0)) μ x0 hP h1 h2
theorem LOOP.nilCell {body : Code} {Q : Post} (i j es : Nat) {row row' : List SV} (hi : lkp i O = some (.box row)) (hr : Z1g nx es j row = some row') (k : LOOP M body fr ((nx, .rows es []) :: setK i (.box row') O) (nx + 1) Q) : LOOP M body fr O nx Q :=
 LOOP.goes ⟨fun η a w hm => let ⟨η', hp, H⟩ := hm.heap.nilCell hi hr; ⟨η', H, hm.size, hm.nds, hm.defers.mono hp, Un hp hm.ro, fun t v ht => (hm.frame t v ht).mono hp⟩⟩ k
end
end Go.Sx
namespace Go.Our
open Go.Sx
def Zl : List UInt8 → List (List UInt8)
 | [] => [[]]
 | c :: t => if c = 45 then [] :: Zl t else match Zl t with
   | h :: r => (c :: h) :: r
   | [] => [[c]]
theorem Z0i : ∀ s, Zl s ≠ []
 | [] => by simp [Zl]
 | c :: t => by
   unfold Zl
   split
   · simp
   · split <;> simp
theorem Xu : ∀ s : List UInt8, (Zl s).length = s.count 45 + 1
 | [] => rfl
 | c :: t => by
   have ih := Xu t
   unfold Zl
   split
   · rename_i h; subst h; simp [ih]
   · rename_i h
     split
     · rename_i h' r e
       rw [e] at ih
       simp at ih ⊢
       rw [List.count_cons_of_ne (by simpa using h)]; omega
     · rename_i e; exact (Z0i t e).elim
theorem Z2u : ∀ {s : List UInt8}, Lib.indexByte s 45 = -1 → Zl s = [s]
 | [], _ => rfl
 | c :: t, h => by
   unfold Lib.indexByte at h
   by_cases hc : c = 45
   · subst hc; simp at h
   · have hge := Lib.indexByte_ge t 45
     have : Lib.indexByte t 45 = -1 := by
       simp [hc] at h
       apply Classical.byContradiction
       intro hn
       have := h hn
       omega
     unfold Zl
     rw [if_neg hc, Z2u this]
theorem Z2v : ∀ {s : List UInt8} {m : Nat}, Lib.indexByte s 45 = m → m < s.length ∧ Zl s = s.take m :: Zl (s.drop (m + 1))
 | [], m, h => by unfold Lib.indexByte at h; omega
 | c :: t, m, h => by
   unfold Lib.indexByte at h
   by_cases hc : c = 45
   · subst hc
     simp at h
     obtain rfl : m = 0 := by omega
     simp [Zl]
   · have hge := Lib.indexByte_ge t 45
     simp [hc] at h
     split at h
     · omega
     · obtain ⟨k, rfl⟩ : ∃ k, m = k + 1 := ⟨m - 1, by omega⟩
       have ih := Z2v (s := t) (m := k) (by omega)
       refine ⟨by simp; omega, ?_⟩
       conv => lhs; unfold Zl
       rw [if_neg hc, ih.2]
       simp only [List.take_succ_cons, List.drop_succ_cons]
theorem UV (s : List UInt8) : (Zl s).length ≤ s.length + 1 := by
 rw [Xu]; have := List.count_le_length (a := (45 : UInt8)) (l := s); omega
def Z8 (s : List UInt8) : List SV := [.str s]
theorem Z1 (l : List (List UInt8)) : Zo (l.map Z8) = true := ZX _ (fun _ => rfl) l
instance : PlF Z8 := ⟨fun _ => rfl⟩
def Z1w (d : List (List UInt8)) (k : Nat) : List (List SV) := d.map Z8 ++ List.replicate k (Z8 [])
theorem Z4j (d : List (List UInt8)) (k : Nat) : Zo (Z1w d k) = true := by
 unfold Z1w
 refine Jy (Z1 d) ?_
 induction k with
 | zero => rfl
 | succ k ih => rw [List.replicate_succ]; simp only [Zo, ih]; rfl
theorem Z66 {d : List (List UInt8)} {k i : Nat} (h : i = d.length) (hk : 0 < k) : (Z1w d k)[i]? = some (Z8 []) := by
 subst h
 unfold Z1w
 rw [List.getElem?_append_right (by simp)]
 simp [List.getElem?_replicate, hk]
theorem Z67 {d : List (List UInt8)} {k i : Nat} {p : List UInt8} (h : i = d.length) (hk : 0 < k) : (Z1w d k).set i [.str p] = Z1w (d ++ [p]) (k - 1) := by
 subst h
 obtain ⟨j, rfl⟩ : ∃ j, k = j + 1 := ⟨k - 1, by omega⟩
 unfold Z1w
 rw [List.set_append_right _ _ (by simp)]
 simp [List.replicate_succ, Z8]
def YJ (s : List UInt8) : Bool := Zv s 1 1 false && !ZH s
def ZC (p : List UInt8 → Bool) : List (List UInt8) → Nat
 | [] => 0
 | s :: l => if p s = true then ZC p l + 1 else 0
theorem JC (p : List UInt8 → Bool) : ∀ l, ZC p l ≤ l.length
 | [] => by simp [ZC]
 | s :: l => by
   have := JC p l
   unfold ZC; split <;> simp <;> omega
abbrev Yc (least : Int) : List UInt8 → Bool := fun s => Zv s least 8 false
def extP : Nat → List (List UInt8) → List (List UInt8)
 | 0, l => l
 | _ + 1, [] => []
 | n + 1, s :: l => if Zv s 3 3 true = true then extP n l else s :: l
def XM : List (List UInt8) → Option (List (List UInt8))
 | [] => none
 | s :: l => if Zv s 2 8 true = true then (if 3 < s.length then some l else some (extP 3 l)) else none
def Xi (p : List UInt8 → Bool) : List (List UInt8) → List (List UInt8)
 | [] => []
 | s :: l => if p s = true then l else s :: l
def Yf (seen : List (List UInt8)) : List (List UInt8) → Option (List (List UInt8) × List (List UInt8))
 | [] => some ([], seen)
 | s :: l => if Xx s = true then (if Za s ∈ seen then none else Yf (seen ++ [Za s]) l) else some (s :: l, seen)
def ZI (seen : List (List UInt8)) : List (List UInt8) → Option (List (List UInt8))
 | [] => some []
 | s :: l => if YJ s = true then
       (if ZC (Yc 2) l = 0 ∨ Za s ∈ seen then none else ZI (seen ++ [Za s]) (l.drop (ZC (Yc 2) l)))
     else some (s :: l)
termination_by l => l.length
decreasing_by simp; omega
def YK (l : List (List UInt8)) : Option (List (List UInt8)) :=
 match Yf [] (Xi YD (Xi (fun s => Zv s 4 4 true) l)) with
 | none => none
 | some (l, seen) => ZI seen l
def Z2w (p : List UInt8 → Bool) : List (List UInt8) → Bool
 | [] => false
 | s :: _ => p s
def JD : List (List UInt8) → Bool
 | [] => true
 | s :: l => if ZH s = true then decide (ZC (Yc 1) l ≠ 0 ∧ ZC (Yc 1) l = l.length) else false
def tagP (l : List (List UInt8)) : Bool :=
 if Z2w ZH l = true then JD l else
 match XM l with
 | none => false
 | some l => match YK l with
   | none => false
   | some l => JD l
theorem Wg : ∀ s : List UInt8, ((Zl s).map List.length).sum + (Zl s).length = s.length + 1
 | [] => rfl
 | c :: t => by
   have ih := Wg t
   have hne := Z0i t
   unfold Zl
   split
   · simp only [List.map_cons, List.sum_cons, List.length_cons, List.length_nil]; omega
   · split
     · rename_i h r e
       rw [e] at ih
       simp only [List.map_cons, List.sum_cons, List.length_cons] at ih ⊢; omega
     · rename_i e; exact (hne e).elim
theorem Z4k : ∀ (u : List UInt8) (n : Nat), (∀ c ∈ u.take n, c ≠ 45) → u[n]? = some 45 → Zl u = u.take n :: Zl (u.drop (n + 1))
 | [], n, _, h => by simp at h
 | c :: t, 0, _, h => by
   have h : c = 45 := by simpa using h
   subst h
   conv => lhs; unfold Zl
   rw [if_pos rfl]; rfl
 | c :: t, n + 1, h, h2 => by
   have hc : c ≠ 45 := h c (by simp)
   have ih := Z4k t n (fun d hd => h d (by simp [hd])) (by simpa using h2)
   conv => lhs; unfold Zl
   rw [if_neg hc, ih]; rfl
theorem Z4l : ∀ (u : List UInt8), (∀ c ∈ u, c ≠ 45) → Zl u = [u]
 | [], _ => rfl
 | c :: t, h => by
   have hc : c ≠ 45 := h c (by simp)
   have ih := Z4l t (fun d hd => h d (by simp [hd]))
   unfold Zl
   rw [if_neg hc, ih]
theorem Z6L : J8 true = J7 := by funext c; simp [J8]
def Wh (least most : Int) (digits : Bool) (s : List UInt8) : Bool := decide (least ≤ s.length ∧ (s.length : Int) ≤ most) && (if digits = true then allB YX s 0 else allB J7 s 0)
theorem Xd (least most : Int) (s : List UInt8) : Wh least most false s = Zv s least most true := by
 unfold Wh Zv; rw [Z6L, Bool.and_comm]; rfl
theorem Z6M {s : List UInt8} (h : s.length = 3) : allB YX s 0 = (YX (Z7 s 0) && YX (Z7 s 1) && YX (Z7 s 2)) := by
 rw [XL (by omega), XL (by omega), XL (by omega), VW (by omega), Bool.and_true, Bool.and_assoc]; rfl
theorem Xv (s : List UInt8) : YD s = (Wh 2 2 false s || Wh 3 3 true s) := by
 unfold YD
 rw [Xd]
 congr 1
 unfold Wh
 by_cases h : s.length = 3
 · rw [if_pos rfl, Z6M h]; simp [h, Bool.and_assoc]
 · have : decide ((3 : Int) ≤ s.length ∧ (s.length : Int) ≤ 3) = false := decide_eq_false (by omega)
   rw [this]; simp [h]
theorem Z1x (s : List UInt8) : Zv s 2 8 true = (Wh 2 3 false s || Wh 4 8 false s) := by
 rw [Xd, Xd]; unfold Zv
 cases allB (J8 true) s 0
 · simp
 · simp only [Bool.true_and]
   rw [Bool.eq_iff_iff]; simp; omega
theorem Yr (s : List UInt8) : ZH s = (Za s == [120]) := by
 unfold ZH Za
 rcases s with _ | ⟨a, _ | ⟨b, t⟩⟩
 · rfl
 · rw [Bool.eq_iff_iff]
   simp only [Bool.or_eq_true, beq_iff_eq, List.map_cons, List.map_nil, List.cons.injEq, and_true]
   unfold lowB
   constructor
   · rintro (rfl | rfl) <;> rfl
   · intro h
     split at h
     · rename_i h1
       right
       have h2 := congrArg UInt8.toNat h
       rw [UInt8.toNat_ofNat_of_lt' (by show a.toNat + 32 < 256; omega)] at h2
       have : a.toNat = 88 := by simpa using h2
       exact UInt8.toNat_inj.1 (by simpa using this)
     · exact .inl h
 · simp
def Y0 : List UInt8 := [104, 116, 116, 112, 58, 47, 47, 119, 119, 119, 46, 119, 51, 46, 111, 114, 103, 47, 49, 57, 57, 57, 47, 48, 50, 47, 50, 50, 45, 114, 100, 102, 45, 115, 121, 110, 116, 97, 120, 45, 110, 115, 35, 108, 97, 110, 103, 83, 116, 114, 105, 110, 103]
def litM (t y l : List UInt8) : Int :=
 if 65536 < t.length then 2 else if 0 ≤ chk t 0 then 40 else if iriM y ≠ 0 then iriM y else
 if l ≠ [] ∧ 65536 < l.length then 2 else if l ≠ [] ∧ (¬ tagP (Zl l) = true ∨ Za l ≠ l) then 61 else
 if (l ≠ [] ∧ ¬ y = Y0) ∨ (l = [] ∧ y = Y0) then 71 else 0
def JT (x : Tm) : Int :=
 if x.k = 1 ∨ x.k = 2 then (if x.y ≠ [] ∨ x.l ≠ [] then 70 else if x.k = 1 then iriM x.t else if 65536 < x.t.length then 2 else Z2s x.t)
 else if x.k = 3 then litM x.t x.y x.l else 70
def VA (q : Qd) : Int :=
 if ¬ (q.s.k = 1 ∨ q.s.k = 2) then 70 else if JT q.s ≠ 0 then JT q.s else
 if ¬ q.p.k = 1 then 70 else if JT q.p ≠ 0 then JT q.p else
 if JT q.o ≠ 0 then JT q.o else
 if q.g = ZW then 0 else if ¬ (q.g.k = 1 ∨ q.g.k = 2) then 70 else JT q.g
theorem Z5d {x : Tm} (h : ¬ (x.k = 1 ∨ x.k = 2 ∨ x.k = 3)) : JT x = 70 := by
 unfold JT
 rw [if_neg (by omega), if_neg (by omega)]
theorem Z6N {c : UInt8} (h : 65 ≤ c.toNat ∧ c.toNat ≤ 90) : lowB c ≠ c := by
 unfold lowB
 rw [if_pos h]
 intro he
 have := congrArg UInt8.toNat he
 rw [UInt8.toNat_ofNat_of_lt' (by show c.toNat + 32 < 256; omega)] at this
 omega
theorem Z68 {s : List UInt8} {i : Nat} (h : i < s.length) : (Za s)[i]? = some (lowB s[i]) := by
 unfold Za; rw [List.getElem?_map, List.getElem?_eq_getElem h]; rfl
theorem Z9r {s : List UInt8} {i : Nat} (h : i < s.length) (hu : 65 ≤ Z7 s i ∧ Z7 s i ≤ 90) : Za s ≠ s := by
 intro he
 have h1 := Z68 h
 rw [he, List.getElem?_eq_getElem h] at h1
 have hb : Z7 s i = (s[i].toNat : Int) := by unfold Z7; rw [Int.toNat_natCast, List.getD, List.getElem?_eq_getElem h]; rfl
 exact Z6N (by omega) (Option.some.inj h1).symm
theorem Z6O {s : List UInt8} (hu : ∀ i : Nat, i < s.length → ¬ (65 ≤ Z7 s i ∧ Z7 s i ≤ 90)) : Za s = s := by
 apply List.ext_getElem?
 intro i
 by_cases h : i < s.length
 · rw [Z68 h, List.getElem?_eq_getElem h]
   have hb : Z7 s i = (s[i].toNat : Int) := by unfold Z7; rw [Int.toNat_natCast, List.getD, List.getElem?_eq_getElem h]; rfl
   have := hu i h
   rw [Z5c (by omega)]
 · rw [List.getElem?_eq_none (by unfold Za; simp; omega), List.getElem?_eq_none (by omega)]
def badM (l : List Qd) (i : Nat) : Option (Nat × Int) := if h : i < l.length then (if VA l[i] ≠ 0 then some (i, VA l[i]) else badM l (i + 1)) else none
termination_by l.length - i
theorem Z8o {l : List Qd} {i : Nat} (h : l.length ≤ i) : badM l i = none := by unfold badM; rw [dif_neg (by omega)]
theorem Za1 {l : List Qd} {i : Nat} (h : i < l.length) : badM l i = if VA l[i] ≠ 0 then some (i, VA l[i]) else badM l (i + 1) := by
 conv => lhs; unfold badM
 rw [dif_pos h]
def Z1y (l : List Qd) (i : Nat) : Option Nat := if h : i < l.length then (if 0 ≤ Z4X (l[i - 1]'(by omega)) l[i] then some i else Z1y l (i + 1)) else none
termination_by l.length - i
theorem Z69 {l : List Qd} {i : Nat} (h : l.length ≤ i) : Z1y l i = none := by unfold Z1y; rw [dif_neg (by omega)]
theorem Z8p {l : List Qd} {i : Nat} (h : i < l.length) : Z1y l i = if 0 ≤ Z4X (l[i - 1]'(by omega)) l[i] then some i else Z1y l (i + 1) := by
 conv => lhs; unfold Z1y
 rw [dif_pos h]
def J9 (l : List Qd) : Nat × Int :=
 if 1048576 < l.length then (0, 2) else match badM l 0 with
 | some x => x
 | none => match Z1y l 1 with
   | some i => (i, 6)
   | none => (0, 0)
def typB : List UInt8 := [104, 116, 116, 112, 58, 47, 47, 119, 119, 119, 46, 119, 51, 46, 111, 114, 103, 47, 49, 57, 57, 57, 47, 48, 50, 47, 50, 50, 45, 114, 100, 102, 45, 115, 121, 110, 116, 97, 120, 45, 110, 115, 35, 116, 121, 112, 101]
def domB : List UInt8 := [104, 116, 116, 112, 58, 47, 47, 119, 119, 119, 46, 119, 51, 46, 111, 114, 103, 47, 50, 48, 48, 48, 47, 48, 49, 47, 114, 100, 102, 45, 115, 99, 104, 101, 109, 97, 35, 100, 111, 109, 97, 105, 110]
def ranB : List UInt8 := [104, 116, 116, 112, 58, 47, 47, 119, 119, 119, 46, 119, 51, 46, 111, 114, 103, 47, 50, 48, 48, 48, 47, 48, 49, 47, 114, 100, 102, 45, 115, 99, 104, 101, 109, 97, 35, 114, 97, 110, 103, 101]
def subP : List UInt8 := [104, 116, 116, 112, 58, 47, 47, 119, 119, 119, 46, 119, 51, 46, 111, 114, 103, 47, 50, 48, 48, 48, 47, 48, 49, 47, 114, 100, 102, 45, 115, 99, 104, 101, 109, 97, 35, 115, 117, 98, 80, 114, 111, 112, 101, 114, 116, 121, 79, 102]
def subC : List UInt8 := [104, 116, 116, 112, 58, 47, 47, 119, 119, 119, 46, 119, 51, 46, 111, 114, 103, 47, 50, 48, 48, 48, 47, 48, 49, 47, 114, 100, 102, 45, 115, 99, 104, 101, 109, 97, 35, 115, 117, 98, 67, 108, 97, 115, 115, 79, 102]
abbrev iriT (s : List UInt8) : Tm := ⟨1, s, [], []⟩
abbrev dr2 (a b : Qd) : Qd × Bool := (⟨b.s, iriT typB, a.o, a.g⟩, decide (a.p = iriT domB ∧ a.s = b.p))
abbrev dr3 (a b : Qd) : Qd × Bool := (⟨b.o, iriT typB, a.o, a.g⟩, decide (a.p = iriT ranB ∧ a.s = b.p))
abbrev chn (s : List UInt8) (a b : Qd) : Qd × Bool := (⟨a.s, a.p, b.o, a.g⟩, decide (a.p = iriT s ∧ b.p = a.p ∧ a.o = b.s))
abbrev dr7 (a b : Qd) : Qd × Bool := (⟨b.s, a.o, b.o, a.g⟩, decide (a.p = iriT subP ∧ a.s = b.p))
abbrev dr9 (a b : Qd) : Qd × Bool := (⟨b.s, iriT typB, a.o, a.g⟩, decide (a.p = iriT subC ∧ b.p = iriT typB ∧ b.o = a.s))
def Z8A (n : Int) (a b : Qd) : Qd × Bool :=
 if n = 2 then dr2 a b else if n = 3 then dr3 a b else if n = 5 then chn subP a b else if n = 7 then dr7 a b else if n = 9 then dr9 a b else if n = 11 then chn subC a b else (Z2o, false)
def Z1Z (n : Int) (a b : Qd) : Qd × Bool :=
 if VA a = 0 ∧ VA b = 0 ∧ a.g = b.g ∧ (Z8A n a b).2 = true ∧ VA (Z8A n a b).1 = 0 then ((Z8A n a b).1, true) else (Z2o, false)
structure St where
 r : Int
 a : Qd
 b : Qd
 q : Qd
 deriving DecidableEq
def St.row (s : St) : List SV := [.int .i64 s.r,
 .int .i64 s.a.s.k, .str s.a.s.t, .str s.a.s.y, .str s.a.s.l, .int .i64 s.a.p.k, .str s.a.p.t, .str s.a.p.y, .str s.a.p.l, .int .i64 s.a.o.k, .str s.a.o.t, .str s.a.o.y, .str s.a.o.l, .int .i64 s.a.g.k, .str s.a.g.t, .str s.a.g.y, .str s.a.g.l,
 .int .i64 s.b.s.k, .str s.b.s.t, .str s.b.s.y, .str s.b.s.l, .int .i64 s.b.p.k, .str s.b.p.t, .str s.b.p.y, .str s.b.p.l, .int .i64 s.b.o.k, .str s.b.o.t, .str s.b.o.y, .str s.b.o.l, .int .i64 s.b.g.k, .str s.b.g.t, .str s.b.g.y, .str s.b.g.l,
 .int .i64 s.q.s.k, .str s.q.s.t, .str s.q.s.y, .str s.q.s.l, .int .i64 s.q.p.k, .str s.q.p.t, .str s.q.p.y, .str s.q.p.l, .int .i64 s.q.o.k, .str s.q.o.t, .str s.q.o.y, .str s.q.o.l, .int .i64 s.q.g.k, .str s.q.g.t, .str s.q.g.y, .str s.q.g.l]
abbrev ZbI (s : St) : List SV := s.row
instance : PlF ZbI := ⟨fun _ => rfl⟩
structure Wd where
 all : List Qd
 why : List St
 place : List (Qd × Int)
 at' : List (Qd × List Qd)
def Zbq (q : Qd) : Qd := ⟨q.g, ZW, q.p, ZW⟩
def Zbr (q : Qd) : Qd := ⟨q.g, q.s, q.p, ZW⟩
def Zbs (q : Qd) : Qd := ⟨q.g, ZW, q.p, q.o⟩
def atL (k : Qd) (l : List (Qd × List Qd)) : List Qd := (getA k l).getD []
def Z6Z (k q : Qd) (l : List (Qd × List Qd)) : List (Qd × List Qd) := setA k (atL k l ++ [q]) l
def putM (w : Wd) (s : St) : Wd :=
 if (getA s.q w.place).isSome then w else ⟨w.all ++ [s.q], w.why ++ [s], setA s.q (w.all.length : Int) w.place, Z6Z (Zbs s.q) s.q (Z6Z (Zbr s.q) s.q (Z6Z (Zbq s.q) s.q w.at'))⟩
def Zbt : Wd := ⟨[], [], [], []⟩
def Zbu (q : Qd) : St := ⟨0, Z2o, Z2o, q⟩
def Zbv (l : List Qd) : Wd := l.foldl (fun w q => putM w (Zbu q)) Zbt
abbrev intV (n : Int) : SV := .int .i64 n
abbrev qdsV (l : List Qd) : List (List SV) := l.map ZA
abbrev Za3 (l : List (Qd × Int)) : List (List SV) := Z01 KQ intV l
abbrev atR (l : List (Qd × List Qd)) : List (List DC) := Z2p KQ 16 qdsV l
theorem Z70 (l : List (Qd × Int)) : Zo (Za3 l) = true := Z80 KQ _ (fun _ => rfl) l
instance {l : List (Qd × Int)} : Pl (Za3 l) := ⟨Z70 l⟩
theorem ZaK (l : List (Qd × List Qd)) : Xw (atR l) = true := Z5V KQ 16 _ (fun b => ZX _ (fun _ => rfl) b) l
instance {l : List (Qd × List Qd)} : PlD (atR l) := ⟨ZaK l⟩
theorem ZaL (k q k' : Qd) (m : List (Qd × List Qd)) : atL k' (Z6Z k q m) = if k' = k then atL k m ++ [q] else atL k' m := by
 unfold Z6Z atL
 rw [Va]
 split <;> rfl
def Z9w (i : Nat) (q : Qd) : Qd := match i with | 0 => Zbq q | 1 => Zbr q | _ => Zbs q
def atN (q : Qd) (l : List (Qd × List Qd)) : Nat → List (Qd × List Qd)
 | 0 => l
 | i + 1 => Z6Z (Z9w i q) q (atN q l i)
structure WdOK (w : Wd) : Prop where
 len : w.why.length = w.all.length
 mem : ∀ q, q ∈ w.all ↔ (getA q w.place).isSome = true
 at3 : ∀ k, (atL k w.at').length ≤ 3 * w.all.length
theorem ZaM {w : Wd} {s : St} (h : (getA s.q w.place).isSome = true) : putM w s = w := by unfold putM; rw [if_pos h]
theorem Zbw {w : Wd} {s : St} (h : getA s.q w.place = none) : putM w s = ⟨w.all ++ [s.q], w.why ++ [s], setA s.q (w.all.length : Int) w.place, atN s.q w.at' 3⟩ := by unfold putM; rw [h]; rfl
inductive Der (l : List Qd) : Qd → Prop
 | base {q : Qd} (h : q ∈ l) : Der l q
 | step {n : Int} {a b : Qd} (ha : Der l a) (hb : Der l b) (h : (Z1Z n a b).2 = true) : Der l (Z1Z n a b).1
def ZbJ (first : Bool) (q o : Qd) (n : Int) : Option St :=
 let a := if first then q else o
 let b := if first then o else q
 if (Z1Z n a b).2 then some ⟨n, a, b, (Z1Z n a b).1⟩ else none
def ZbK (first : Bool) (q : Qd) (others : List Qd) (ns : List Int) : List St := others.flatMap fun o => ns.filterMap (ZbJ first q o)
def Zbx {σ : Type} (T : σ → St → σ × Bool) : List St → σ → σ × Bool
 | [], s => (s, true)
 | c :: cs, s => if (T s c).2 then Zbx T cs (T s c).1 else ((T s c).1, false)
abbrev Ask := Bool × Qd × List Int
def asks (q : Qd) : List Ask := [(true, ⟨q.g, ZW, q.s, ZW⟩, [2, 3, 7]), (true, ⟨q.g, q.o, q.p, ZW⟩, [5, 11]), (true, ⟨q.g, ZW, iriT typB, q.s⟩, [9]),
 (false, ⟨q.g, q.p, iriT domB, ZW⟩, [2]), (false, ⟨q.g, q.p, iriT ranB, ZW⟩, [3]), (false, ⟨q.g, q.p, iriT subP, ZW⟩, [7]),
 (false, ⟨q.g, ZW, q.p, q.s⟩, [5, 11]), (false, ⟨q.g, q.o, iriT subC, ZW⟩, [9])]
def askM {σ : Type} (T : σ → St → σ × Bool) (rd : σ → List (Qd × List Qd)) (q : Qd) (a : Ask) (s : σ) : σ × Bool := Zbx T (ZbK a.1 q (atL a.2.1 (rd s)) a.2.2) s
def askL {σ : Type} (T : σ → St → σ × Bool) (rd : σ → List (Qd × List Qd)) (q : Qd) : List Ask → σ → σ × Bool
 | [], s => (s, true)
 | a :: as', s => if (askM T rd q a s).2 then askL T rd q as' (askM T rd q a s).1 else ((askM T rd q a s).1, false)
structure AtOK (w : Wd) : Prop where
 sub : ∀ k o, o ∈ atL k w.at' → o ∈ w.all
 all : ∀ o ∈ w.all, ∀ k, k < 3 → o ∈ atL (Z9w k o) w.at'
 nodup : w.all.Nodup
theorem Z8B (q : Qd) (m : List (Qd × List Qd)) (k o : Qd) : ∀ i, o ∈ atL k (atN q m i) ↔ o ∈ atL k m ∨ (o = q ∧ ∃ j, j < i ∧ k = Z9w j q)
 | 0 => by simp [atN]
 | i + 1 => by
   unfold atN
   rw [ZaL]
   have ih := fun k => Z8B q m k o i
   by_cases e : k = Z9w i q
   · subst e
     rw [if_pos rfl, List.mem_append, ih, List.mem_singleton]
     constructor
     · rintro ((h | ⟨h1, j, h2, h3⟩) | rfl)
       · exact .inl h
       · exact .inr ⟨h1, j, by omega, h3⟩
       · exact .inr ⟨rfl, i, by omega, rfl⟩
     · rintro (h | ⟨h1, j, h2, h3⟩)
       · exact .inl (.inl h)
       · exact .inr h1
   · rw [if_neg e, ih]
     constructor
     · rintro (h | ⟨h1, j, h2, h3⟩)
       · exact .inl h
       · exact .inr ⟨h1, j, by omega, h3⟩
     · rintro (h | ⟨h1, j, h2, h3⟩)
       · exact .inl h
       · refine .inr ⟨h1, j, ?_, h3⟩
         rcases Nat.lt_or_eq_of_le (Nat.le_of_lt_succ h2) with h | rfl
         · exact h
         · exact (e h3).elim
def ZaN (most : Int) (w : Wd) (s : St) : Wd × Bool := (putM w s, decide (((putM w s).all.length : Int) ≤ most))
def SOK (known : List Qd) (s : St) : Prop := s.a ∈ known ∧ s.b ∈ known ∧ (Z1Z s.r s.a s.b).2 = true ∧ (Z1Z s.r s.a s.b).1 = s.q
theorem SOK.mono {k k' : List Qd} {s : St} (h : SOK k s) (hs : ∀ q ∈ k, q ∈ k') : SOK k' s := ⟨hs _ h.1, hs _ h.2.1, h.2.2⟩
structure WhyI (l : List Qd) (w : Wd) : Prop where
 here : ∀ (i : Nat) q, w.all[i]? = some q → getA q w.place = some (i : Int)
 why : ∀ (i : Nat) s, w.why[i]? = some s → w.all[i]? = some s.q ∧ (s.q ∈ l ∨ SOK (w.all.take i) s)
structure CInv (l : List Qd) (w : Wd) : Prop where
 ok : WdOK w
 spots : AtOK w
 sub : ∀ q ∈ l, q ∈ w.all
 der : ∀ q ∈ w.all, Der l q
 why : WhyI l w
 pre : (Zbv l).all <+: w.all
theorem Z7s (w : Wd) (s : St) (k o : Qd) (h : o ∈ atL k w.at') : o ∈ atL k (putM w s).at' := by
 cases hg : getA s.q w.place with
 | some v => rw [ZaM (by rw [hg]; rfl)]; exact h
 | none => rw [Zbw hg]; exact (Z8B s.q w.at' k o 3).2 (.inl h)
structure Grown (l : List Qd) (most : Int) (w : Wd) (r : Wd × Bool) : Prop where
 inv : CInv l r.1
 pre : w.all <+: r.1.all
 spots : ∀ k o, o ∈ atL k w.at' → o ∈ atL k r.1.at'
 less : r.2 = false → most < (r.1.all.length : Int)
 upto : (w.all.length : Int) ≤ most → (r.1.all.length : Int) ≤ most + 1
 yes : r.2 = true → (w.all.length : Int) ≤ most → (r.1.all.length : Int) ≤ most
theorem Grown.refl {l : List Qd} {most : Int} {w : Wd} (h : CInv l w) : Grown l most w (w, true) := ⟨h, List.prefix_rfl, fun _ _ h => h, (fun h => by cases h), (fun h => by show (w.all.length : Int) ≤ most + 1; omega), fun _ h => h⟩
def ZbL (most : Int) (q : Qd) (w : Wd) : Wd × Bool := askL (ZaN most) Wd.at' q (asks q) w
def runW (most : Int) (w : Wd) : Nat → Wd
 | 0 => w
 | i + 1 => match (runW most w i).all[i]? with
   | some q => (ZbL most q (runW most w i)).1
   | none => runW most w i
abbrev More (most : Int) (i : Nat) (w : Wd) : Prop := i < w.all.length ∧ (w.all.length : Int) ≤ most
def ZbM (most : Int) (w : Wd) (n : Nat) (v : Wd) : Prop := v = runW most w n ∧ ∀ j, j < n → More most j (runW most w j)
theorem X3 (most : Int) (w : Wd) : ZbM most w 0 w := ⟨rfl, fun j h => by omega⟩
structure DrIn (l out : List Qd) : Prop where
 nodup : out.Nodup
 new : ∀ r ∈ out, r ∉ l
 drawn : ∀ r ∈ out, ∃ n a b, a ∈ l ∧ b ∈ l ∧ (Z1Z n a b).2 = true ∧ r = (Z1Z n a b).1
structure DrawsOf (l out : List Qd) : Prop extends DrIn l out where
 all : ∀ a ∈ l, ∀ b ∈ l, ∀ n, (Z1Z n a b).2 = true → (Z1Z n a b).1 ∈ l ++ out
def ObIn (base l : List Qd) : Prop := ∀ q ∈ l, ∃ t ∈ base, q.o = t.o
structure RInv (l m : List Qd) : Prop where
 rise : Rise Z4X m
 sub : ∀ q ∈ l, q ∈ m
 der : ∀ q ∈ m, Der l q
 ob : ObIn l m
end Go.Our
set_option maxRecDepth 20000
namespace Go.Our
open Go.Sx
end Go.Our
namespace Go.Sx
open Go
structure GHO (M : Mx) (O : Hps) (nx : Nat) (O1 : Hps) (n1 : Nat) : Prop where
 out : ∀ η w, HeapOK M η w O nx → ∃ η', η <+: η' ∧ HeapOK M η' w O1 n1
section
variable {M : Mx} {fr : Fr} {O O1 O2 : Hps} {nx n1 n2 : Nat}
theorem GHO.refl : GHO M O nx O nx := ⟨fun η w H => ⟨η, List.prefix_rfl, H⟩⟩
theorem GHO.trans (h : GHO M O nx O1 n1) (k : GHO M O1 n1 O2 n2) : GHO M O nx O2 n2 :=
 ⟨fun η w H => let ⟨η1, p1, H1⟩ := h.out η w H; let ⟨η2, p2, H2⟩ := k.out η1 w H1; ⟨η2, p1.trans p2, H2⟩⟩
theorem GHO.goes (h : GHO M O nx O1 n1) : GOES M fr O nx fr O1 n1 :=
 ⟨fun η a w hm => let ⟨η', hp, H⟩ := h.out η w hm.heap; ⟨η', H, hm.size, hm.nds, hm.defers.mono hp, Un hp hm.ro, fun t v ht => (hm.frame t v ht).mono hp⟩⟩
theorem GHO.loop {body : Code} {Q : Post} (h : GHO M O nx O1 n1) (k : LOOP M body fr O1 n1 Q) : LOOP M body fr O nx Q := LOOP.goes h.goes k
theorem GHO.call {f : FuncId} {args : List SV} {K : SV → Hps → Nat → Prop} (h : GHO M O nx O1 n1) (k : CALL M f args O1 n1 K) : CALL M f args O nx K := CALL.weak h.out k
theorem GHO.drawn {id : Nat} {ops : Array Oper} {Q : Post} (h : GHO M O nx O1 n1) (k : DRAWN M id ops fr O1 n1 Q) : DRAWN M id ops fr O nx Q :=
 ⟨fun η a w hm => let ⟨η1, h1⟩ := (h.goes (fr := fr)).out η a w hm; k.out η1 a w h1⟩
theorem GHO.fin {r : SV} {Q : SV → Hps → Nat → Prop} (h : GHO M O nx O1 n1) (k : FIN M O1 n1 r Q) : FIN M O nx r Q :=
 ⟨fun η w v H hd => let ⟨η1, p1, H1⟩ := h.out η w H; k.out η1 w v H1 (hd.mono p1)⟩
theorem GHO.nilCell (i j es : Nat) {row row' : List SV} (hi : lkp i O = some (.box row)) (hr : Z1g nx es j row = some row') : GHO M O nx ((nx, .rows es []) :: setK i (.box row') O) (nx + 1) := ⟨fun η w H => H.nilCell hi hr⟩
theorem GHO.putk (i r c k : Nat) {mp : Bool} {es es' n : Nat} {rs : List (List DC)} {row : List DC} {rows : List (List SV)} (hi : lkp i O = some (.deep mp es rs)) (hr : rs[r]? = some row) (hc : row[c]? = some (.v (.sl (.loc k) 0 es' n none)))
   (hk : lkp k O = some (.rows es' rows)) (hn : n ≤ rows.length) (hki : k ≠ i) : GHO M O nx (delK k (setK i (.deep mp es (setC rs r c (.kid es' (rows.take n)))) O)) nx := ⟨fun η w H => ⟨η, List.prefix_rfl, H.putk hi hr hc hk hn hki⟩⟩
end
end Go.Sx
namespace Go.Proofs.YtbfbokdccdagkaaGreatDoor
open Go.Sx Go.Our
def Vj (p : Pr) : List SV := [.str p.1, .str p.2]
instance : PlF Vj := ⟨fun _ => rfl⟩
end Go.Proofs.YtbfbokdccdagkaaGreatDoor
