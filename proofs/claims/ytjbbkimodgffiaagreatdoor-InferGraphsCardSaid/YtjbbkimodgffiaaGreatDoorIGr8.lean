/- Part 8: SxDrawn, SxDrawnS, SxDrawnT, SxAuto3, SxFast, Asks, CmpM, MapG, SplitM, TagM, TermM, InferM, WorldM, SxRange, SxKeep, SxKids, SetM, SetN, CloseM, DrawsM, Sort, ValidM, SetO, ClosR, LeastM, ListM, GraphM. Conditions: as each part says. -/
import Derived.Lib.Bytealg
import Derived.Lib.Strings
import Derived.RangeFuncNested
import Derived.Shelf.SlSortCmp.NoneTotal
import Derived.Test.YtjbbkimodgffiaaGreatDoorIGr4
import Derived.Test.YtjbbkimodgffiaaGreatDoorIGr7
set_option linter.unusedVariables false
set_option linter.unusedSimpArgs false
namespace Go.Sx
open Go
def Det (v : SV) : Prop := ∀ η u u', Den η v u → Den η v u' → u = u'
def DetL (vs : List SV) : Prop := ∀ η us us', DenL η vs us → DenL η vs us' → us = us'
mutual
def detV : SV → Bool
 | .bool _ | .int _ _ | .str _ | .ptr _ _ _ _ | .val _ | .mp _ | .yf _ => true
 | .dfs _ => false
 | .sl _ r _ _ _ => Nat.beq r 0
 | .agg cs => Z1l cs
 | .tup vs => Z1l vs
 | .ifc _ v => detV v
 | .fn _ a b => Z1l a && Z1l b
 | .arr _ _ => false
 | .any => false
 | .nb _ => false
def Z1l : List SV → Bool
 | [] => true
 | c :: cs => detV c && Z1l cs
end
mutual
theorem Det.of : ∀ {v : SV}, detV v = true → Det v
 | .bool _, _ => fun η u u' h h' => by simp only [Den] at h h'; rw [h, h']
 | .int _ _, _ => fun η u u' h h' => by simp only [Den] at h h'; rw [h, h']
 | .str _, _ => fun η u u' h h' => by simp only [Den] at h h'; rw [h, h']
 | .val _, _ => fun η u u' h h' => by simp only [Den] at h h'; rw [h.1, h'.1]
 | .mp b, _ => fun η u u' h h' => by
   simp only [Den] at h h'
   obtain ⟨e, h1, rfl⟩ := h
   obtain ⟨e', h2, rfl⟩ := h'
   rw [h1] at h2; injection h2 with h2; injection h2 with h2; rw [h2]
 | .ptr b r es c, _ => fun η u u' h h' => by
   simp only [Den] at h h'
   obtain ⟨e, h1, rfl⟩ := h
   obtain ⟨e', h2, rfl⟩ := h'
   rw [h1] at h2; injection h2 with h2; injection h2 with h2; rw [h2]
 | .sl b r es len lim, hd => fun η u u' h h' => by
   simp only [detV] at hd
   have hd := beq_eq hd
   simp only [Den] at h h'
   rcases h with ⟨h1, rfl, _⟩ | ⟨e, o, h1, rfl, _, _, h2⟩
   · rcases h' with ⟨h1', rfl, _⟩ | ⟨e', o', h1', rfl, _, _, h2'⟩
     · rfl
     · rw [h1] at h1'; cases h1'
   · rcases h' with ⟨h1', rfl, _⟩ | ⟨e', o', h1', rfl, _, _, h2'⟩
     · rw [h1] at h1'; cases h1'
     · rw [h1] at h1'; injection h1' with h1'; injection h1' with h1'; subst h1'
       rw [h2 (.inr hd), h2' (.inr hd)]
 | .agg cs, hd => fun η u u' h h' => by
   simp only [detV] at hd
   simp only [Den] at h h'
   obtain ⟨us, rfl, h1, _⟩ := h
   obtain ⟨us', rfl, h2, _⟩ := h'
   rw [DetL.of hd η us us' h1 h2]
 | .tup cs, hd => fun η u u' h h' => by
   simp only [detV] at hd
   simp only [Den] at h h'
   obtain ⟨us, rfl, h1⟩ := h
   obtain ⟨us', rfl, h2⟩ := h'
   rw [DetL.of hd η us us' h1 h2]
 | .ifc t v, hd => fun η u u' h h' => by
   simp only [detV] at hd
   simp only [Den] at h h'
   obtain ⟨us, rfl, h1⟩ := h
   obtain ⟨us', rfl, h2⟩ := h'
   rw [Det.of hd η us us' h1 h2]
 | .fn f a b, hd => fun η u u' h h' => by
   simp only [detV, Bool.and_eq_true] at hd
   simp only [Den] at h h'
   obtain ⟨us, vs, rfl, h1, h3⟩ := h
   obtain ⟨us', vs', rfl, h2, h4⟩ := h'
   rw [DetL.of hd.1 η us us' h1 h2, DetL.of hd.2 η vs vs' h3 h4]
 | .arr _ _, hd => by simp [detV] at hd
 | .any, hd => by simp [detV] at hd
 | .nb _, hd => by simp [detV] at hd
 | .dfs _, hd => by simp [detV] at hd
 | .yf b, _ => fun η u u' h h' => by
   simp only [Den] at h h'
   obtain ⟨e, h1, rfl⟩ := h
   obtain ⟨e', h2, rfl⟩ := h'
   rw [h1] at h2; injection h2 with h2; injection h2 with h2; rw [h2]
theorem DetL.of : ∀ {vs : List SV}, Z1l vs = true → DetL vs
 | [], _ => fun η us us' h h' => by simp only [DenL] at h h'; rw [h, h']
 | c :: cs, hd => fun η us us' h h' => by
   simp only [Z1l, Bool.and_eq_true] at hd
   simp only [DenL] at h h'
   obtain ⟨u, r, rfl, h1, h2⟩ := h
   obtain ⟨u', r', rfl, h1', h2'⟩ := h'
   rw [Det.of hd.1 η u u' h1 h1', DetL.of hd.2 η r r' h2 h2']
end
def UB : Hps → List (Blk × Hp)
 | [] => []
 | (i, h) :: r => (.loc i, h) :: UB r
def Z3C (C : Cx) (O : Hps) : Cx := ⟨C.T, C.N, UB O ++ C.S, C.ro⟩
def Z0N (C : Cx) : Cx := ⟨{ C.T with globs := [], gplain := rfl }, C.N, [], C.ro⟩
def shMx (M : Mx) (O : Hps) (η : Env) (w : World) : Mx := ⟨M.P, Z3C M.C O, w, fun _ => False, η⟩
def blMx (M : Mx) (η : Env) (w : World) : Mx := ⟨M.P, Z0N M.C, w, fun _ => False, η⟩
def Z2w : SV → Prop → Prop
 | .bool _, K | .int _ _, K | .str _, K | .ptr _ _ _ _, K | .val _, K => K
 | .agg cs, K => match Z1l cs with | true => K | false => NEED (Det (.agg cs)) K
 | .tup cs, K => match Z1l cs with | true => K | false => NEED (Det (.tup cs)) K
 | v, K => NEED (Det v) K
def Z6C (N : Nat) (C : Cx) (o : Oper) (fr : Fr) (nx : Nat) (K : SV → Prop) : Prop :=
 match Jm N o.dst with
 | false => STOP "slot"
 | true => match o.op with
   | .move x => match V1 fr x with | some v => K v | none => STOP "operand"
   | .assign x => match V1 fr x with | some v => K v | none => STOP "operand"
   | op => match Zat op with
     | true => STOP "writes"
     | false => (opR C (V1 fr) [] nx op).gv fun v => Z2w v (K v)
structure ADD (M : Mx) (o : Oper) (fr : Fr) (O : Hps) (nx : Nat) (K : SV → Hps → Nat → Prop) : Prop where
 out : ∀ η w, Z1k (shMx M O η w) o (V1 fr) [] nx fun v O2 nx => K v (O2 ++ O) nx
def Z7U (M : Mx) (m : Nat) (o : Oper) (fr : Fr) (O : Hps) (nx : Nat) (K : SV → Hps → Nat → Prop) : Prop :=
 match m with
 | 0 => Z1k M o (V1 fr) O nx K
 | 1 => Z6C M.C.N (Z0N M.C) o fr nx fun v => K v O nx
 | 2 => Z6C M.C.N (Z3C M.C O) o fr nx fun v => K v O nx
 | _ => ADD M o fr O nx K
inductive Plan where
 | nil
 | take (i m : Nat) (t : Plan)
 | fork (i mi j mj : Nat) (a b : Plan)
 | fork3 (i mi j mj k mk : Nat) (a b c : Plan)
 | join (t : Plan)
def Zq : List (Nat × Nat) → Plan
 | [] => .nil
 | (i, m) :: r => .take i m (Zq r)
def Plan.depth : Plan → Nat
 | .nil => 0
 | .take _ _ t => t.depth + 1
 | .fork _ _ _ _ a _ => a.depth + 1
 | .fork3 _ _ _ _ _ _ a _ _ => a.depth + 1
 | .join t => t.depth
structure FORK (A B : Prop) : Prop where
 a : A
 b : B
structure JOIN (A : Fr → Prop) (fr : Fr) : Prop where
 out : ∃ fr', (∀ t, lkp t fr' = lkp t fr) ∧ A fr'
theorem JOIN.go {A : Fr → Prop} {fr : Fr} (h : A fr) : JOIN A fr := ⟨fr, fun _ => rfl, h⟩
theorem JOIN.ij {A : Fr → Prop} {fr : Fr} {a b c s : Nat} {x y z g : SV} (h : A ((b, y) :: (c, z) :: (a, x) :: (s, g) :: fr)) (hd : (a ≠ s ∧ b ≠ s ∧ c ≠ s) ∧ a ≠ b ∧ a ≠ c ∧ b ≠ c) : JOIN A ((b, y) :: (s, g) :: (c, z) :: (s, g) :: (a, x) :: (s, g) :: fr) := by
 refine ⟨_, fun t => ?_, h⟩
 obtain ⟨⟨h1, h2, h3⟩, h4, h5, h6⟩ := hd
 simp only [Z7]
 repeat' split
 all_goals first | rfl | (exfalso; omega)
theorem JOIN.ji {A : Fr → Prop} {fr : Fr} {a b c s : Nat} {x y z g : SV} (h : A ((b, y) :: (c, z) :: (a, x) :: (s, g) :: fr)) (hd : (a ≠ s ∧ b ≠ s ∧ c ≠ s) ∧ a ≠ b ∧ a ≠ c ∧ b ≠ c) : JOIN A ((c, z) :: (s, g) :: (a, x) :: (s, g) :: (b, y) :: (s, g) :: fr) := by
 refine ⟨_, fun t => ?_, h⟩
 obtain ⟨⟨h1, h2, h3⟩, h4, h5, h6⟩ := hd
 simp only [Z7]
 repeat' split
 all_goals first | rfl | (exfalso; omega)
def oneD (M : Mx) (ops : List Oper) (i m : Nat) (fr : Fr) (O : Hps) (nx : Nat) (K : Fr → Hps → Nat → Prop) : Prop :=
 match nth ops i with
 | none => STOP "order"
 | some o => match o.guard with
   | none => Z7U M m o fr O nx fun v O nx => putK o.dst v fr fun fr => K fr O nx
   | some (j, want) =>
     match V5 ops j with
     | none => STOP "guard"
     | some s => match lkp s fr with
       | some (.bool b) => IF b
         (fun J => match want with
          | true => Z7U M m o ((s, .bool true) :: fr) O nx fun v O nx => putK o.dst v ((s, .bool true) :: fr) fun fr => J fr O nx
          | false => match Jm M.C.N o.dst with | true => putK o.dst Yy ((s, .bool true) :: fr) fun fr => J fr O nx | false => STOP "slot")
         (fun J => match want with
          | false => Z7U M m o ((s, .bool false) :: fr) O nx fun v O nx => putK o.dst v ((s, .bool false) :: fr) fun fr => J fr O nx
          | true => match Jm M.C.N o.dst with | true => putK o.dst Yy ((s, .bool false) :: fr) fun fr => J fr O nx | false => STOP "slot")
         K
       | some (.tup []) => match Jm M.C.N o.dst with | true => putK o.dst Yy fr fun fr => K fr O nx | false => STOP "slot"
       | _ => STOP "guard"
def runD (M : Mx) (ops : List Oper) : Plan → Fr → Hps → Nat → (Fr → Hps → Nat → Prop) → Prop
 | .nil, fr, O, nx, K => K fr O nx
 | .take i m rest, fr, O, nx, K => oneD M ops i m fr O nx fun fr O nx => runD M ops rest fr O nx K
 | .fork i mi j mj a b, fr, O, nx, K => FORK (oneD M ops i mi fr O nx fun fr O nx => runD M ops a fr O nx K) (oneD M ops j mj fr O nx fun fr O nx => runD M ops b fr O nx K)
 | .fork3 i mi j mj k mk a b c, fr, O, nx, K => FORK (oneD M ops i mi fr O nx fun fr O nx => runD M ops a fr O nx K) (FORK (oneD M ops j mj fr O nx fun fr O nx => runD M ops b fr O nx K) (oneD M ops k mk fr O nx fun fr O nx => runD M ops c fr O nx K))
 | .join t, fr, O, nx, K => JOIN (fun fr => runD M ops t fr O nx K) fr
theorem FORK.skip {M : Mx} {ops : List Oper} {i mi j mj k mk : Nat} {p : Plan} {fr : Fr} {O : Hps} {nx : Nat} {K : Fr → Hps → Nat → Prop} (a b c s : Nat)
   (ha : runD M ops p ((b, Yy) :: (c, Yy) :: (a, Yy) :: (s, .bool false) :: fr) O nx K → oneD M ops i mi fr O nx fun fr O nx => runD M ops (.take k mk (.take j mj (.join p))) fr O nx K)
   (hb : runD M ops p ((b, Yy) :: (c, Yy) :: (a, Yy) :: (s, .bool false) :: fr) O nx K → oneD M ops j mj fr O nx fun fr O nx => runD M ops (.take i mi (.take k mk (.join p))) fr O nx K)
   (r : runD M ops p ((b, Yy) :: (c, Yy) :: (a, Yy) :: (s, .bool false) :: fr) O nx K) :
   FORK (oneD M ops i mi fr O nx fun fr O nx => runD M ops (.take k mk (.take j mj (.join p))) fr O nx K) (oneD M ops j mj fr O nx fun fr O nx => runD M ops (.take i mi (.take k mk (.join p))) fr O nx K) := ⟨ha r, hb r⟩
theorem FORK.adds {M : Mx} {ops : List Oper} {i mi j mj k mk : Nat} {p : Plan} {fr : Fr} {O : Hps} {nx : Nat} {K : Fr → Hps → Nat → Prop} (a b c s : Nat) (x y z : SV) (o : Hps) (n : Nat)
   (ha : runD M ops p ((b, y) :: (c, z) :: (a, x) :: (s, .bool true) :: fr) (o ++ O) n K → oneD M ops i mi fr O nx fun fr O nx => runD M ops (.take k mk (.take j mj (.join p))) fr O nx K)
   (hb : runD M ops p ((b, y) :: (c, z) :: (a, x) :: (s, .bool true) :: fr) (o ++ O) n K → oneD M ops j mj fr O nx fun fr O nx => runD M ops (.take i mi (.take k mk (.join p))) fr O nx K)
   (r : runD M ops p ((b, y) :: (c, z) :: (a, x) :: (s, .bool true) :: fr) (o ++ O) n K) :
   FORK (oneD M ops i mi fr O nx fun fr O nx => runD M ops (.take k mk (.take j mj (.join p))) fr O nx K) (oneD M ops j mj fr O nx fun fr O nx => runD M ops (.take i mi (.take k mk (.join p))) fr O nx K) := ⟨ha r, hb r⟩
theorem oneD.pass {M : Mx} {ops : List Oper} {i m : Nat} {fr : Fr} {O : Hps} {nx : Nat} {K : Fr → Hps → Nat → Prop} {o : Oper} {g s a : Nat} {e : Bool}
   (h1 : nth ops i = some o) (h2 : o.guard = some (g, true)) (h3 : V5 ops g = some s) (h4 : lkp s fr = some (.bool e)) (he : e = false) (h5 : o.dst = some a) (h6 : Nat.blt a M.C.N = true)
   (h : K ((a, Yy) :: (s, .bool false) :: fr) O nx) : oneD M ops i m fr O nx K := by
 subst he
 unfold oneD
 simp only [h1, h2, h3, h4, h5, Jm, h6, putK]
 exact IF.ff h
theorem FORK.pass {M : Mx} {ops : List Oper} {i mi j mj k mk : Nat} {p : Plan} {fr : Fr} {O : Hps} {nx : Nat} {K : Fr → Hps → Nat → Prop} (a b c s : Nat) {oi oj ok : Oper} {gi gj gk : Nat} {e : Bool}
   (hi : nth ops i = some oi) (hj : nth ops j = some oj) (hk : nth ops k = some ok)
   (ei : oi.guard = some (gi, true)) (ej : oj.guard = some (gj, true)) (ek : ok.guard = some (gk, true))
   (si : V5 ops gi = some s) (sj : V5 ops gj = some s) (sk : V5 ops gk = some s)
   (di : oi.dst = some a) (dj : oj.dst = some b) (dk : ok.dst = some c)
   (ni : Nat.blt a M.C.N = true) (nj : Nat.blt b M.C.N = true) (nk : Nat.blt c M.C.N = true)
   (hf : lkp s fr = some (.bool e)) (he : e = false)
   (hd : (a ≠ s ∧ b ≠ s ∧ c ≠ s) ∧ a ≠ b ∧ a ≠ c ∧ b ≠ c)
   (r : runD M ops p ((b, Yy) :: (c, Yy) :: (a, Yy) :: (s, .bool false) :: fr) O nx K) :
   FORK (oneD M ops i mi fr O nx fun fr O nx => runD M ops (.take k mk (.take j mj (.join p))) fr O nx K) (oneD M ops j mj fr O nx fun fr O nx => runD M ops (.take i mi (.take k mk (.join p))) fr O nx K) := by
 have l1 : ∀ {v : SV} {t : Nat}, t ≠ s → lkp s ((t, v) :: (s, .bool false) :: fr) = some (.bool false) := fun h => by
   rw [Z7, if_neg (fun h' => h h'.symm), Z7, if_pos rfl]
 obtain ⟨⟨a1, a2, a3⟩, hd2⟩ := id hd
 have l2 : ∀ {v w : SV} {t u : Nat}, t ≠ s → u ≠ s → lkp s ((t, v) :: (s, .bool false) :: (u, w) :: (s, .bool false) :: fr) = some (.bool false) := fun h _ => by
   rw [Z7, if_neg (fun h' => h h'.symm), Z7, if_pos rfl]
 constructor
 · refine oneD.pass hi ei si hf he di ni ?_
   show oneD M ops k mk _ O nx fun fr O nx => runD M ops (.take j mj (.join p)) fr O nx K
   refine oneD.pass hk ek sk (l1 a1) rfl dk nk ?_
   show oneD M ops j mj _ O nx fun fr O nx => runD M ops (.join p) fr O nx K
   refine oneD.pass hj ej sj (l2 a3 a1) rfl dj nj ?_
   exact JOIN.ij r hd
 · refine oneD.pass hj ej sj hf he dj nj ?_
   show oneD M ops i mi _ O nx fun fr O nx => runD M ops (.take k mk (.join p)) fr O nx K
   refine oneD.pass hi ei si (l1 a2) rfl di ni ?_
   show oneD M ops k mk _ O nx fun fr O nx => runD M ops (.join p) fr O nx K
   refine oneD.pass hk ek sk (l2 a1 a2) rfl dk nk ?_
   exact JOIN.ji r hd
def Ju (acc : List Nat) (o : Oper) : Nat := o.after.foldl (fun s e => if Region.binds .any e then s ||| 2 ^ e.on ||| acc.getD e.on 0 else s) 0
def W3 : List Oper → List Nat → List Nat
 | [], acc => acc
 | o :: r, acc => W3 r (acc ++ [Ju acc o])
def Z0O (i : Nat) : Nat → List Nat → List Nat
 | 0, l => i :: l
 | _, l => l
def Jv (m : Nat) : Bool := m == 0 || m == 3
def Zr : Plan → List Nat
 | .nil => []
 | .take i 0 t => i :: Zr t
 | .take _ _ t => Zr t
 | .fork i mi j mj a b => Z0O i mi (Z0O j mj (Zr a ++ Zr b))
 | .fork3 i mi j mj k mk a b c => Z0O i mi (Z0O j mj (Z0O k mk (Zr a ++ (Zr b ++ Zr c))))
 | .join t => Zr t
def Y5 (ops : Array Oper) (ms : List Nat) : Plan → Array Bool → Bool
 | .nil, l => (Region.ready .any ops l).isEmpty
 | .take i m rest, l =>
   (match m with
    | 0 => Region.ready .any ops l == [i]
    | 1 => (Region.ready .any ops l).contains i && Region.free .any ops l i && (Zr rest).all (fun k => k != i)
    | 2 => (Region.ready .any ops l).contains i && Region.free .any ops l i && (Zr rest).all (fun k => k != i && (ms.getD k 0).testBit i)
    | _ => Region.ready .any ops l == [i]) &&
   Y5 ops ms rest (l.setIfInBounds i true)
 | .fork i mi j mj a b, l => Region.ready .any ops l == [i, j] && Jv mi && Jv mj && a.depth == b.depth && Y5 ops ms a (l.setIfInBounds i true) && Y5 ops ms b (l.setIfInBounds j true)
 | .fork3 i mi j mj k mk a b c, l => Region.ready .any ops l == [i, j, k] && Jv mi && Jv mj && Jv mk && a.depth == b.depth && a.depth == c.depth && Y5 ops ms a (l.setIfInBounds i true) && Y5 ops ms b (l.setIfInBounds j true) && Y5 ops ms c (l.setIfInBounds k true)
 | .join t, l => Y5 ops ms t l
def Z2x (ops : Array Oper) (steps : Plan) : Bool :=
 Region.noSelect ops && steps.depth == ops.size && Y5 ops (W3 ops.toList []) steps (Array.replicate ops.size false)
end Go.Sx
namespace Go.Sx
open Go
theorem Z1Q : ∀ (os : List Oper) (acc : List Nat), (W3 os acc).take acc.length = acc ∧ ∀ j o, os[j]? = some o → (W3 os acc)[acc.length + j]? = some (Ju ((W3 os acc).take (acc.length + j)) o)
 | [], acc => ⟨by simp [W3], fun j o h => by simp at h⟩
 | o :: os, acc => by
   simp only [W3]
   obtain ⟨h1, h2⟩ := Z1Q os (acc ++ [Ju acc o])
   simp only [List.length_append, List.length_singleton] at h1 h2
   have h0 : (W3 os (acc ++ [Ju acc o])).take acc.length = acc := by
     have := congrArg (List.take acc.length) h1
     rw [List.take_take] at this
     simpa using this
   refine ⟨h0, fun j o' hj => ?_⟩
   cases j with
   | zero =>
     simp at hj; subst hj
     rw [Nat.add_zero, h0]
     have := congrArg (fun l : List Nat => l[acc.length]?) h1
     simpa [List.getElem?_take] using this
   | succ j =>
     have := h2 j o' (by simpa using hj)
     rw [show acc.length + (j + 1) = acc.length + 1 + j by omega]
     exact this
theorem Z1m {acc : List Nat} {o : Oper} {i : Nat} (h : (Ju acc o).testBit i = true) : ∃ e ∈ o.after, Region.binds .any e = true ∧ (e.on = i ∨ (acc.getD e.on 0).testBit i = true) := by
 unfold Ju at h
 rw [← Array.foldl_toList] at h
 have key : ∀ (es : List Edge) (s : Nat), (es.foldl (fun s e => if Region.binds .any e then s ||| 2 ^ e.on ||| acc.getD e.on 0 else s) s).testBit i = true →
     s.testBit i = true ∨ ∃ e ∈ es, Region.binds .any e = true ∧ (e.on = i ∨ (acc.getD e.on 0).testBit i = true) := by
   intro es
   induction es with
   | nil => intro s h; exact .inl h
   | cons e es ih =>
     intro s h
     simp only [List.foldl_cons] at h
     rcases ih _ h with h | ⟨e', he', h⟩
     · split at h
       · rename_i hb
         simp only [Nat.testBit_or, Bool.or_eq_true] at h
         rcases h with (h | h) | h
         · exact .inl h
         · refine .inr ⟨e, List.mem_cons_self .., hb, .inl ?_⟩
           rw [Nat.testBit_two_pow] at h
           simpa using h
         · exact .inr ⟨e, List.mem_cons_self .., hb, .inr h⟩
       · exact .inl h
     · exact .inr ⟨e', List.mem_cons_of_mem _ he', h⟩
 rcases key _ _ h with h | ⟨e, he, h⟩
 · simp at h
 · exact ⟨e, by simpa using he, h⟩
theorem Z3D {ops : Array Oper} {l : Array Bool} (hc : Closed .any ops l) {i : Nat} : ∀ (k : Nat), ((W3 ops.toList []).getD k 0).testBit i = true → l.getD k false = true → l.getD i false = true := by
 intro k
 induction k using Nat.strongRecOn with
 | _ k ih =>
   intro h hk
   cases hg : (W3 ops.toList [])[k]? with
   | none => rw [List.getD_eq_getElem?_getD, hg] at h; simp at h
   | some m =>
     have hlt : k < ops.size := by
       rcases Nat.lt_or_ge k ops.size with h' | h'
       · exact h'
       · rw [← hc.1] at h'
         simp [Array.getElem?_eq_none h'] at hk
     have ho : ops[k]? = some ops[k] := Array.getElem?_eq_getElem hlt
     have hm := (Z1Q ops.toList []).2 k ops[k] (by simp)
     simp only [List.length_nil, Nat.zero_add] at hm
     rw [List.getD_eq_getElem?_getD, hm, Option.getD_some] at h
     obtain ⟨e, he, hb, h⟩ := Z1m h
     have hon := hc.2 k _ ho hk e he hb
     rcases h with rfl | h
     · exact hon
     · rw [List.getD_eq_getElem?_getD, List.getElem?_take] at h
       split at h
       · rename_i hlt'
         exact ih e.on hlt' (by rw [List.getD_eq_getElem?_getD]; exact h) hon
       · simp at h
def agree (w w' : World) : Prop := ∀ k, k < w.heap.size → w'.heap[k]? = w.heap[k]?
theorem agree.refl (w : World) : agree w w := fun _ _ => rfl
theorem agree.trans {a b c : World} (h : agree a b) (k : agree b c) : agree a c := fun n hn => by
 have h1 := h n hn
 have hlt : n < b.heap.size := by
   rw [Array.getElem?_eq_getElem hn] at h1
   exact (Array.getElem?_eq_some_iff.1 h1).1
 rw [k n hlt, h1]
section
variable {M : Mx} {η : Env} {w : World} {O : Hps} {nx : Nat}
theorem Z0P {C : Cx} : ∀ {O : Hps} {j : Nat}, lkpB (.loc j) (UB O ++ C.S) = J0 C O (.loc j)
 | [], j => by simp [UB, J0, lkp]
 | (i, h) :: r, j => by
   have ih := Z0P (C := C) (O := r) (j := j)
   simp only [UB, List.cons_append, lkpB, Z7o, J0, lkp]
   cases e : Nat.beq j i
   · simp only [e]; rw [ih]; rfl
   · simp only [e]
theorem Z6D {C : Cx} {O : Hps} {b : Blk} : lkS (Z3C C O) b = J0 C O b := by
 cases b with
 | glob g => rfl
 | loc j => exact Z0P
theorem HeapOK.read (H : HeapOK M η w O nx) {w' : World} (hag : agree w w') : HeapOK (shMx M O η w') η w' [] nx := by
 refine ⟨List.prefix_rfl, H.len, ⟨fun i h hi => by simp [lkp] at hi, fun i j h h' n hi => by simp [lkp] at hi⟩, FrW.refl _ _, fun b h hb => ?_⟩
 have hb' : J0 M.C O b = some h := by rw [← Z6D]; exact hb
 have hsat := H.look hb'
 have hag' : ∀ k, feet η w b h k → w'.heap[k]? = w.heap[k]? := fun k f => hag _ (hsat.feet_lt f)
 have hs' := hsat.keep hag'
 exact ⟨hs', fun k f => ⟨hs'.feet_lt f, fun h => h⟩⟩
theorem HeapOK.blind (hl : η.length = nx) (w : World) : HeapOK (blMx M η w) η w [] nx :=
 ⟨List.prefix_rfl, hl, ⟨fun i h hi => by simp [lkp] at hi, fun i j h h' n hi => by simp [lkp] at hi⟩, FrW.refl _ _, fun b h hb => by cases b <;> simp [blMx, Z0N, lkS, lkpB, lkp] at hb⟩
theorem HeapOK.join (H : HeapOK M η w O nx) {η' : Env} {w' : World} {O2 : Hps} {nx2 : Nat} (H2 : HeapOK (shMx M O η w) η' w' O2 nx2) : HeapOK M η' w' (O2 ++ O) nx2 ∧ agree w w' := by
 have hag : agree w w' := fun k hk => H2.fr.block k hk (fun h => h)
 have hp : η <+: η' := H2.pre
 have old : ∀ {i : Nat} {h : Hp}, lkp i O = some h → HpSat η' w' true (.loc i) h ∧ ∀ k, feet η' w' (.loc i) h k → feet η w (.loc i) h k ∧ k < w.heap.size := by
   intro i h hi
   obtain ⟨hsat, hF⟩ := H.own.1 i h hi
   have hk : ∀ k, feet η w (.loc i) h k → w'.heap[k]? = w.heap[k]? := fun k f => hag _ (hsat.feet_lt f)
   refine ⟨(hsat.keep (w' := w') hk).mono hp, fun k f => ?_⟩
   have f' := H.stands hp hi hk f
   exact ⟨f', hsat.feet_lt f'⟩
 refine ⟨⟨H.pre.trans hp, H2.len, ⟨fun i h hi => ?_, fun i j h h' k hi hj hij f f' => ?_⟩, H.fr.trans H2.fr (fun n hn => hn.elim), H.sok⟩, hag⟩
 · rcases Xc hi with hi | ⟨_, hi⟩
   · obtain ⟨h1, h2⟩ := H2.own.1 i h hi
     refine ⟨h1, fun k f => .inr ?_⟩
     rcases h2 k f with h3 | h3
     · exact h3.elim
     · exact Nat.le_trans H.fr.size h3
   · obtain ⟨h1, h2⟩ := old hi
     exact ⟨h1, fun k f => (H.own.1 i h hi).2 k (h2 k f).1⟩
 · rcases Xc hi with hi | ⟨_, hi⟩
   · rcases Xc hj with hj | ⟨_, hj⟩
     · exact H2.own.2 i j h h' k hi hj hij f f'
     · have h1 := ((old hj).2 k f').2
       rcases (H2.own.1 i h hi).2 k f with h3 | h3
       · exact h3.elim
       · have h3 : w.heap.size ≤ k := h3
         omega
   · rcases Xc hj with hj | ⟨_, hj⟩
     · have h1 := ((old hi).2 k f).2
       rcases (H2.own.1 j h' hj).2 k f' with h3 | h3
       · exact h3.elim
       · have h3 : w.heap.size ≤ k := h3
         omega
     · exact H.own.2 i j h h' k hi hj hij ((old hi).2 k f).1 ((old hj).2 k f').1
theorem Z4O {v : SV} {K : Prop} (h : Z2w v K) : Det v ∧ K := by
 cases v with
 | agg cs =>
   simp only [Z2w] at h
   split at h
   · rename_i e; exact ⟨Det.of (by simpa only [detV] using e), h⟩
   · exact ⟨h.p, h.k⟩
 | tup cs =>
   simp only [Z2w] at h
   split at h
   · rename_i e; exact ⟨Det.of (by simpa only [detV] using e), h⟩
   · exact ⟨h.p, h.k⟩
 | _ => first | exact ⟨h.p, h.k⟩ | exact ⟨Det.of rfl, h⟩
theorem Wv {P : Program} {C' : Cx} (hT : TabOK P C'.T) {N : World → Prop} {o : Oper} {a : Act} {fr : Fr} {nx N0 : Nat} {K : SV → Prop} (hf : FrOK η a fr)
   (hN : ∀ w', N w' → HeapOK ⟨P, C', w', fun _ => False, η⟩ η w' [] nx) (hw : N w) (h : Z6C N0 C' o fr nx K) :
   Jm N0 o.dst = true ∧ ∃ u v, (∀ w', N w' → (execOp a.eval o).run P w' = .ok (.value u) w' ∨ ((execOp a.eval o).run P w' = .ok .skip w' ∧ u = undef)) ∧ Den η v u ∧ K v := by
 unfold Z6C at h
 split at h
 · exact h.out.elim
 rename_i hd
 refine ⟨hd, ?_⟩
 split at h
 · rename_i x ho
   split at h
   case h_2 => exact h.out.elim
   rename_i v hv
   exact ⟨a.eval x, v, fun w' _ => .inl (by simp [execOp, ho]), Y2 hf hv, h⟩
 · rename_i x ho
   split at h
   case h_2 => exact h.out.elim
   rename_i v hv
   exact ⟨a.eval x, v, fun w' _ => .inl (by simp [execOp, ho]), Y2 hf hv, h⟩
 · split at h
   · exact h.out.elim
   rename_i hst
   obtain ⟨v, hok, h⟩ := Res.gv_ok h
   obtain ⟨hdet, h⟩ := Z4O h
   have one : ∀ w', N w' → ∃ u, ((execOp a.eval o).run P w' = .ok (.value u) w' ∨ ((execOp a.eval o).run P w' = .ok .skip w' ∧ u = undef)) ∧ Den η v u := by
     intro w' hw'
     have H := hN w' hw'
     obtain ⟨u, w'', η'', h1, h2, h3, h4, h5⟩ := Z2n (M := ⟨P, C', w', fun _ => False, η⟩) (w := w') (ρ := a.eval) ⟨H, hT, fun x sv hx => Y2 hf hx⟩ o (hok [] nx)
     have he : η'' = η := (h2.eq_of_length (by rw [H.len, h3.len])).symm
     subst he
     have hww := h5 hst rfl
     subst hww
     exact ⟨u, h1, h4⟩
   obtain ⟨u, h1, h2⟩ := one w hw
   refine ⟨u, v, fun w' hw' => ?_, h2, h⟩
   obtain ⟨u', h3, h4⟩ := one w' hw'
   rw [hdet η u u' h2 h4]
   exact h3
end
def SS (ks : List Nat) (wc : World) (l : Array Bool) (w : World) : Prop := (∀ k ∈ ks, l.getD k false = false) → agree wc w
section
variable {M : Mx} {ops : Array Oper} {Q : Exit → Act → World → Prop}
theorem X3 {i m : Nat} {rest : Plan} (h : m ≠ 0) : Zr (.take i m rest) = Zr rest := by
 cases m with
 | zero => exact (h rfl).elim
 | succ m => rfl
theorem Z3E {i : Nat} {rest : Plan} : Zr (.take i 0 rest) = i :: Zr rest := rfl
theorem UC {l : Array Bool} {i : Nat} (h : l.getD i true = false) : l.getD i false = false := by
 rcases Nat.lt_or_ge i l.size with h' | h'
 · simp [h'] at h ⊢; exact h
 · simp [Array.getElem?_eq_none h'] at h
theorem VA {η : Env} {fr : Fr} {O : Hps} {nx : Nat} {a : Act} {w : World} (hm : Models M η fr O nx a w) {o : Oper} (hd : Jm M.C.N o.dst = true) {u : Value} {v : SV} (hv : Den η v u) {Kp : Fr → Prop} (hk : putK o.dst v fr Kp) :
   ∃ fr', Kp fr' ∧ Models M η fr' O nx (a.put o.dst u) w := hm.put hd List.prefix_rfl hm.heap hv hk
theorem JP (hQ : ∀ c a w, ¬ Q (.panic c) a w) (hs : Region.noSelect ops = true) {i n : Nat} {o : Oper} {l : Array Bool} {ks : List Nat} (ho : ops[i]? = some o) (hready : i ∈ Region.ready .any ops l) (hfree : Region.free .any ops l i = true) (hne : ∀ k ∈ ks, k ≠ i) (hc : Closed .any ops l)
   {N : World → Prop} {wc : World} (hN : ∀ l w, Closed .any ops l → l.getD i true = false → SS ks wc l w → N w) {a : Act} {w : World} {u : Value} (hy : YieldsN M.P ops N o u a) (hag : agree wc w)
   (h : wpH M.fence M.P .any ops Q (SS ks wc) n (l.setIfInBounds i true) (a.put o.dst u) w) : wpH M.fence M.P .any ops Q (SS ks wc) (n + 1) l a w := by
 refine Z7T M.all ho (Region.noSelect_spec hs) (fun c a w hq => (hQ _ _ _ hq).elim) hN (fun l' w' hc' hun hr hS hk => hS fun k hk' => ?_) n l a w hc (Region.free_spec ho hfree) hready hy (fun _ => hag) (fun _ => hag) h
 rw [getD_set_ne false (Ne.symm (hne k hk'))]; exact hk k hk'
theorem HeapOK.drawn {η : Env} {w : World} {O : Hps} {nx : Nat} (H : HeapOK M η w O nx) {n : Nat} (hn : w.drawn ≤ n) : HeapOK M η { w with drawn := n } O nx :=
 ⟨H.pre, H.len, H.own.still rfl, ⟨H.fr.os, H.fr.tape, H.fr.output, Nat.le_trans H.fr.drawn hn, H.fr.size, H.fr.block⟩, H.sok⟩
theorem Z3F {m : Nat} (h : Jv m = true) : m = 0 ∨ m = 3 := by
 unfold Jv at h
 simpa using h
theorem ZA {i m : Nat} {l : List Nat} {x : Nat} (h : x ∈ l) : x ∈ Z0O i m l := by
 cases m with
 | zero => exact List.mem_cons_of_mem _ h
 | succ m => exact h
theorem XQ {i : Nat} {l : List Nat} : i ∈ Z0O i 0 l := List.mem_cons_self ..
theorem ZaX (hT : TabOK M.P M.C.T) {i m : Nat} (hmode : m = 0 ∨ m = 3) {fr : Fr} {O : Hps} {nx : Nat} {Kn : Fr → Hps → Nat → Prop} (h : oneD M ops.toList i m fr O nx Kn) {η : Env} {a : Act} {w : World} (hm : Models M η fr O nx a w) {R : Act → World → Prop}
   (hR : ∀ {fr : Fr} {O : Hps} {nx : Nat} {η : Env} {a : Act} {w' : World}, Kn fr O nx → Models M η fr O nx a w' → (m = 3 → agree w w') → R a w') : wpOpIn M.fence 0 M.P ops Q i R a w := by
 unfold oneD at h
 split at h
 · exact h.out.elim
 rename_i o ho
 have ho : ops[i]? = some o := by rw [XK] at ho; simpa using ho
 have skip : ∀ {fr' : Fr}, Models M η fr' O nx a w → Region.wanted o (yielded ops a.tmps) ≠ true → (match Jm M.C.N o.dst with | true => putK o.dst Yy fr' fun fr => Kn fr O nx | false => STOP "slot") → wpOpIn M.fence 0 M.P ops Q i R a w := by
   intro fr' hm' hw h
   split at h
   case h_2 => exact h.out.elim
   rename_i hd
   obtain ⟨fr2, h1, h2⟩ := VA hm' hd (JG η) h
   unfold wpOpIn
   simp only [ho]
   rw [if_neg hw]; exact ⟨fun f _ => M.all f, hR h1 h2 fun _ => agree.refl w⟩
 have go : ∀ {fr' : Fr}, Models M η fr' O nx a w → Region.wanted o (yielded ops a.tmps) = true → (Z7U M m o fr' O nx fun v O nx => putK o.dst v fr' fun fr => Kn fr O nx) → wpOpIn M.fence 0 M.P ops Q i R a w := by
   intro fr' hm' hw h
   unfold wpOpIn
   simp only [ho]
   rw [if_pos hw]
   rcases hmode with rfl | rfl
   · have h : Z1k M o (V1 fr') O nx fun v O nx => putK o.dst v fr' fun fr => Kn fr O nx := h
     refine (Uw hT hm' (fun x sv hx => Y2 hm'.frame hx) h fun u v O' nx' η' w' hd hp hH hv hk => ?_)
     obtain ⟨fr2, h1, h2⟩ := hm'.put hd hp hH hv hk
     exact hR h1 h2 fun h => by cases h
   · have h : ADD M o fr' O nx fun v O nx => putK o.dst v fr' fun fr => Kn fr O nx := h
     have hm2 : Models (shMx M O η w) η fr' [] nx a w := ⟨hm'.heap.read (agree.refl w), hm'.size, hm'.nds, hm'.defers, hm'.ro, hm'.frame⟩
     refine (Uw (M := shMx M O η w) hT hm2 (fun x sv hx => Y2 hm'.frame hx) (h.out η w) fun u v O2 nx2 η' w' hd hp hH hv hk => ?_)
     obtain ⟨hJ, hag2⟩ := hm'.heap.join hH
     obtain ⟨fr2, h1, h2⟩ := hm'.put hd hp hJ hv hk
     exact hR h1 h2 fun _ => hag2
 split at h
 · rename_i hg
   exact go hm (JJ hg) h
 · rename_i j want hg
   split at h
   · exact h.out.elim
   rename_i s hsl
   split at h
   · rename_i b hb
     have hbv := Yj (hm.frame s _ hb)
     have hy := Vy hsl hbv
     cases b with
     | true =>
       have h := h.t rfl
       have hm' : Models M η ((s, .bool true) :: fr) O nx a w := hm.know hb rfl rfl hbv
       cases want with
       | true => exact go hm' ((Zv hg).2 hy) h
       | false => exact skip hm' (fun hw => by rw [Zv hg, hy] at hw; cases hw) h
     | false =>
       have h := h.f rfl
       have hm' : Models M η ((s, .bool false) :: fr) O nx a w := hm.know hb rfl rfl hbv
       cases want with
       | false => exact go hm' ((Zv hg).2 hy) h
       | true => exact skip hm' (fun hw => by rw [Zv hg, hy] at hw; cases hw) h
   · rename_i hb
     have hbv := hm.frame s _ hb
     simp only [Den, DenL] at hbv
     obtain ⟨vs, hbv, rfl⟩ := hbv
     exact skip hm (fun hw => by rw [Zv hg] at hw; exact JI hsl (by rw [hbv]; simp) hw) h
   · exact h.out.elim
theorem arm (hT : TabOK M.P M.C.T) {fk t : Plan} {d : Nat} {fr : Fr} {O : Hps} {nx : Nat} {K : Fr → Hps → Nat → Prop} {η : Env} {a : Act} {w wc : World} {l : Array Bool} (hm : Models M η fr O nx a w) (hag : agree wc w) (hc : Closed .any ops l)
   {x m : Nat} (hmo : Jv m = true) (hx : x ∈ Region.ready .any ops l) (hxk : m = 0 → x ∈ Zr fk) (hsub : ∀ k ∈ Zr t, k ∈ Zr fk) (hd : t.depth = d)
   (ih : ∀ {fr : Fr} {O : Hps} {nx : Nat} {η : Env} {a : Act} {w wc : World}, runD M ops.toList t fr O nx K → Models M η fr O nx a w → agree wc w → wpH M.fence M.P .any ops Q (SS (Zr t) wc) t.depth (l.setIfInBounds x true) a w)
   (hrun : oneD M ops.toList x m fr O nx fun fr O nx => runD M ops.toList t fr O nx K) :
   wpOpIn M.fence 0 M.P ops Q x (fun a' w' => SS (Zr fk) wc (l.setIfInBounds x true) w' ∧ wpH M.fence M.P .any ops Q (SS (Zr fk) wc) d (l.setIfInBounds x true) a' w') a w := by
 have hin : x < l.size := by
   obtain ⟨h1, o, ho, _⟩ := mem_ready.1 hx
   rw [hc.1]; exact (Array.getElem?_eq_some_iff.1 ho).1
 have hset : (l.setIfInBounds x true).getD x false = true := by simp [hin]
 refine ZaX hT (Z3F hmo) hrun hm fun {fr O nx η a w'} hk hm' hag' => ?_
 rcases Z3F hmo with h0 | h3
 · have hno : ∀ l' w', Grows (l.setIfInBounds x true) l' → SS (Zr fk) wc l' w' := by
     intro l' w' hg hk
     have h1 := hk x (hxk h0)
     rw [hg x hset] at h1; cases h1
   refine ⟨hno _ _ (fun _ h => h), ?_⟩
   have := ih hk hm' (agree.refl _)
   rw [hd] at this
   exact UA (l0 := l.setIfInBounds x true) (fun l' w' hg _ => hno l' w' hg) _ _ _ _ (fun _ h => h) this
 · have hag2 : agree wc w' := hag.trans (hag' h3)
   refine ⟨fun _ => hag2, ?_⟩
   have := ih hk hm' hag2
   rw [hd] at this
   exact UA (l0 := l.setIfInBounds x true) (fun l' w'' hg hS hk => hS fun k hkt => hk k (hsub k hkt)) _ _ _ _ (fun _ h => h) this
theorem YR (hT : TabOK M.P M.C.T) (hQ : ∀ c a w, ¬ Q (.panic c) a w) (hs : Region.noSelect ops = true) : ∀ (steps : Plan) {fr : Fr} {O : Hps} {nx : Nat} {K : Fr → Hps → Nat → Prop}, runD M ops.toList steps fr O nx K →
   ∀ {l : Array Bool}, Y5 ops (W3 ops.toList []) steps l = true → Closed .any ops l → ∀ {η : Env} {a : Act} {w : World}, Models M η fr O nx a w → (∀ η fr O nx a w, Models M η fr O nx a w → K fr O nx → Q .normal a w) →
   ∀ {wc : World}, agree wc w → wpH M.fence M.P .any ops Q (SS (Zr steps) wc) steps.depth l a w
 | .nil, fr, O, nx, K, h, l, hl, hc, η, a, w, hm, hq, wc, hag => by
   simp only [Y5, List.isEmpty_iff] at hl
   exact ⟨hl, hq η fr O nx a w hm h⟩
 | .take i m rest, fr, O, nx, K, h, l, hl, hc, η, a, w, hm, hq, wc, hag => by
   have IH := @YR hT hQ hs rest
   unfold runD oneD at h
   split at h
   · exact h.out.elim
   rename_i o ho
   have ho : ops[i]? = some o := by rw [XK] at ho; simpa using ho
   simp only [Y5, Bool.and_eq_true] at hl
   obtain ⟨hl1, hl2⟩ := hl
   have hready : i ∈ Region.ready .any ops l := by
     revert hl1
     split <;> intro hl1
     · rw [beq_iff_eq.1 hl1]; exact List.mem_singleton.2 rfl
     · simp only [Bool.and_eq_true] at hl1; simpa using hl1.1.1
     · simp only [Bool.and_eq_true] at hl1; simpa using hl1.1.1
     · rw [beq_iff_eq.1 hl1]; exact List.mem_singleton.2 rfl
   have hc' := hc.set hready
   have hin : i < l.size := by rw [hc.1]; exact (Array.getElem?_eq_some_iff.1 ho).1
   have hset : (l.setIfInBounds i true).getD i false = true := by simp [hin]
   have modes : ∀ {p : Prop}, (m = 0 → p) → (m = 1 → p) → (m = 2 → p) → (3 ≤ m → p) → p := by
     intro p h0 h1 h2 h3
     match m, h0, h1, h2, h3 with
     | 0, h0, _, _, _ => exact h0 rfl
     | 1, _, h1, _, _ => exact h1 rfl
     | 2, _, _, h2, _ => exact h2 rfl
     | m + 3, _, _, _, h3 => exact h3 (by omega)
   have alone : Region.ready .any ops l = [i] → ∀ {a : Act} {w : World}, agree wc w → wpOpIn M.fence 0 M.P ops Q i (fun a' w' => SS (Zr (.take i m rest)) wc (l.setIfInBounds i true) w' ∧ wpH M.fence M.P .any ops Q (SS (Zr (.take i m rest)) wc) rest.depth (l.setIfInBounds i true) a' w') a w →
       wpH M.fence M.P .any ops Q (SS (Zr (.take i m rest)) wc) (Plan.take i m rest).depth l a w := fun hr a w hag h => ZaW hr h
   have afterKill : m = 0 → ∀ {fr : Fr} {O : Hps} {nx : Nat} {η : Env} {a : Act} {w : World}, runD M ops.toList rest fr O nx K → Models M η fr O nx a w →
       SS (Zr (.take i m rest)) wc (l.setIfInBounds i true) w ∧ wpH M.fence M.P .any ops Q (SS (Zr (.take i m rest)) wc) rest.depth (l.setIfInBounds i true) a w := by
     intro h0 fr O nx η a w hrun hm
     subst h0
     rw [Z3E]
     have hno : ∀ l' w', Grows (l.setIfInBounds i true) l' → SS (i :: Zr rest) wc l' w' := by
       intro l' w' hg hk
       have h1 := hk i (List.mem_cons_self ..)
       rw [hg i hset] at h1; cases h1
     exact ⟨hno _ _ (fun _ h => h), UA (l0 := l.setIfInBounds i true) (fun l' w' hg _ => hno l' w' hg) _ _ _ _ (fun _ h => h) (IH hrun hl2 hc' hm hq (agree.refl w))⟩
   have afterElse : m ≠ 0 → ∀ {fr : Fr} {O : Hps} {nx : Nat} {η : Env} {a : Act} {w : World}, runD M ops.toList rest fr O nx K → Models M η fr O nx a w → agree wc w →
       SS (Zr (.take i m rest)) wc (l.setIfInBounds i true) w ∧ wpH M.fence M.P .any ops Q (SS (Zr (.take i m rest)) wc) rest.depth (l.setIfInBounds i true) a w := by
     intro h0 fr O nx η a w hrun hm hag
     rw [X3 h0]
     exact ⟨fun _ => hag, IH hrun hl2 hc' hm hq hag⟩
   have quiet1 : m = 1 → Region.free .any ops l i = true ∧ ∀ k ∈ Zr rest, k ≠ i := by
     intro h1; subst h1
     simp only [Bool.and_eq_true, List.all_eq_true, bne_iff_ne] at hl1
     exact ⟨hl1.1.2, hl1.2⟩
   have quiet2 : m = 2 → Region.free .any ops l i = true ∧ ∀ k ∈ Zr rest, k ≠ i ∧ ((W3 ops.toList []).getD k 0).testBit i = true := by
     intro h1; subst h1
     simp only [Bool.and_eq_true, List.all_eq_true, bne_iff_ne] at hl1
     exact ⟨hl1.1.2, hl1.2⟩
   have alone0 : m = 0 → Region.ready .any ops l = [i] := by intro h1; subst h1; exact beq_iff_eq.1 hl1
   have alone3 : 3 ≤ m → Region.ready .any ops l = [i] := by
     intro h1
     match m, h1, hl1 with
     | m + 3, _, hl1 => exact beq_iff_eq.1 hl1
   have skip : ∀ {fr' : Fr}, Models M η fr' O nx a w → Region.wanted o (yielded ops a.tmps) ≠ true → (match Jm M.C.N o.dst with | true => putK o.dst Yy fr' fun fr => runD M ops.toList rest fr O nx K | false => STOP "slot") →
       wpH M.fence M.P .any ops Q (SS (Zr (.take i m rest)) wc) (Plan.take i m rest).depth l a w := by
     intro fr' hm' hw h
     split at h
     case h_2 => exact h.out.elim
     rename_i hd
     obtain ⟨fr2, h1, h2⟩ := VA hm' hd (JG η) h
     have hwf : Region.wanted o (yielded ops a.tmps) = false := by simpa using hw
     have op : ∀ {K' : Act → World → Prop}, K' (a.put o.dst undef) w → wpOpIn M.fence 0 M.P ops Q i K' a w := by
       intro K' hk
       unfold wpOpIn
       simp only [ho]
       rw [if_neg hw]; exact ⟨fun f _ => M.all f, hk⟩
     refine modes (fun h0 => alone (alone0 h0) hag (op (afterKill h0 h1 h2))) (fun h0 => ?_) (fun h0 => ?_) (fun h0 => alone (alone3 h0) hag (op (afterElse (by omega) h1 h2 hag)))
     · have hn : m ≠ 0 := by omega
       have := (afterElse hn h1 h2 hag).2
       rw [X3 hn] at this ⊢
       exact JP hQ hs ho hready (quiet1 h0).1 (quiet1 h0).2 hc (N := fun _ => True) (fun _ _ _ _ _ => trivial) (.inr ⟨hwf, rfl⟩) hag this
     · have hn : m ≠ 0 := by omega
       have := (afterElse hn h1 h2 hag).2
       rw [X3 hn] at this ⊢
       exact JP hQ hs ho hready (quiet2 h0).1 (fun k hk => ((quiet2 h0).2 k hk).1) hc (N := fun _ => True) (fun _ _ _ _ _ => trivial) (.inr ⟨hwf, rfl⟩) hag this
   have go : ∀ {fr' : Fr}, Models M η fr' O nx a w → Region.wanted o (yielded ops a.tmps) = true → (Z7U M m o fr' O nx fun v O nx => putK o.dst v fr' fun fr => runD M ops.toList rest fr O nx K) →
       wpH M.fence M.P .any ops Q (SS (Zr (.take i m rest)) wc) (Plan.take i m rest).depth l a w := by
     intro fr' hm' hw h
     have op : ∀ {K' : Act → World → Prop}, o.wpIn M.fence 0 M.P a w K' Q → wpOpIn M.fence 0 M.P ops Q i K' a w := by
       intro K' hk
       unfold wpOpIn
       simp only [ho]
       rw [if_pos hw]; exact hk
     refine modes (fun h0 => ?_) (fun h0 => ?_) (fun h0 => ?_) (fun h0 => ?_)
     · have h : Z1k M o (V1 fr') O nx fun v O nx => putK o.dst v fr' fun fr => runD M ops.toList rest fr O nx K := by subst h0; exact h
       refine alone (alone0 h0) hag (op (Uw hT hm' (fun x sv hx => Y2 hm'.frame hx) h fun u v O' nx' η' w' hd hp hH hv hk => ?_))
       obtain ⟨fr2, h1, h2⟩ := hm'.put hd hp hH hv hk
       exact afterKill h0 h1 h2
     · have h : Z6C M.C.N (Z0N M.C) o fr' nx fun v => putK o.dst v fr' fun fr => runD M ops.toList rest fr O nx K := by subst h0; exact h
       obtain ⟨hd, u, v, hy, hv, hk⟩ := Wv (P := M.P) (C' := Z0N M.C) ⟨hT.und, hT.info, hT.zero, hT.zsh, hT.flat, hT.key⟩ (N := fun _ => True) (w := w) hm'.frame (fun w' _ => HeapOK.blind (M := M) hm'.heap.len w') trivial h
       obtain ⟨fr2, h1, h2⟩ := VA hm' hd hv hk
       have hn : m ≠ 0 := by omega
       have := (afterElse hn h1 h2 hag).2
       rw [X3 hn] at this ⊢
       exact JP hQ hs ho hready (quiet1 h0).1 (quiet1 h0).2 hc (N := fun _ => True) (fun _ _ _ _ _ => trivial) (.inl ⟨hw, fun w' h => hy w' h⟩) hag this
     · have h : Z6C M.C.N (Z3C M.C O) o fr' nx fun v => putK o.dst v fr' fun fr => runD M ops.toList rest fr O nx K := by subst h0; exact h
       obtain ⟨hd, u, v, hy, hv, hk⟩ := Wv (P := M.P) (C' := Z3C M.C O) hT (N := agree w) hm'.frame (fun w' h => hm'.heap.read h) (agree.refl w) h
       obtain ⟨fr2, h1, h2⟩ := VA hm' hd hv hk
       have hn : m ≠ 0 := by omega
       have := IH h1 hl2 hc' h2 hq (agree.refl w)
       rw [X3 hn]
       refine UA (S' := SS (Zr rest) w) (l0 := l) (fun l' w' _ hS hk => hag.trans (hS hk)) _ _ _ _ (fun _ h => h) ?_
       refine JP hQ hs ho hready (quiet2 h0).1 (fun k hk => ((quiet2 h0).2 k hk).1) hc (N := agree w) (fun l' w' hcl hun hS => hS fun k hk => ?_) (.inl ⟨hw, fun w' h => hy w' h⟩) (agree.refl w) this
       cases hlk : l'.getD k false with
       | false => rfl
       | true =>
         have := Z3D hcl k ((quiet2 h0).2 k hk).2 hlk
         rw [UC hun] at this; cases this
     · have h : ADD M o fr' O nx fun v O nx => putK o.dst v fr' fun fr => runD M ops.toList rest fr O nx K := by
         match m, h0, h with
         | m + 3, _, h => exact h
       have hm2 : Models (shMx M O η w) η fr' [] nx a w := ⟨hm'.heap.read (agree.refl w), hm'.size, hm'.nds, hm'.defers, hm'.ro, hm'.frame⟩
       refine alone (alone3 h0) hag (op (Uw (M := shMx M O η w) hT hm2 (fun x sv hx => Y2 hm'.frame hx) (h.out η w) fun u v O2 nx2 η' w' hd hp hH hv hk => ?_))
       obtain ⟨hJ, hag2⟩ := hm'.heap.join hH
       obtain ⟨fr2, h1, h2⟩ := hm'.put hd hp hJ hv hk
       exact afterElse (by omega) h1 h2 (hag.trans hag2)
   split at h
   · rename_i hg
     exact go hm (JJ hg) h
   · rename_i j want hg
     split at h
     · exact h.out.elim
     rename_i s hsl
     split at h
     · rename_i b hb
       have hbv := Yj (hm.frame s _ hb)
       have hy := Vy hsl hbv
       cases b with
       | true =>
         have h := h.t rfl
         have hm' : Models M η ((s, .bool true) :: fr) O nx a w := hm.know hb rfl rfl hbv
         cases want with
         | true => exact go hm' ((Zv hg).2 hy) h
         | false => exact skip hm' (fun hw => by rw [Zv hg, hy] at hw; cases hw) h
       | false =>
         have h := h.f rfl
         have hm' : Models M η ((s, .bool false) :: fr) O nx a w := hm.know hb rfl rfl hbv
         cases want with
         | false => exact go hm' ((Zv hg).2 hy) h
         | true => exact skip hm' (fun hw => by rw [Zv hg, hy] at hw; cases hw) h
     · rename_i hb
       have hbv := hm.frame s _ hb
       simp only [Den, DenL] at hbv
       obtain ⟨vs, hbv, rfl⟩ := hbv
       exact skip hm (fun hw => by rw [Zv hg] at hw; exact JI hsl (by rw [hbv]; simp) hw) h
     · exact h.out.elim
 | .fork i mi j mj p q, fr, O, nx, K, h, l, hl, hc, η, a, w, hm, hq, wc, hag => by
   simp only [Y5, Bool.and_eq_true, beq_iff_eq] at hl
   obtain ⟨⟨⟨⟨⟨hr, hmi⟩, hmj⟩, hdep⟩, hlp⟩, hlq⟩ := hl
   unfold runD at h
   have hi : i ∈ Region.ready .any ops l := by rw [hr]; simp
   have hj : j ∈ Region.ready .any ops l := by rw [hr]; simp
   refine ⟨fun h0 => (by rw [hr] at h0; cases h0), fun x hx => ?_⟩
   rw [hr] at hx
   rcases List.mem_cons.1 hx with rfl | hx
   · exact arm hT hm hag hc hmi hi (fun h0 => by subst h0; exact XQ) (fun k hk => ZA (ZA (List.mem_append_left _ hk))) rfl (fun hk hm' hag => YR hT hQ hs p hk hlp (hc.set hi) hm' hq hag) h.a
   · have hx := List.mem_singleton.1 hx
     subst hx
     exact arm hT hm hag hc hmj hj (fun h0 => by subst h0; exact ZA XQ) (fun k hk => ZA (ZA (List.mem_append_right _ hk))) hdep.symm (fun hk hm' hag => YR hT hQ hs q hk hlq (hc.set hj) hm' hq hag) h.b
 | .fork3 i mi j mj k mk p q r, fr, O, nx, K, h, l, hl, hc, η, a, w, hm, hq, wc, hag => by
   simp only [Y5, Bool.and_eq_true, beq_iff_eq] at hl
   obtain ⟨⟨⟨⟨⟨⟨⟨⟨hr, hmi⟩, hmj⟩, hmk⟩, hdep⟩, hdep2⟩, hlp⟩, hlq⟩, hlr⟩ := hl
   unfold runD at h
   have hi : i ∈ Region.ready .any ops l := by rw [hr]; simp
   have hj : j ∈ Region.ready .any ops l := by rw [hr]; simp
   have hk' : k ∈ Region.ready .any ops l := by rw [hr]; simp
   refine ⟨fun h0 => (by rw [hr] at h0; cases h0), fun x hx => ?_⟩
   rw [hr] at hx
   rcases List.mem_cons.1 hx with rfl | hx
   · exact arm hT hm hag hc hmi hi (fun h0 => by subst h0; exact XQ) (fun k hk => ZA (ZA (ZA (List.mem_append_left _ hk)))) rfl (fun hk hm' hag => YR hT hQ hs p hk hlp (hc.set hi) hm' hq hag) h.a
   · rcases List.mem_cons.1 hx with rfl | hx
     · exact arm hT hm hag hc hmj hj (fun h0 => by subst h0; exact ZA XQ) (fun k hk => ZA (ZA (ZA (List.mem_append_right _ (List.mem_append_left _ hk))))) hdep.symm (fun hk hm' hag => YR hT hQ hs q hk hlq (hc.set hj) hm' hq hag) h.b.a
     · have hx := List.mem_singleton.1 hx
       subst hx
       exact arm hT hm hag hc hmk hk' (fun h0 => by subst h0; exact ZA (ZA XQ)) (fun k hk => ZA (ZA (ZA (List.mem_append_right _ (List.mem_append_right _ hk))))) hdep2.symm (fun hk hm' hag => YR hT hQ hs r hk hlr (hc.set hk') hm' hq hag) h.b.b
 | .join p, fr, O, nx, K, h, l, hl, hc, η, a, w, hm, hq, wc, hag => by
   unfold runD at h
   obtain ⟨fr', he, h⟩ := h.out
   have hm' : Models M η fr' O nx a w := ⟨hm.heap, hm.size, hm.nds, (by rw [he]; exact hm.defers), hm.ro, fun t sv ht => hm.frame t sv (by rw [← he]; exact ht)⟩
   exact YR hT hQ hs p h hl hc hm' hq hag
theorem DRAWN.of {M : Mx} (hT : TabOK M.P M.C.T) (hP : M.P.follows .mixedOrders = true) {id : Nat} {ops : Array Oper} {fr : Fr} {O : Hps} {nx : Nat} {Q : Post} (steps : Plan) (hord : Z2x ops steps = true)
   (h : runD M ops.toList steps fr O nx fun fr O nx => Q .normal fr O nx) : DRAWN M id ops fr O nx Q := by
 simp only [Z2x, Bool.and_eq_true, beq_iff_eq] at hord
 obtain ⟨⟨hs, hlen⟩, hord⟩ := hord
 refine ⟨fun η a w hm => wpIn_region_any hP (Wu (S := SS (Zr steps) { w with drawn := w.drawn + 1 }) _ _ _ _ ?_)⟩
 have hm' : Models M η fr O nx a { w with drawn := w.drawn + 1 } := ⟨hm.heap.drawn (Nat.le_succ _), hm.size, hm.nds, hm.defers, hm.ro, hm.frame⟩
 have hc0 : Closed .any ops (Array.replicate ops.size false) := by
   refine ⟨by simp, fun j o hj hl => ?_⟩
   rcases Nat.lt_or_ge j ops.size with h' | h'
   · simp [h'] at hl
   · simp [h'] at hl
 have key := YR (Q := Z6q M Q) hT (fun c a w hq => hq) hs steps h hord hc0 hm' (fun η fr O nx a w hm hq => ⟨η, fr, O, nx, hm, hq⟩) (agree.refl _)
 rw [hlen] at key
 exact key
end
section
variable {σ : Nat → Nat} {k : Nat}
theorem VD (h : ∀ j, j < k → σ j = j) : ∀ {b : Blk}, Uy k b = true → renB σ b = b
 | .glob g, _ => rfl
 | .loc i, hb => by simp only [Uy, Nat.blt_eq] at hb; simp only [renB, h i hb]
mutual
theorem Jw (h : ∀ j, j < k → σ j = j) : ∀ {v : SV}, ZO k v = true → ren σ v = v
 | .bool _, _ => rfl
 | .int _ _, _ => rfl
 | .str _, _ => rfl
 | .val _, _ => rfl
 | .any, _ => rfl
 | .nb _, _ => rfl
 | .dfs l, hb => by simp only [ZO] at hb; simp only [ren, Yu h hb]
 | .yf b, hb => by simp only [ZO] at hb; simp only [ren, VD h hb]
 | .mp b, hb => by simp only [ZO] at hb; simp only [ren, VD h hb]
 | .ptr b _ _ _, hb => by simp only [ZO] at hb; simp only [ren, VD h hb]
 | .sl b _ _ _ _, hb => by simp only [ZO] at hb; simp only [ren, VD h hb]
 | .agg cs, hb => by simp only [ZO] at hb; simp only [ren, Yu h hb]
 | .arr _ rs, hb => by simp only [ZO] at hb; simp only [ren, XR h hb]
 | .tup vs, hb => by simp only [ZO] at hb; simp only [ren, Yu h hb]
 | .ifc _ v, hb => by simp only [ZO] at hb; simp only [ren, Jw h hb]
 | .fn _ a b, hb => by simp only [ZO, Bool.and_eq_true] at hb; simp only [ren, Yu h hb.1, Yu h hb.2]
theorem Yu (h : ∀ j, j < k → σ j = j) : ∀ {vs : List SV}, ZZ k vs = true → renL σ vs = vs
 | [], _ => rfl
 | c :: cs, hb => by simp only [ZZ, Bool.and_eq_true] at hb; simp only [renL, Jw h hb.1, Yu h hb.2]
theorem XR (h : ∀ j, j < k → σ j = j) : ∀ {vs : List (List SV)}, Y8 k vs = true → YV σ vs = vs
 | [], _ => rfl
 | c :: cs, hb => by simp only [Y8, Bool.and_eq_true] at hb; simp only [YV, Yu h hb.1, XR h hb.2]
end
theorem Z1R (h : ∀ j, j < k → σ j = j) : ∀ {fr : Fr}, VV k fr = true → renF σ fr = fr
 | [], _ => rfl
 | (t, v) :: r, hb => by
   simp only [VV, Bool.and_eq_true] at hb
   simp only [renF, Jw h hb.1, Z1R h hb.2]
theorem Z6G (h : ∀ j, j < k → σ j = j) : ∀ {c : DC}, Wo k c = true → renC σ c = c
 | .v s, hb => by simp only [Wo] at hb; simp only [renC, Jw h hb]
 | .kid _ rs, hb => by simp only [Wo] at hb; simp only [renC, XR h hb]
theorem Z0S (h : ∀ j, j < k → σ j = j) : ∀ {r : List DC}, Xx k r = true → Z0y σ r = r
 | [], _ => rfl
 | c :: cs, hb => by simp only [Xx, Bool.and_eq_true] at hb; simp only [Z0y, Z6G h hb.1, Z0S h hb.2]
theorem Ww (h : ∀ j, j < k → σ j = j) : ∀ {r : List (List DC)}, Yn k r = true → Xn σ r = r
 | [], _ => rfl
 | c :: cs, hb => by simp only [Yn, Bool.and_eq_true] at hb; simp only [Xn, Z0S h hb.1, Ww h hb.2]
theorem VE (h : ∀ j, j < k → σ j = j) : ∀ {hp : Hp}, Z3 k hp = true → renH σ hp = hp
 | .deep _ _ _, hb => by simp only [Z3] at hb; simp only [renH, Ww h hb]
 | .box _, hb => by simp only [Z3] at hb; simp only [renH, Yu h hb]
 | .rows _ _, hb => by simp only [Z3] at hb; simp only [renH, XR h hb]
 | .siter _ _, _ => rfl
 | .tbl _, _ => rfl
 | .bld _ _ _, _ => rfl
 | .dfr _, _ => rfl
 | .lp _ _ fr, hb => by simp only [Z3] at hb; simp only [renH, Z1R h hb]
 | .mp _, hb => by simp only [Z3] at hb; simp only [renH, XR h hb]
theorem Z1S (h : ∀ j, j < k → σ j = j) : ∀ {O : Hps}, Z4 k O = true → renO σ O = O
 | [], _ => rfl
 | (i, hp) :: r, hb => by
   simp only [Z4, Bool.and_eq_true, Nat.blt_eq] at hb
   simp only [renO, h i hb.1, VE h hb.2.1, Z1S h hb.2.2]
end
variable {M : Mx} {fr fr' : Fr} {O O' : Hps} {nx : Nat}
theorem Z86 {k i : Nat} (h : i < k) : (List.range k).getD i 0 = i := by simp [List.getD, h]
theorem Z4T {k nx j : Nat} (h : j < k) : ZK (List.range k) nx j = j := by
 simp only [ZK, List.length_range, if_pos h, Z86 h]
def hereO (O : Hps) : Hps → Prop
 | [] => True
 | (i, h) :: r => match lkp i O with
   | some g => g = h ∧ hereO O r
   | none => False
def hereS (C : Cx) (O : Hps) : Hps → Prop
 | [] => True
 | (i, h) :: r => match J0 C O (.loc i) with
   | some g => g = h ∧ hereS C O r
   | none => False
theorem hereO.at {O : Hps} : ∀ {Oc : Hps}, hereO O Oc → ∀ p ∈ Oc, lkp p.1 O = some p.2
 | [], _, p, hp => by cases hp
 | (i, h) :: r, hs, p, hp => by
   simp only [hereO] at hs
   split at hs
   · rename_i g hg
     obtain ⟨rfl, hs⟩ := hs
     rcases List.mem_cons.1 hp with rfl | hp
     · exact hg
     · exact hereO.at hs p hp
   · exact hs.elim
theorem hereS.at {C : Cx} {O : Hps} : ∀ {Sc : Hps}, hereS C O Sc → ∀ p ∈ Sc, J0 C O (.loc p.1) = some p.2
 | [], _, p, hp => by cases hp
 | (i, h) :: r, hs, p, hp => by
   simp only [hereS] at hs
   split at hs
   · rename_i g hg
     obtain ⟨rfl, hs⟩ := hs
     rcases List.mem_cons.1 hp with rfl | hp
     · exact hg
     · exact hereS.at hs p hp
   · exact hs.elim
theorem Xg {k : Nat} : ∀ {O : Hps}, Z4 k O = true → ∀ p ∈ O, p.1 < k ∧ Z3 k p.2 = true
 | [], _, p, hp => by cases hp
 | (i, h) :: r, hb, p, hp => by
   simp only [Z4, Bool.and_eq_true, Nat.blt_eq] at hb
   rcases List.mem_cons.1 hp with rfl | hp
   · exact ⟨hb.1, hb.2.1⟩
   · exact Xg hb.2.2 p hp
theorem Yv {k : Nat} : ∀ {O : Hps}, Z4 k O = true → ∀ j ∈ Zi O, j < k
 | [], _, j, hj => by cases hj
 | (i, h) :: r, hb, j, hj => by
   simp only [Z4, Bool.and_eq_true, Nat.blt_eq] at hb
   rcases List.mem_cons.1 hj with rfl | hj
   · exact hb.1
   · exact Yv hb.2.2 j hj
theorem Z5P {f : Nat → Nat} : ∀ {l : List Nat}, (∀ j ∈ l, f j = j) → l.map f = l
 | [], _ => rfl
 | x :: l, h => by simp only [List.map_cons, h x (List.mem_cons_self ..), Z5P fun j hj => h j (List.mem_cons_of_mem _ hj)]
theorem Z0T : ∀ {S : Hps} {p : Nat × Hp}, p ∈ S → p.1 ∈ Zi S
 | [], p, hp => by cases hp
 | (i, h) :: S, p, hp => by
   rcases List.mem_cons.1 hp with rfl | hp
   · exact List.mem_cons_self ..
   · exact List.mem_cons_of_mem _ (Z0T hp)
theorem CALL.here {f : FuncId} {args : List SV} {K : SV → Hps → Nat → Prop} {k : Nat} {Oc Sc : Hps} {Q : SV → Hps → Nat → Prop} (sp : Does M.P M.C.T f k args Oc Sc Q)
   (hk : Nat.ble k nx = true) (hb : ZZ k args = true) (hbO : Z4 k Oc = true) (hbS : Z4 k Sc = true) (hO : hereO O Oc) (hS : hereS M.C O Sc)
   (hd : (Zi Sc).all (fun j => !((Zi Oc).any (Nat.beq j))) = true)
   (hQ : ∀ r O' nx', Q r O' nx' → nx' = k ∧ ZO k r = true ∧ Z4 k O' = true)
   (hK : ∀ r O', Q r O' k → K r (O' ++ YB (Zi Oc) O) nx) : CALL M f args O nx K := by
 have hk := Nat.le_of_ble_eq_true hk
 have hσ : ∀ j, j < k → ZK (List.range k) nx j = j := fun j hj => Z4T hj
 have hnames : (Zi Oc).map (ZK (List.range k) nx) = Zi Oc := Z5P fun j hj => hσ j (Yv hbO j hj)
 refine CALL.of (List.range k) sp (by simp) (fun i hi => by have := List.mem_range.1 hi; omega) (Yu hσ hb).symm hb ?_ ?_ ?_ ?_
 · intro p hp
   obtain ⟨h1, h2⟩ := Xg hbO p hp
   exact ⟨h1, by rw [hσ _ h1, VE hσ h2]; exact hO.at p hp, h2⟩
 · intro j hj j' hj' he
   rwa [hσ j (Yv hbO j hj), hσ j' (Yv hbO j' hj')] at he
 · intro p hp
   obtain ⟨h1, h2⟩ := Xg hbS p hp
   refine ⟨h1, by rw [hσ _ h1, VE hσ h2]; exact hS.at p hp, h2, ?_⟩
   rw [hnames, hσ _ h1]
   intro hm
   have hj : p.1 ∈ Zi Sc := Z0T hp
   have := List.all_eq_true.1 hd _ hj
   simp only [Bool.not_eq_eq_eq_not, Bool.not_true] at this
   have h3 : (Zi Oc).any (Nat.beq p.1) = true := List.any_eq_true.2 ⟨p.1, hm, YI _⟩
   rw [h3] at this; cases this
 · intro r O' nx' hq
   obtain ⟨rfl, h1, h2⟩ := hQ r O' nx' hq
   have := hK r O' hq
   rw [Jw hσ h1, Z1S hσ h2, hnames]
   simpa using this
def thereO (σ : Nat → Nat) (O : Hps) : Hps → Prop
 | [] => True
 | (i, h) :: r => match lkp (σ i) O with
   | some g => g = renH σ h ∧ thereO σ O r
   | none => False
def thereS (C : Cx) (σ : Nat → Nat) (O : Hps) : Hps → Prop
 | [] => True
 | (i, h) :: r => match J0 C O (.loc (σ i)) with
   | some g => g = renH σ h ∧ thereS C σ O r
   | none => False
theorem thereO.at {σ : Nat → Nat} {O : Hps} : ∀ {Oc : Hps}, thereO σ O Oc → ∀ p ∈ Oc, lkp (σ p.1) O = some (renH σ p.2)
 | [], _, p, hp => by cases hp
 | (i, h) :: r, hs, p, hp => by
   simp only [thereO] at hs
   split at hs
   · rename_i g hg
     obtain ⟨rfl, hs⟩ := hs
     rcases List.mem_cons.1 hp with rfl | hp
     · exact hg
     · exact thereO.at hs p hp
   · exact hs.elim
theorem thereS.at {C : Cx} {σ : Nat → Nat} {O : Hps} : ∀ {Sc : Hps}, thereS C σ O Sc → ∀ p ∈ Sc, J0 C O (.loc (σ p.1)) = some (renH σ p.2)
 | [], _, p, hp => by cases hp
 | (i, h) :: r, hs, p, hp => by
   simp only [thereS] at hs
   split at hs
   · rename_i g hg
     obtain ⟨rfl, hs⟩ := hs
     rcases List.mem_cons.1 hp with rfl | hp
     · exact hg
     · exact thereS.at hs p hp
   · exact hs.elim
theorem CALL.at {f : FuncId} {args argsc : List SV} {K : SV → Hps → Nat → Prop} {k : Nat} {Oc Sc : Hps} {Q : SV → Hps → Nat → Prop} (L : List Nat) (sp : Does M.P M.C.T f k argsc Oc Sc Q)
   (hL : L.length = k) (hLn : L.all (fun i => Nat.blt i nx) = true) (ha : args = renL (ZK L nx) argsc) (hb : ZZ k argsc = true) (hbO : Z4 k Oc = true) (hbS : Z4 k Sc = true) (hO : thereO (ZK L nx) O Oc) (hS : thereS M.C (ZK L nx) O Sc)
   (hinj : (Zi Oc).all (fun j => (Zi Oc).all fun j' => !(Nat.beq (ZK L nx j) (ZK L nx j')) || Nat.beq j j') = true)
   (hd : (Zi Sc).all (fun j => !((Zi Oc).any fun j' => Nat.beq (ZK L nx j) (ZK L nx j'))) = true)
   (hK : ∀ r O' nx', Q r O' nx' → K (ren (ZK L nx) r) (renO (ZK L nx) O' ++ YB ((Zi Oc).map (ZK L nx)) O) (nx + (nx' - k))) : CALL M f args O nx K := by
 refine CALL.of L sp hL (fun i hi => by have := List.all_eq_true.1 hLn i hi; simpa [Nat.blt_eq] using this) ha hb (fun p hp => ?_) (fun j hj j' hj' he => ?_) (fun p hp => ?_) hK
 · obtain ⟨h1, h2⟩ := Xg hbO p hp
   exact ⟨h1, hO.at p hp, h2⟩
 · have := List.all_eq_true.1 (List.all_eq_true.1 hinj j hj) j' hj'
   simp only [he, YI, Bool.not_true, Bool.false_or] at this
   exact beq_eq this
 · obtain ⟨h1, h2⟩ := Xg hbS p hp
   refine ⟨h1, hS.at p hp, h2, fun hm => ?_⟩
   obtain ⟨j', hj', he⟩ := List.mem_map.1 hm
   have := List.all_eq_true.1 hd _ (Z0T hp)
   simp only [Bool.not_eq_eq_eq_not, Bool.not_true] at this
   have h3 : (Zi Oc).any (fun j' => Nat.beq (ZK L nx p.1) (ZK L nx j')) = true := List.any_eq_true.2 ⟨j', hj', by rw [he]; exact YI _⟩
   rw [h3] at this; cases this
theorem FIN.at {k : Nat} {r : SV} {Q : SV → Hps → Nat → Prop} (hk : M.η0.length = k) (τ : List Nat) (rc : SV) (Oc : Hps) (hτ : τ.all (fun i => Nat.blt i nx) = true) (hr : r = ren (Y9 k τ) rc) (hb : ZO (k + τ.length) rc = true) (hbO : Z4 (k + τ.length) Oc = true)
   (hO : thereO (Y9 k τ) O Oc) (hinj : (Zi Oc).all (fun j => (Zi Oc).all fun j' => !(Nat.beq (Y9 k τ j) (Y9 k τ j')) || Nat.beq j j') = true) (hQ : Q rc Oc (k + τ.length)) : FIN M O nx r Q := by
 refine FIN.keep hk τ (rc := rc) (Oc := Oc) (fun i hi => by have := List.all_eq_true.1 hτ i hi; simpa [Nat.blt_eq] using this) hr hb (fun p hp => ?_) (fun j hj j' hj' he => ?_) hQ
 · obtain ⟨h1, h2⟩ := Xg hbO p hp
   exact ⟨h1, hO.at p hp, h2⟩
 · have := List.all_eq_true.1 (List.all_eq_true.1 hinj j hj) j' hj'
   simp only [he, YI, Bool.not_true, Bool.false_or] at this
   exact beq_eq this
theorem CALL.weak {f : FuncId} {args : List SV} {K : SV → Hps → Nat → Prop} {O1 : Hps} {n1 : Nat} (h : ∀ η w, HeapOK M η w O nx → ∃ η', η <+: η' ∧ HeapOK M η' w O1 n1) (hc : CALL M f args O1 n1 K) : CALL M f args O nx K := by
 refine ⟨fun η w vs H hd => ?_⟩
 obtain ⟨η1, hp, H1⟩ := h η w H
 refine (hc.out η1 w vs H1 (DenL.mono hp hd)).mono ?_
 rintro v w' ⟨r, O', nx', η', h1, h2⟩
 exact ⟨r, O', nx', η', hp.trans h1, h2⟩
def Z0U (nx es : Nat) : Nat → List SV → Option (List SV)
 | 0, .val (.slice none 0 0) :: r => some (.sl (.loc nx) 0 es 0 none :: r)
 | j + 1, c :: r => match Z0U nx es j r with | some r => some (c :: r) | none => none
 | _, _ => none
theorem Z3K {nx es : Nat} : ∀ {j : Nat} {row row' : List SV}, Z0U nx es j row = some row' → ∀ (i : Nat) (sv : SV), row'[i]? = some sv → row[i]? = some sv ∨ (row[i]? = some (SV.val (.slice none 0 0)) ∧ sv = SV.sl (.loc nx) 0 es 0 none)
 | 0, [], _, h => by simp [Z0U] at h
 | 0, c :: r, row', h => by
   unfold Z0U at h
   split at h
   · rename_i e1 e2
     injection e2 with e2 e3
     subst e2 e3
     injection h with h; subst h
     intro i sv hi
     cases i with
     | zero => simp at hi; subst hi; exact .inr ⟨rfl, rfl⟩
     | succ i => exact .inl (by simpa using hi)
   · simp_all
   · cases h
 | j + 1, [], _, h => by simp [Z0U] at h
 | j + 1, c :: r, row', h => by
   unfold Z0U at h
   split at h
   · rename_i r1 hr
     injection h with h; subst h
     intro i sv hi
     cases i with
     | zero => left; simpa using hi
     | succ i =>
       have := Z3K hr i sv (by simpa using hi)
       simpa using this
   · cases h
theorem HeapOK.nilCell {η : Env} {w : World} (H : HeapOK M η w O nx) {i j es : Nat} {row row' : List SV} (hi : lkp i O = some (.box row)) (hr : Z0U nx es j row = some row') :
   ∃ η', η <+: η' ∧ HeapOK M η' w ((nx, .rows es []) :: setK i (.box row') O) (nx + 1) := by
 have hpre : η <+: η ++ [none] := List.prefix_append _ _
 have hnew : (η ++ [none])[nx]? = some none := by rw [List.getElem?_append_right (by rw [H.len]; omega), H.len]; simp
 have hold : ∀ {i h}, lkp i O = some h → (η ++ [none])[i]? = η[i]? := fun {i h} hi => by
   rw [List.getElem?_append_left (by rw [H.len]; exact H.lt hi)]
 have hin : ∀ {a h}, lkp a (setK i (.box row') O) = some h → ∃ h0, lkp a O = some h0 ∧ HpSat (η ++ [none]) w true (.loc a) h ∧ ∀ n, feet (η ++ [none]) w (.loc a) h n → feet η w (.loc a) h0 n := by
   intro a h ha
   rw [ZQ _ _ _ _ (by rw [hi]; rfl)] at ha
   split at ha
   · rename_i e
     subst e
     injection ha with ha
     subst ha
     refine ⟨_, hi, ?_, fun n f => H.stands hpre hi (fun _ _ => rfl) (show feet (η ++ [none]) w (.loc _) (.box row) n from f)⟩
     have := (H.own.1 _ _ hi).1.mono hpre
     simp only [HpSat] at this ⊢
     obtain ⟨e, arr, T, fz, h1, h2, h3, h4⟩ := this
     refine ⟨e, arr, T, fz, h1, h2, h3, fun c sv hc => ?_⟩
     rcases Z3K hr c sv hc with hc' | ⟨hc', rfl⟩
     · exact h4 c sv hc'
     · obtain ⟨v, h5, h6, h7⟩ := h4 c _ hc'
       refine ⟨v, h5, h6, ?_⟩
       simp only [Den] at h7 ⊢
       exact .inl ⟨hnew, h7.1, trivial⟩
   · exact ⟨h, ha, (H.own.1 _ _ ha).1.mono hpre, fun n f => H.stands hpre ha (fun _ _ => rfl) f⟩
 refine ⟨η ++ [none], hpre, H.pre.trans hpre, by simp [H.len], ⟨fun a h ha => ?_, fun a b h h' n ha hb hab f f' => ?_⟩, H.fr, H.sok⟩
 · rw [Z7] at ha
   split at ha
   · rename_i e; subst e; injection ha with ha; subst ha
     exact ⟨.inl ⟨hnew, rfl⟩, fun n f => (feet.none (b := .loc _) hnew f).elim⟩
   · obtain ⟨h0, h1, h2, h3⟩ := hin ha
     exact ⟨h2, fun n f => (H.own.1 a h0 h1).2 n (h3 n f)⟩
 · rw [Z7] at ha hb
   split at ha
   · rename_i e1; subst e1; exact (feet.none (b := .loc _) hnew f).elim
   · split at hb
     · rename_i e2; subst e2; exact (feet.none (b := .loc _) hnew f').elim
     · obtain ⟨h0, h1, _, h3⟩ := hin ha
       obtain ⟨h0', h1', _, h3'⟩ := hin hb
       exact H.own.2 a b h0 h0' n h1 h1' hab (h3 n f) (h3' n f')
theorem CALL.nilCell {f : FuncId} {args : List SV} {K : SV → Hps → Nat → Prop} (i j es : Nat) {row row' : List SV} (hi : lkp i O = some (.box row)) (hr : Z0U nx es j row = some row') (hc : CALL M f args ((nx, .rows es []) :: setK i (.box row') O) (nx + 1) K) : CALL M f args O nx K :=
 CALL.weak (fun η w H => H.nilCell hi hr) hc
theorem FIN.here {k : Nat} {r rc : SV} {Oc : Hps} {Q : SV → Hps → Nat → Prop} (hk : M.η0.length = k) (hr : r = rc) (hb : ZO k rc = true) (hbO : Z4 k Oc = true) (hO : hereO O Oc) (hQ : Q rc Oc k) : FIN M O nx r Q := by
 have hσ : ∀ j, j < k → Y9 k [] j = j := fun j hj => by simp [Y9, hj]
 refine FIN.keep hk [] (rc := rc) (Oc := Oc) (fun i hi => by cases hi) (by rw [Jw hσ hb]; exact hr) hb ?_ ?_ hQ
 · intro p hp
   obtain ⟨h1, h2⟩ := Xg hbO p hp
   exact ⟨h1, by rw [hσ _ h1, VE hσ h2]; exact hO.at p hp, h2⟩
 · intro j hj j' hj' he
   rwa [hσ j (Yv hbO j hj), hσ j' (Yv hbO j' hj')] at he
def Loose (k : Nat) : List SV → List SV → Prop
 | _, [] => True
 | [], _ :: _ => False
 | c :: cs, c' :: cs' => (c' = .any ∨ (c' = c ∧ ZO k c = true)) ∧ Loose k cs cs'
theorem Loose.get {k : Nat} : ∀ {row row' : List SV}, Loose k row row' → ∀ (j : Nat) (sv : SV), row'[j]? = some sv → ∃ c, row[j]? = some c ∧ (sv = .any ∨ (sv = c ∧ ZO k c = true))
 | _, [], _, j, sv, h => by simp at h
 | [], _ :: _, h, _, _, _ => h.elim
 | c :: cs, c' :: cs', h, 0, sv, hj => by simp at hj; subst hj; exact ⟨c, rfl, h.1⟩
 | c :: cs, c' :: cs', h, j + 1, sv, hj => by simp at hj; obtain ⟨d, h1, h2⟩ := Loose.get h.2 j sv hj; exact ⟨d, by simpa using h1, h2⟩
theorem FIN.loose {k : Nat} {r : SV} {Q : SV → Hps → Nat → Prop} (hk : M.η0.length = k) (i : Nat) (row' : List SV) {row : List SV} (hr : plain r = true) (hO : lkp i O = some (.box row)) (hi : Nat.blt i k = true) (hl : Loose k row row') (hQ : Q r [(i, .box row')] k) : FIN M O nx r Q := by
 refine ⟨fun η w v H hd => ⟨r, [(i, .box row')], k, M.η0, hQ, List.prefix_rfl, ?_, ?_⟩⟩
 · have hi : i < k := by simpa [Nat.blt_eq] using hi
   have hget : ∀ j, j < k → η[j]? = M.η0[j]? := fun j hj => by
     obtain ⟨t, ht⟩ := H.pre
     rw [← ht, List.getElem?_append_left (by omega)]
   have hb : Bwd η M.η0 id k := fun j x hj hx => by rw [← hget j hj]; exact hx
   have hsat : HpSat M.η0 w true (.loc i) (.box row') := by
     have := (H.own.1 i _ hO).1
     simp only [HpSat] at this ⊢
     obtain ⟨e, arr, T, fz, h1, h2, h3, h4⟩ := this
     refine ⟨e, arr, T, fz, by simp only [Env.get] at h1 ⊢; rw [← hget i hi]; exact h1, h2, h3, fun j sv hj => ?_⟩
     obtain ⟨c, h5, h6⟩ := hl.get j sv hj
     obtain ⟨u, h7, h8, h9⟩ := h4 j c h5
     refine ⟨u, h7, h8, ?_⟩
     rcases h6 with rfl | ⟨rfl, h6⟩
     · simp only [Den]
     · exact Den.unren hb h6 (by rw [Z0Q (σ := id) (fun _ => rfl)]; exact h9)
   refine ⟨List.prefix_rfl, hk, ⟨fun j h hj => ?_, fun a b h h' n ha hb' hab => ?_⟩, H.fr, H.sok⟩
   · rw [Z7] at hj
     split at hj
     · rename_i e; subst e; injection hj with hj; subst hj
       exact ⟨hsat, fun n f => (H.own.1 _ _ hO).2 n ((show feet M.η0 w (.loc _) (.box row) n from f).mono H.pre)⟩
     · simp [lkp] at hj
   · rw [Z7] at ha hb'
     split at ha
     · split at hb'
       · rename_i e1 e2; exact (hab (e1.trans e2.symm)).elim
       · simp [lkp] at hb'
     · simp [lkp] at ha
 · have hb : Bwd η M.η0 (fun i => i) 0 := fun i x hi => by omega
   exact Den.unren hb (X9 0 hr) (by rw [Xo _ hr]; exact hd)
def anyN : Nat → List SV
 | 0 => []
 | n + 1 => .any :: anyN n
theorem Z5Q {η η' : Env} : ∀ {cs : List SV} {vs : List Value}, DenL η cs vs → DenL η' (anyN cs.length) vs
 | [], vs, h => by simpa [DenL, anyN] using h
 | c :: cs, vs, h => by
   simp only [DenL, anyN, List.length_cons] at h ⊢
   obtain ⟨u, us, rfl, _, h⟩ := h
   exact ⟨u, us, rfl, by simp only [Den], Z5Q h⟩
theorem FIN.anyA (n : Nat) {k : Nat} {r : SV} {cs vs : List SV} {Q : SV → Hps → Nat → Prop} (hk : M.η0.length = k) (hr : r = .tup (.agg cs :: vs)) (hn : VR cs n = true) (hv : YC vs = true) (hQ : Q (.tup (.agg (anyN n) :: vs)) [] k) : FIN M O nx r Q := by
 have hn : cs.length = n := by
   clear hr hQ
   induction n generalizing cs with
   | zero => cases cs with
     | nil => rfl
     | cons a l => simp [VR] at hn
   | succ n ih => cases cs with
     | nil => simp [VR] at hn
     | cons a l => simp only [VR] at hn; simp [ih hn]
 refine ⟨fun η w v H hd => ⟨.tup (.agg (anyN n) :: vs), [], k, M.η0, hQ, List.prefix_rfl, ⟨List.prefix_rfl, hk, ⟨fun i h hi => by simp [lkp] at hi, fun i j h h' n hi => by simp [lkp] at hi⟩, H.fr, H.sok⟩, ?_⟩⟩
 rw [hr] at hd
 simp only [Den, DenL] at hd ⊢
 obtain ⟨us, h1, u, us', h2, ⟨xs, h5, h6, h7⟩, h4⟩ := hd
 refine ⟨us, h1, u, us', h2, ⟨xs, h5, by rw [← hn]; exact Z5Q h6, h7⟩, ?_⟩
 have hb : Bwd η M.η0 (fun i => i) 0 := fun i x hi => by omega
 exact DenL.unren hb (Zz 0 hv) (by rw [ZT _ hv]; exact h4)
class PlF {α : Type} (f : α → List SV) : Prop where
 h : ∀ x, YC (f x) = true
class Pl (rs : List (List SV)) : Prop where
 h : Zs rs = true
class PlD (rs : List (List DC)) : Prop where
 h : YX rs = true
instance {α : Type} {f : α → List SV} [p : PlF f] {l : List α} : Pl (l.map f) := ⟨Yd f p.h l⟩
instance : PlF bytesRow := ⟨fun _ => rfl⟩
theorem Y6 {m i : Nat} {h : Hp} {O : Hps} (h1 : Nat.blt i m = true) (h2 : Z3 m h = true) (h3 : Z4 m O = true) : Z4 m ((i, h) :: O) = true := by simp only [Z4, h1, h2, h3, Bool.and_self]
theorem JR {k : IntKind} {a b : Int} (h : a = b) : Hp.box [.int k a] = Hp.box [.int k b] := by rw [h]
theorem UG {b : Blk} {r es n n' : Nat} {lim : Option Nat} (h : n = n') : Hp.box [.sl b r es n lim] = Hp.box [.sl b r es n' lim] := by rw [h]
section
variable {m es : Nat} {σ τ : Nat → Nat} {rs : List (List SV)} {ds : List (List DC)} {mp : Bool}
theorem Z3L [p : Pl rs] : Z3 m (.rows es rs) = true := YQ m (h := .rows es rs) p.h
theorem Z3M [p : Pl rs] : Z3 m (.mp rs) = true := YQ m (h := .mp rs) p.h
theorem Z0V [p : PlD ds] : Z3 m (.deep mp es ds) = true := YQ m (h := .deep mp es ds) p.h
theorem renR [p : Pl rs] : renH σ (.rows es rs) = .rows es rs := Zn σ (h := .rows es rs) p.h
theorem renM [p : Pl rs] : renH σ (.mp rs) = .mp rs := Zn σ (h := .mp rs) p.h
theorem renDp [p : PlD ds] : renH σ (.deep mp es ds) = .deep mp es ds := Zn σ (h := .deep mp es ds) p.h
theorem Z87 [p : Pl rs] : renH σ (.rows es rs) = renH τ (.rows es rs) := renR.trans renR.symm
theorem Z88 [p : Pl rs] : renH σ (.mp rs) = renH τ (.mp rs) := renM.trans renM.symm
theorem Z89 [p : PlD ds] : renH σ (.deep mp es ds) = renH τ (.deep mp es ds) := renDp.trans renDp.symm
end
section
variable {M : Mx} {fr fr' : Fr} {O O' : Hps} {nx : Nat}
theorem CALL.aA {f : FuncId} {args argsc : List SV} {K : SV → Hps → Nat → Prop} {k : Nat} {Oc Sc : Hps} {Q : SV → Hps → Nat → Prop} (L : List Nat) (sp : Does M.P M.C.T f k argsc Oc Sc Q)
   (hK : ∀ r O' nx', Q r O' nx' → K (ren (ZK L nx) r) (renO (ZK L nx) O' ++ YB ((Zi Oc).map (ZK L nx)) O) (nx + (nx' - k)))
   (hL : L.length = k := by exact rfl) (hLn : L.all (fun i => Nat.blt i nx) = true := by exact rfl) (ha : args = renL (ZK L nx) argsc := by exact rfl) (hb : ZZ k argsc = true := by exact rfl)
   (hbO : Z4 k Oc = true := by (repeat' (first | (refine Y6 rfl ?_ ?_) | exact Z3L | exact Z3M | exact Z0V | rfl))) (hbS : Z4 k Sc = true := by (repeat' (first | (refine Y6 rfl ?_ ?_) | exact Z3L | exact Z3M | exact Z0V | rfl))) (hO : thereO (ZK L nx) O Oc := by (repeat' (first | exact trivial | (with_reducible rfl) | exact renR.symm | exact Z87 | exact renM.symm | exact Z88 | exact renDp.symm | exact Z89 | (exact Zj Pl.h (by simp [YM, List.take_of_length_le] <;> rfl)) | exact rfl | ((conv => whnf); refine ⟨?_, ?_⟩)))) (hS : thereS M.C (ZK L nx) O Sc := by (repeat' (first | exact trivial | (with_reducible rfl) | exact renR.symm | exact Z87 | exact renM.symm | exact Z88 | exact renDp.symm | exact Z89 | (exact Zj Pl.h (by simp [YM, List.take_of_length_le] <;> rfl)) | exact rfl | ((conv => whnf); refine ⟨?_, ?_⟩))))
   (hinj : (Zi Oc).all (fun j => (Zi Oc).all fun j' => !(Nat.beq (ZK L nx j) (ZK L nx j')) || Nat.beq j j') = true := by exact rfl)
   (hd : (Zi Sc).all (fun j => !((Zi Oc).any fun j' => Nat.beq (ZK L nx j) (ZK L nx j'))) = true := by exact rfl) : CALL M f args O nx K :=
 CALL.at L sp hL hLn ha hb hbO hbS hO hS hinj hd hK
theorem FIN.aA {k : Nat} {r : SV} {Q : SV → Hps → Nat → Prop} (hk : M.η0.length = k) (τ : List Nat) (rc : SV) (Oc : Hps) (hQ : Q rc Oc (k + τ.length)) (hτ : τ.all (fun i => Nat.blt i nx) = true := by exact rfl) (hr : r = ren (Y9 k τ) rc := by exact rfl) (hb : ZO (k + τ.length) rc = true := by exact rfl) (hbO : Z4 (k + τ.length) Oc = true := by (repeat' (first | (refine Y6 rfl ?_ ?_) | exact Z3L | exact Z3M | exact Z0V | rfl)))
   (hO : thereO (Y9 k τ) O Oc := by (repeat' (first | exact trivial | (with_reducible rfl) | exact renR.symm | exact Z87 | exact renM.symm | exact Z88 | exact renDp.symm | exact Z89 | (exact Zj Pl.h (by simp [YM, List.take_of_length_le] <;> rfl)) | exact rfl | ((conv => whnf); refine ⟨?_, ?_⟩)))) (hinj : (Zi Oc).all (fun j => (Zi Oc).all fun j' => !(Nat.beq (Y9 k τ j) (Y9 k τ j')) || Nat.beq j j') = true := by exact rfl) : FIN M O nx r Q :=
 FIN.at hk τ rc Oc hτ hr hb hbO hO hinj hQ
theorem GOES.cA {k m : Nat} (hk : M.η0.length = k) (hkm : Nat.ble k m = true := by exact rfl) (hmn : Nat.ble m nx = true := by exact rfl) (hbf : JQ m fr' = true := by exact rfl) (hbo : Z4 m O' = true := by (repeat' (first | (refine Y6 rfl ?_ ?_) | exact Z3L | exact Z3M | exact Z0V | rfl)))
   (hf : cutK fr fr' := by (repeat' (first | (with_reducible rfl) | exact trivial | (exact ZS rfl (by first | omega | (simp (disch := omega) only [lnB, Z9, Zb] <;> omega) | (simp; done) | (simp <;> omega))) | (exact congrArg (SV.int _) (by first | omega | (simp (disch := omega) only [lnB, Z9, Zb] <;> omega) | (simp; done) | (simp <;> omega))) | (exact JR (by first | omega | (simp (disch := omega) only [lnB, Z9, Zb] <;> omega) | (simp; done) | (simp <;> omega))) | (exact UG (by first | omega | (simp (disch := omega) only [lnB, Z9, Zb] <;> omega) | (simp; done) | (simp <;> omega))) | exact renR | exact renM | exact renDp | (with_reducible assumption) | (exact congrArg (Hp.rows _) (by simp [List.take_of_length_le] <;> rfl)) | ((conv => whnf); refine ⟨?_, ?_⟩) | (simp; done) | rfl))) (hO : Z7Z O O' := by (repeat' (first | (with_reducible rfl) | exact trivial | (exact ZS rfl (by first | omega | (simp (disch := omega) only [lnB, Z9, Zb] <;> omega) | (simp; done) | (simp <;> omega))) | (exact congrArg (SV.int _) (by first | omega | (simp (disch := omega) only [lnB, Z9, Zb] <;> omega) | (simp; done) | (simp <;> omega))) | (exact JR (by first | omega | (simp (disch := omega) only [lnB, Z9, Zb] <;> omega) | (simp; done) | (simp <;> omega))) | (exact UG (by first | omega | (simp (disch := omega) only [lnB, Z9, Zb] <;> omega) | (simp; done) | (simp <;> omega))) | exact renR | exact renM | exact renDp | (with_reducible assumption) | (exact congrArg (Hp.rows _) (by simp [List.take_of_length_le] <;> rfl)) | ((conv => whnf); refine ⟨?_, ?_⟩) | (simp; done) | rfl))) (hd : Wq fr fr' = true := by exact rfl) (hro : Wr M.C.ro id m = true := by exact rfl) : GOES M fr O nx fr' O' m := GOES.cutting hk hkm hmn hbf hbo hf hO hd hro
theorem GOES.kA {k : Nat} (hk : M.η0.length = k) (τ : List Nat) (hτ : τ.all (fun i => Nat.blt i nx) = true := by exact rfl)
   (hn : (Zi O').all (fun j => (Zi O').all fun j' => !(Nat.beq (Y9 k τ j) (Y9 k τ j')) || Nat.beq j j') = true := by exact rfl)
   (hbf : JQ (k + τ.length) fr' = true := by exact rfl) (hbo : Z4 (k + τ.length) O' = true := by (repeat' (first | (refine Y6 rfl ?_ ?_) | exact Z3L | exact Z3M | exact Z0V | rfl))) (hf : subK (Y9 k τ) fr fr' := by (repeat' (first | (with_reducible rfl) | exact trivial | exact renR.symm | exact Z87 | exact renM.symm | exact Z88 | exact renDp.symm | exact Z89 | (exact ZS rfl (by first | omega | (simp (disch := omega) only [lnB, Z9, Zb] <;> omega) | (simp; done) | (simp <;> omega))) | (exact congrArg (SV.int _) (by first | omega | (simp (disch := omega) only [lnB, Z9, Zb] <;> omega) | (simp; done) | (simp <;> omega))) | (exact JR (by first | omega | (simp (disch := omega) only [lnB, Z9, Zb] <;> omega) | (simp; done) | (simp <;> omega))) | (exact UG (by first | omega | (simp (disch := omega) only [lnB, Z9, Zb] <;> omega) | (simp; done) | (simp <;> omega))) | (with_reducible assumption) | (exact Zj Pl.h (by simp [YM, List.take_of_length_le] <;> rfl)) | ((conv => whnf); refine ⟨?_, ?_⟩) | (simp only [ren, renB]; done) | rfl))) (hO : Z83 (Y9 k τ) O O' := by (repeat' (first | (with_reducible rfl) | exact trivial | exact renR.symm | exact Z87 | exact renM.symm | exact Z88 | exact renDp.symm | exact Z89 | (exact ZS rfl (by first | omega | (simp (disch := omega) only [lnB, Z9, Zb] <;> omega) | (simp; done) | (simp <;> omega))) | (exact congrArg (SV.int _) (by first | omega | (simp (disch := omega) only [lnB, Z9, Zb] <;> omega) | (simp; done) | (simp <;> omega))) | (exact JR (by first | omega | (simp (disch := omega) only [lnB, Z9, Zb] <;> omega) | (simp; done) | (simp <;> omega))) | (exact UG (by first | omega | (simp (disch := omega) only [lnB, Z9, Zb] <;> omega) | (simp; done) | (simp <;> omega))) | (with_reducible assumption) | (exact Zj Pl.h (by simp [YM, List.take_of_length_le] <;> rfl)) | ((conv => whnf); refine ⟨?_, ?_⟩) | (simp only [ren, renB]; done) | rfl))) (hd : Wq fr fr' = true := by exact rfl) (hro : Wr M.C.ro (Y9 k τ) (k + τ.length) = true := by exact rfl) : GOES M fr O nx fr' O' (k + τ.length) :=
 GOES.keeping hk τ hτ hn hbf hbo hf hO hd hro
end
theorem AU {P Q : Prop} (k : Q) (h : Q → P := by first | (with_reducible exact IF.tt) | (with_reducible exact IF.ff) | exact NEED.au | (with_reducible exact GET.at rfl) | (with_reducible exact GETG.at rfl)) : P := h k
theorem IW {J : Type} {b : Bool} {A B : J → Prop} {j : J} {p q : Prop} (x : p → A j) (y : q → B j)
   (hp : b = true → p := by (intro h; first | (simp (disch := omega) only [hsB, hsC, lnB, Z9, Zb, simprocAttr] at h; exact h) | (exact (show (0 : Nat) = 1 by simp (disch := omega) only [hsB, hsC, lnB, Z9, Zb, simprocAttr] at h)) | exact h))
   (hq : b = false → q := by (intro h; first | (simp (disch := omega) only [hsB, hsC, lnB, Z9, Zb, simprocAttr] at h; exact h) | (exact (show (0 : Nat) = 1 by simp (disch := omega) only [hsB, hsC, lnB, Z9, Zb, simprocAttr] at h)) | exact h)) : IF b A B j := ⟨fun h => x (hp h), fun h => y (hq h)⟩
theorem Zb7 {b : Blk} {r es len : Nat} {lim : Option Nat} (h : 0 < len) : Det (.sl b r es len lim) := by
 intro η u u' h1 h2
 simp only [Den] at h1 h2
 rcases h1 with ⟨_, _, h0⟩ | ⟨e, o, g1, rfl, g3, g4, g5⟩
 · omega
 rcases h2 with ⟨_, _, h0⟩ | ⟨e', o', k1, rfl, k3, k4, k5⟩
 · omega
 rw [g1] at k1
 injection k1 with k1
 injection k1 with k1
 subst k1
 rw [g5 (.inl (by omega)), k5 (.inl (by omega))]
theorem AD {P Q : Prop} (k : Q) (h : Q → P := by first | exact fun k => NEED.mk (Det.of rfl) k | exact fun k => NEED.mk (Zb7 (by omega)) k) : P := h k
def bitF (d i : Nat) : Bool := Nat.beq (Nat.land (Nat.shiftRight d i) 1) 1
theorem Z8a (d i : Nat) : bitF d i = d.testBit i := by
 have h : d.testBit i = decide ((d >>> i) % 2 = 1) := by rw [Nat.testBit_eq_decide_div_mod_eq, Nat.shiftRight_eq_div_pow]
 rw [h]
 have e : Nat.land (Nat.shiftRight d i) 1 = (d >>> i) % 2 := Nat.and_one_is_mod _
 unfold bitF
 rw [e, Bool.eq_iff_iff, decide_eq_true_iff, Nat.beq_eq]
def Z6H : List Edge → Nat → Nat
 | [], s => s
 | e :: r, s => match Region.binds .any e with
   | true => Z6H r (Nat.lor s (Nat.pow 2 e.on))
   | false => Z6H r s
def Wx (o : Oper) : Nat := Z6H o.after.toList 0
theorem W4 : ∀ (r : List Edge) (s k : Nat), (Z6H r s).testBit k = true ↔ s.testBit k = true ∨ ∃ e ∈ r, Region.binds .any e = true ∧ e.on = k
 | [], s, k => by simp [Z6H]
 | e :: r, s, k => by
   unfold Z6H
   split
   · rename_i hb
     rw [W4 r]
     have e1 : (Nat.lor s (Nat.pow 2 e.on)).testBit k = (s.testBit k || decide (e.on = k)) := by
       show (s ||| 2 ^ e.on).testBit k = _
       rw [Nat.testBit_or, Nat.testBit_two_pow]
     rw [e1, Bool.or_eq_true, decide_eq_true_iff]
     simp only [List.mem_cons, exists_eq_or_imp, hb, true_and, or_assoc]
   · rename_i hb
     rw [W4 r]
     simp only [List.mem_cons, exists_eq_or_imp, hb, Bool.false_eq_true, false_and, false_or]
theorem Uc (o : Oper) (k : Nat) : (Wx o).testBit k = true ↔ ∃ e ∈ o.after, Region.binds .any e = true ∧ e.on = k := by
 unfold Wx; rw [W4]; simp
structure Rep (ops : Array Oper) (l : Array Bool) (d : Nat) : Prop where
 size : l.size = ops.size
 at' : ∀ j, l.getD j false = d.testBit j
theorem Rep.atT {ops : Array Oper} {l : Array Bool} {d j : Nat} (h : Rep ops l d) (hj : j < ops.size) : l.getD j true = d.testBit j := by
 rw [← h.at' j]; simp [Array.getD, h.size, hj]
theorem Rep.set {ops : Array Oper} {l : Array Bool} {d i : Nat} (h : Rep ops l d) (hi : i < ops.size) : Rep ops (l.setIfInBounds i true) (Nat.lor d (Nat.pow 2 i)) := by
 refine ⟨by simp [h.size], fun j => ?_⟩
 show _ = (d ||| 2 ^ i).testBit j
 rw [Nat.testBit_or, Nat.testBit_two_pow]
 by_cases hij : i = j
 · subst hij
   have := h.size
   simp [Array.getD, this, hi]
 · rw [getD_set_ne false hij, h.at' j]; simp [hij]
theorem Z9A {ops : Array Oper} {l : Array Bool} {d : Nat} (h : Rep ops l d) (o : Oper) : Nat.beq (Nat.land (Wx o) d) (Wx o) = o.after.all fun e => !Region.binds .any e || l.getD e.on false := by
 rw [Bool.eq_iff_iff, Nat.beq_eq, Array.all_eq_true_iff_forall_mem]
 constructor
 · intro he e hm
   rw [h.at' e.on]
   by_cases hb : Region.binds .any e = true
   · have h1 := (Uc o e.on).2 ⟨e, hm, hb, rfl⟩
     rw [← he] at h1
     have h2 : ((Wx o) &&& d).testBit e.on = true := h1
     rw [Nat.testBit_and, Bool.and_eq_true] at h2
     simp [h2.2]
   · simp [hb]
 · intro hall
   refine Nat.eq_of_testBit_eq fun k => ?_
   show ((Wx o) &&& d).testBit k = _
   rw [Nat.testBit_and]
   cases hk : (Wx o).testBit k with
   | false => rfl
   | true =>
     obtain ⟨e, hm, hb, rfl⟩ := (Uc o k).1 hk
     have := hall e hm
     rw [hb, h.at' e.on] at this
     simpa using this
abbrev Ent3 := Nat × Nat × Oper
def tabF : List Oper → Nat → List Ent3
 | [], _ => []
 | o :: r, n => (n, Wx o, o) :: tabF r (Nat.succ n)
def J8 (d : Nat) : List Ent3 → List Nat
 | [] => []
 | (i, nd, _) :: r => match bitF d i with
   | true => J8 d r
   | false => match Nat.beq (Nat.land nd d) nd with
     | true => i :: J8 d r
     | false => J8 d r
def Z2D (ops : Array Oper) (oi : Oper) (i d : Nat) : List Ent3 → Bool
 | [] => true
 | (j, nd, oj) :: r => match Nat.beq j i with
   | true => Z2D ops oi i d r
   | false => match bitF d j with
     | true => Z2D ops oi i d r
     | false => match bitF nd i with
       | true => Z2D ops oi i d r
       | false => match oi.apart ops oj with
         | true => Z2D ops oi i d r
         | false => false
theorem Z3N {ops : Array Oper} {l : Array Bool} {d : Nat} (h : Rep ops l d) : ∀ (r : List Oper) (n : Nat), n + r.length = ops.size → (∀ k, k < r.length → ops[n + k]? = r[k]?) →
   J8 d (tabF r n) = (List.range' n r.length).filter fun i => !l.getD i true && ((ops[i]?).map (·.after.all fun e => !Region.binds .any e || l.getD e.on false)).getD false
 | [], n, _, _ => rfl
 | o :: r, n, hn, hk => by
   have h0 : ops[n]? = some o := by have := hk 0 (by simp); simpa using this
   have hlt : n < ops.size := by simp at hn; omega
   have ih := Z3N h r (n + 1) (by simp at hn; omega) fun k hk' => by
     have := hk (k + 1) (by simp; omega)
     rw [List.getElem?_cons_succ] at this
     rw [← this]; congr 1; omega
   have e1 : (List.range' n (o :: r).length) = n :: List.range' (n + 1) r.length := by rw [List.length_cons, List.range'_succ]
   rw [e1, List.filter_cons, h0, ← ih]
   simp only [tabF, J8, Z8a, Z9A h o, h.atT hlt, Option.map_some, Option.getD_some]
   cases d.testBit n <;> cases (o.after.all fun e => !Region.binds .any e || l.getD e.on false) <;> simp
theorem JS {ops : Array Oper} {l : Array Bool} {d : Nat} (h : Rep ops l d) : J8 d (tabF ops.toList 0) = Region.ready .any ops l := by
 rw [Z3N h ops.toList 0 (by simp) (fun k _ => by simp)]
 unfold Region.ready
 rw [List.range_eq_range']; simp
theorem Z1T {ops : Array Oper} {l : Array Bool} {d i : Nat} {oi : Oper} (h : Rep ops l d) : ∀ (r : List Oper) (n : Nat), n + r.length = ops.size → Z2D ops oi i d (tabF r n) = true →
   ∀ k (hk : k < r.length), (n + k == i || l.getD (n + k) true || r[k].after.any (fun e => Region.binds .any e && e.on == i) || oi.apart ops r[k]) = true
 | [], n, _, _, k, hk => by simp at hk
 | o :: r, n, hn, hf, k, hk => by
   have hlt : n < ops.size := by simp at hn; omega
   simp only [tabF, Z2D, Z8a] at hf
   have hstep : Z2D ops oi i d (tabF r (n + 1)) = true ∧ (n == i || l.getD n true || o.after.any (fun e => Region.binds .any e && e.on == i) || oi.apart ops o) = true := by
     split at hf
     · rename_i hb; exact ⟨hf, by simp [Nat.eq_of_beq_eq_true hb]⟩
     · split at hf
       · rename_i hb; exact ⟨hf, by rw [h.atT hlt, hb]; simp⟩
       · split at hf
         · rename_i hb
           refine ⟨hf, ?_⟩
           obtain ⟨e, hm, he, hon⟩ := (Uc o i).1 hb
           have : o.after.any (fun e => Region.binds .any e && e.on == i) = true := by rw [Array.any_eq_true']; exact ⟨e, hm, by simp [he, hon]⟩
           rw [this]; simp
         · split at hf
           · rename_i hb; exact ⟨hf, by rw [hb]; simp⟩
           · cases hf
   cases k with
   | zero => simpa using hstep.2
   | succ k =>
     have := Z1T h r (n + 1) (by simp at hn; omega) hstep.1 k (by simpa using hk)
     rw [show n + (k + 1) = n + 1 + k by omega]
     simpa using this
theorem Zb8 {ops : Array Oper} {l : Array Bool} {d i : Nat} {oi : Oper} (h : Rep ops l d) (hi : ops[i]? = some oi) (hf : Z2D ops oi i d (tabF ops.toList 0) = true) : Region.free .any ops l i = true := by
 unfold Region.free
 rw [hi]
 simp only
 rw [List.all_eq_true]
 intro j hj
 rw [List.mem_range] at hj
 have := Z1T h ops.toList 0 (by simp) hf j (by simpa using hj)
 rw [Nat.zero_add] at this
 have e : ops[j]? = some ops.toList[j] := by simp [hj]
 rw [e]
 simp only [Bool.or_eq_true] at this ⊢
 rcases this with ((h1 | h1) | h1) | h1
 · exact .inl (.inl h1)
 · exact .inl (.inr h1)
 · exact .inr (.inl h1)
 · exact .inr (.inr h1)
def Z5R (ops : Array Oper) (t : List Ent3) (i d : Nat) : Bool := match nth ops.toList i with | some oi => Z2D ops oi i d t | none => false
def one (i : Nat) : List Nat → Bool
 | [a] => Nat.beq a i
 | _ => false
def two (i j : Nat) : List Nat → Bool
 | [a, b] => match Nat.beq a i with | true => Nat.beq b j | false => false
 | _ => false
def Zb9 (i j k : Nat) : List Nat → Bool
 | [a, b, c] => match Nat.beq a i with | true => (match Nat.beq b j with | true => Nat.beq c k | false => false) | false => false
 | _ => false
theorem Zaw {i : Nat} {l : List Nat} (h : one i l = true) : l = [i] := by
 unfold one at h
 split at h
 · rw [Nat.eq_of_beq_eq_true h]
 · cases h
theorem ZbS {i j : Nat} {l : List Nat} (h : two i j l = true) : l = [i, j] := by
 unfold two at h
 split at h
 · split at h
   · rename_i h1; rw [Nat.eq_of_beq_eq_true h1, Nat.eq_of_beq_eq_true h]
   · cases h
 · cases h
theorem Z9B {i j k : Nat} {l : List Nat} (h : Zb9 i j k l = true) : l = [i, j, k] := by
 unfold Zb9 at h
 split at h
 · split at h
   · split at h
     · rename_i h1 _ h2; rw [Nat.eq_of_beq_eq_true h1, Nat.eq_of_beq_eq_true h2, Nat.eq_of_beq_eq_true h]
     · cases h
   · cases h
 · cases h
def Xq (ops : Array Oper) (ms : List Nat) (t : List Ent3) : Plan → Nat → Bool
 | .nil, d => (J8 d t).isEmpty
 | .take i m rest, d =>
   (match m with
    | 0 => one i (J8 d t)
    | 1 => (J8 d t).contains i && Z5R ops t i d && (Zr rest).all (fun k => k != i)
    | 2 => (J8 d t).contains i && Z5R ops t i d && (Zr rest).all (fun k => k != i && (ms.getD k 0).testBit i)
    | _ => one i (J8 d t)) &&
   Xq ops ms t rest (Nat.lor d (Nat.pow 2 i))
 | .fork i mi j mj a b, d => two i j (J8 d t) && Jv mi && Jv mj && a.depth == b.depth && Xq ops ms t a (Nat.lor d (Nat.pow 2 i)) && Xq ops ms t b (Nat.lor d (Nat.pow 2 j))
 | .fork3 i mi j mj k mk a b c, d => Zb9 i j k (J8 d t) && Jv mi && Jv mj && Jv mk && a.depth == b.depth && a.depth == c.depth && Xq ops ms t a (Nat.lor d (Nat.pow 2 i)) && Xq ops ms t b (Nat.lor d (Nat.pow 2 j)) && Xq ops ms t c (Nat.lor d (Nat.pow 2 k))
 | .join p, d => Xq ops ms t p d
theorem XC {ops : Array Oper} {l : Array Bool} {i : Nat} (h : i ∈ Region.ready .any ops l) : i < ops.size := by
 unfold Region.ready at h
 exact List.mem_range.1 (List.mem_filter.1 h).1
theorem Z3O {ops : Array Oper} {l : Array Bool} {d i : Nat} (h : Rep ops l d) (hi : i < ops.size) (hf : Z5R ops (tabF ops.toList 0) i d = true) : Region.free .any ops l i = true := by
 unfold Z5R at hf
 split at hf
 · rename_i oi ho
   refine Zb8 h ?_ hf
   rw [XK] at ho
   simpa using ho
 · cases hf
theorem Yq {ops : Array Oper} {ms : List Nat} : ∀ (p : Plan) (l : Array Bool) (d : Nat), Rep ops l d → Xq ops ms (tabF ops.toList 0) p d = true → Y5 ops ms p l = true
 | .nil, l, d, h, hs => by rw [Xq, JS h] at hs; exact hs
 | .join p, l, d, h, hs => by rw [Xq] at hs; rw [Y5]; exact Yq p l d h hs
 | .fork i mi j mj a b, l, d, h, hs => by
   rw [Xq, JS h] at hs
   simp only [Bool.and_eq_true] at hs
   obtain ⟨⟨⟨⟨⟨h1, h2⟩, h3⟩, h4⟩, h5⟩, h6⟩ := hs
   have e := ZbS h1
   have li := XC (ops := ops) (l := l) (i := i) (by rw [e]; simp)
   have lj := XC (ops := ops) (l := l) (i := j) (by rw [e]; simp)
   rw [Y5, e, h2, h3, h4, Yq a _ _ (h.set li) h5, Yq b _ _ (h.set lj) h6]
   simp
 | .fork3 i mi j mj k mk a b c, l, d, h, hs => by
   rw [Xq, JS h] at hs
   simp only [Bool.and_eq_true] at hs
   obtain ⟨⟨⟨⟨⟨⟨⟨⟨h1, h2⟩, h3⟩, h3'⟩, h4⟩, h4'⟩, h5⟩, h6⟩, h7⟩ := hs
   have e := Z9B h1
   have li := XC (ops := ops) (l := l) (i := i) (by rw [e]; simp)
   have lj := XC (ops := ops) (l := l) (i := j) (by rw [e]; simp)
   have lk := XC (ops := ops) (l := l) (i := k) (by rw [e]; simp)
   rw [Y5, e, h2, h3, h3', h4, h4', Yq a _ _ (h.set li) h5, Yq b _ _ (h.set lj) h6, Yq c _ _ (h.set lk) h7]
   simp
 | .take i 0 rest, l, d, h, hs => by
   rw [Xq, JS h, Bool.and_eq_true] at hs
   obtain ⟨h1, h2⟩ := hs
   have e := Zaw h1
   have li := XC (ops := ops) (l := l) (i := i) (by rw [e]; simp)
   rw [Y5, Yq rest _ _ (h.set li) h2, e]; simp
 | .take i 1 rest, l, d, h, hs => by
   rw [Xq, JS h, Bool.and_eq_true] at hs
   obtain ⟨h1, h2⟩ := hs
   simp only [Bool.and_eq_true] at h1
   have li := XC (ops := ops) (l := l) (i := i) (by simpa using h1.1.1)
   rw [Y5, Yq rest _ _ (h.set li) h2, Bool.and_true]
   simp only [Bool.and_eq_true]
   exact ⟨⟨h1.1.1, Z3O h li h1.1.2⟩, h1.2⟩
 | .take i 2 rest, l, d, h, hs => by
   rw [Xq, JS h, Bool.and_eq_true] at hs
   obtain ⟨h1, h2⟩ := hs
   simp only [Bool.and_eq_true] at h1
   have li := XC (ops := ops) (l := l) (i := i) (by simpa using h1.1.1)
   rw [Y5, Yq rest _ _ (h.set li) h2, Bool.and_true]
   simp only [Bool.and_eq_true]
   exact ⟨⟨h1.1.1, Z3O h li h1.1.2⟩, h1.2⟩
 | .take i (m + 3) rest, l, d, h, hs => by
   have hs : (one i (J8 d (tabF ops.toList 0)) && Xq ops ms (tabF ops.toList 0) rest (Nat.lor d (Nat.pow 2 i))) = true := hs
   rw [JS h, Bool.and_eq_true] at hs
   obtain ⟨h1, h2⟩ := hs
   have e := Zaw h1
   have li := XC (ops := ops) (l := l) (i := i) (by rw [e]; simp)
   show ((Region.ready .any ops l == [i]) && Y5 ops ms rest (l.setIfInBounds i true)) = true
   rw [Yq rest _ _ (h.set li) h2, e]; simp
def Z8b (ops : Array Oper) (steps : Plan) : Bool :=
 Region.noSelect ops && steps.depth == ops.size && Xq ops (W3 ops.toList []) (tabF ops.toList 0) steps 0
theorem rep0 (ops : Array Oper) : Rep ops (Array.replicate ops.size false) 0 := ⟨by simp, fun j => by simp [Array.getD]⟩
theorem Z8c {ops : Array Oper} {steps : Plan} (h : Z8b ops steps = true) : Z2x ops steps = true := by
 unfold Z8b at h
 unfold Z2x
 rw [Bool.and_eq_true] at h ⊢
 exact ⟨h.1, Yq _ _ _ (rep0 ops) h.2⟩
theorem DRAWN.ofF {M : Mx} (hT : TabOK M.P M.C.T) (hP : M.P.follows .mixedOrders = true) {id : Nat} {ops : Array Oper} {fr : Fr} {O : Hps} {nx : Nat} {Q : Post} (steps : Plan) (hord : Z8b ops steps = true)
   (h : runD M ops.toList steps fr O nx fun fr O nx => Q .normal fr O nx) : DRAWN M id ops fr O nx Q := DRAWN.of hT hP steps (Z8c hord) h
theorem JOIN.to {M : Mx} {ops : List Oper} {p : Plan} {K : Fr → Hps → Nat → Prop} {f g : Fr} {O O' : Hps} {n n' : Nat} (r : runD M ops p g O' n' K) (hO : O = O') (hn : n = n') (h : ∀ t, lkp t g = lkp t f) : JOIN (fun fr => runD M ops p fr O n K) f := by
 subst hO hn; exact ⟨g, h, r⟩
theorem Z4U {t : Nat} : ∀ (g fr : Fr), lkp t (g ++ fr) = match lkp t g with | some v => some v | none => lkp t fr
 | [], fr => rfl
 | (d, v) :: g, fr => by
   rw [List.cons_append, Z7, Z7, Z4U g fr]
   by_cases h : t = d
   · rw [if_pos h, if_pos h]
   · rw [if_neg h, if_neg h]
theorem JOIN.to3 {M : Mx} {ops : List Oper} {p : Plan} {K : Fr → Hps → Nat → Prop} {fr g : Fr} {O O' : Hps} {n n' d e f : Nat} {x y z : SV} (r : runD M ops p (g ++ fr) O' n' K) (hO : O = O') (hn : n = n') (h : ∀ t, lkp t g = lkp t [(d, x), (e, y), (f, z)]) : JOIN (fun fr => runD M ops p fr O n K) ((d, x) :: (e, y) :: (f, z) :: fr) :=
 JOIN.to r hO hn fun t => by
   show _ = lkp t ([(d, x), (e, y), (f, z)] ++ fr)
   rw [Z4U, Z4U, h t]
theorem FORK.boxes {M : Mx} {ops : List Oper} {p : Plan} {fr : Fr} {O : Hps} {nx : Nat} {K : Fr → Hps → Nat → Prop} (g1 g2 : Fr) (o1 o2 : Hps) (n : Nat)
   (arms : runD M ops p (g1 ++ fr) (o1 ++ O) n K → runD M ops p (g2 ++ fr) (o2 ++ O) n K →
     FORK (oneD M ops 1 3 fr O nx fun fr O nx => runD M ops (.fork 2 3 3 3 (.take 3 3 (.take 4 0 (.take 5 0 (.join p)))) (.take 2 3 (.take 4 0 (.take 5 0 (.join p))))) fr O nx K)
     (FORK (oneD M ops 2 3 fr O nx fun fr O nx => runD M ops (.fork 1 3 3 3 (.take 3 3 (.take 4 0 (.take 5 0 (.join p)))) (.fork 1 3 4 0 (.take 4 0 (.take 5 0 (.join p))) (.take 1 2 (.take 5 0 (.join p))))) fr O nx K)
     (oneD M ops 3 3 fr O nx fun fr O nx => runD M ops (.fork 1 3 2 3 (.take 2 3 (.take 4 0 (.take 5 0 (.join p)))) (.fork 1 3 4 0 (.take 4 0 (.take 5 0 (.join p))) (.take 1 2 (.take 5 0 (.join p))))) fr O nx K)))
   (r1 : runD M ops p (g1 ++ fr) (o1 ++ O) n K) (r2 : runD M ops p (g2 ++ fr) (o2 ++ O) n K) :
     FORK (oneD M ops 1 3 fr O nx fun fr O nx => runD M ops (.fork 2 3 3 3 (.take 3 3 (.take 4 0 (.take 5 0 (.join p)))) (.take 2 3 (.take 4 0 (.take 5 0 (.join p))))) fr O nx K)
     (FORK (oneD M ops 2 3 fr O nx fun fr O nx => runD M ops (.fork 1 3 3 3 (.take 3 3 (.take 4 0 (.take 5 0 (.join p)))) (.fork 1 3 4 0 (.take 4 0 (.take 5 0 (.join p))) (.take 1 2 (.take 5 0 (.join p))))) fr O nx K)
     (oneD M ops 3 3 fr O nx fun fr O nx => runD M ops (.fork 1 3 2 3 (.take 2 3 (.take 4 0 (.take 5 0 (.join p)))) (.fork 1 3 4 0 (.take 4 0 (.take 5 0 (.join p))) (.take 1 2 (.take 5 0 (.join p))))) fr O nx K)) := arms r1 r2
theorem FORK.swap {M : Mx} {ops : List Oper} {p : Plan} {fr : Fr} {O : Hps} {nx : Nat} {K : Fr → Hps → Nat → Prop} (g : Fr) (a b : Nat) (x y : Hp)
   (arms : runD M ops p (g ++ fr) (setK b y (setK a x O)) nx K → FORK (oneD M ops 1 3 fr O nx fun fr O nx => runD M ops (.take 2 0 (.take 3 0 (.join p))) fr O nx K) (oneD M ops 2 0 fr O nx fun fr O nx => runD M ops (.take 1 2 (.take 3 0 (.join p))) fr O nx K))
   (r : runD M ops p (g ++ fr) (setK b y (setK a x O)) nx K) : FORK (oneD M ops 1 3 fr O nx fun fr O nx => runD M ops (.take 2 0 (.take 3 0 (.join p))) fr O nx K) (oneD M ops 2 0 fr O nx fun fr O nx => runD M ops (.take 1 2 (.take 3 0 (.join p))) fr O nx K) := arms r
end Go.Sx
namespace Go.Our
open Go.Sx
structure Tri {α : Type} (c : α → α → Int) : Prop where
 rng : ∀ a b, c a b = -1 ∨ c a b = 0 ∨ c a b = 1
 anti : ∀ a b, c b a = - c a b
 zero : ∀ a b, c a b = 0 ↔ a = b
 trans : ∀ a b d, c a b ≤ 0 → c b d ≤ 0 → c a d ≤ 0
def cmpI (a b : Int) : Int := if a < b then -1 else if a > b then 1 else 0
theorem triI : Tri cmpI where
 rng a b := by unfold cmpI; (repeat' split) <;> omega
 anti a b := by unfold cmpI; (repeat' split) <;> omega
 zero a b := by unfold cmpI; (repeat' split) <;> omega
 trans a b d := by unfold cmpI; (repeat' split) <;> omega
open Lib (compareBytes)
theorem Zax : ∀ a b, compareBytes a b = -1 ∨ compareBytes a b = 0 ∨ compareBytes a b = 1
 | [], [] => by simp [compareBytes]
 | [], _ :: _ => by simp [compareBytes]
 | _ :: _, [] => by simp [compareBytes]
 | a :: as_, b :: bs => by
   unfold compareBytes
   split
   · simp
   · split
     · simp
     · exact Zax as_ bs
theorem Z8d : ∀ a b, compareBytes b a = - compareBytes a b
 | [], [] => by simp [compareBytes]
 | [], _ :: _ => by simp [compareBytes]
 | _ :: _, [] => by simp [compareBytes]
 | a :: as_, b :: bs => by
   unfold compareBytes
   simp only [UInt8.lt_iff_toNat_lt]
   by_cases h : a.toNat < b.toNat
   · have : ¬ b.toNat < a.toNat := by omega
     simp [h, this]
   · by_cases h' : b.toNat < a.toNat
     · simp [h, h']
     · simp only [h, h', if_false]; exact Z8d as_ bs
theorem Z8e : ∀ a b, compareBytes a b = 0 ↔ a = b
 | [], [] => by simp [compareBytes]
 | [], _ :: _ => by simp [compareBytes]
 | _ :: _, [] => by simp [compareBytes]
 | a :: as_, b :: bs => by
   unfold compareBytes
   simp only [UInt8.lt_iff_toNat_lt, List.cons.injEq, ← UInt8.toNat_inj]
   by_cases h : a.toNat < b.toNat
   · simp [h]; omega
   · by_cases h' : b.toNat < a.toNat
     · simp [h, h']; omega
     · have : a.toNat = b.toNat := by omega
       simp only [this, Nat.lt_irrefl, if_false, true_and]; exact Z8e as_ bs
theorem Z5S : ∀ a b c, compareBytes a b ≤ 0 → compareBytes b c ≤ 0 → compareBytes a c ≤ 0
 | [], _, [] => by simp [compareBytes]
 | [], _, _ :: _ => by simp [compareBytes]
 | _ :: _, [], _ => by simp [compareBytes]
 | _ :: _, _ :: _, [] => by simp [compareBytes]
 | a :: as_, b :: bs, c :: cs => by
   unfold compareBytes
   simp only [UInt8.lt_iff_toNat_lt]
   have ih := Z5S as_ bs cs
   (repeat' split) <;> first | omega | (intro x y; first | exact ih x y | omega)
def cmpL (a b : List UInt8) : Int := compareBytes a b
theorem triL : Tri cmpL where
 rng a b := Zax _ _
 anti a b := Z8d _ _
 zero a b := Z8e _ _
 trans a b d := Z5S _ _ _
def Xh {β γ : Type} (c : β → β → Int) (d : γ → γ → Int) (a b : β × γ) : Int := if c a.1 b.1 ≠ 0 then c a.1 b.1 else d a.2 b.2
theorem VF {β γ : Type} {c : β → β → Int} {d : γ → γ → Int} (hc : Tri c) (hd : Tri d) : Tri (Xh c d) where
 rng a b := by unfold Xh; split <;> first | exact hc.rng _ _ | exact hd.rng _ _
 anti a b := by
   unfold Xh
   rw [hc.anti a.1 b.1, hd.anti a.2 b.2]
   by_cases h : c a.1 b.1 = 0
   · simp [h]
   · have : ¬ - c a.1 b.1 = 0 := by omega
     simp [h, this]
 zero a b := by
   unfold Xh
   by_cases h : c a.1 b.1 = 0
   · simp only [h, ne_eq, not_true_eq_false, if_false]
     rw [hd.zero]
     have hf := (hc.zero _ _).1 h
     exact ⟨fun hg => Prod.ext hf hg, fun e => by rw [e]⟩
   · simp only [ne_eq, h, not_false_eq_true, if_true, false_iff]
     intro e; subst e
     exact h ((hc.zero _ _).2 rfl)
 trans a b e := by
   unfold Xh
   intro h1 h2
   have r1 := hc.rng a.1 b.1; have r2 := hc.rng b.1 e.1
   have t1 := hc.trans a.1 b.1 e.1
   by_cases x : c a.1 b.1 = 0
   · have ex := (hc.zero _ _).1 x
     simp only [x, ne_eq, not_true_eq_false, if_false] at h1
     rw [ex]
     by_cases y : c b.1 e.1 = 0
     · simp only [y, ne_eq, not_true_eq_false, if_false] at h2 ⊢
       exact hd.trans _ _ _ h1 h2
     · simp only [ne_eq, y, not_false_eq_true, if_true] at h2 ⊢
       exact h2
   · simp only [ne_eq, x, not_false_eq_true, if_true] at h1
     by_cases y : c b.1 e.1 = 0
     · have ey := (hc.zero _ _).1 y
       rw [← ey]
       simp only [ne_eq, x, not_false_eq_true, if_true]; exact h1
     · simp only [ne_eq, y, not_false_eq_true, if_true] at h2
       have hle := t1 h1 h2
       have hne : c a.1 e.1 ≠ 0 := by
         intro hz
         have e1 := (hc.zero _ _).1 hz
         rw [← e1] at h2 y
         have := hc.anti a.1 b.1
         omega
       simp only [ne_eq, hne, not_false_eq_true, if_true]; exact hle
theorem Z8f {α β : Type} {c : β → β → Int} (hc : Tri c) (f : α → β) (hf : ∀ a b, f a = f b → a = b) : Tri (fun a b => c (f a) (f b)) where
 rng a b := hc.rng _ _
 anti a b := hc.anti _ _
 zero a b := by rw [hc.zero]; exact ⟨hf a b, fun e => by rw [e]⟩
 trans a b d := hc.trans _ _ _
def Tm.key (x : Tm) : Int × List UInt8 × List UInt8 × List UInt8 := (x.k, x.t, x.y, x.l)
def ZM (a b : Tm) : Int := Xh cmpI (Xh cmpL (Xh cmpL cmpL)) a.key b.key
theorem triT : Tri ZM := Z8f (VF triI (VF triL (VF triL triL))) Tm.key (fun a b h => by
 cases a; cases b; simp [Tm.key] at h; simp [h])
def Qd.key (q : Qd) : Tm × Tm × Tm × Tm := (q.g, q.s, q.p, q.o)
def ZB (a b : Qd) : Int := Xh ZM (Xh ZM (Xh ZM ZM)) a.key b.key
theorem triQ : Tri ZB := Z8f (VF triT (VF triT (VF triT triT))) Qd.key (fun a b h => by
 cases a; cases b; simp [Qd.key] at h; simp [h])
def orI : List Int → Int
 | [] => 0
 | x :: l => if x ≠ 0 then x else orI l
theorem ZbT (a b : Tm) : orI [cmpI a.k b.k, cmpL a.t b.t, cmpL a.y b.y, cmpL a.l b.l] = ZM a b := by
 simp only [orI, ZM, Xh, Tm.key]
 (repeat' split) <;> simp_all
theorem ZbU (a b : Qd) : orI [ZM a.g b.g, ZM a.s b.s, ZM a.p b.p, ZM a.o b.o] = ZB a b := by
 simp only [orI, ZB, Xh, Qd.key]
 (repeat' split) <;> simp_all
abbrev Qd.row (q : Qd) : List SV := [.int .i64 q.s.k, .str q.s.t, .str q.s.y, .str q.s.l, .int .i64 q.p.k, .str q.p.t, .str q.p.y, .str q.p.l, .int .i64 q.o.k, .str q.o.t, .str q.o.y, .str q.o.l, .int .i64 q.g.k, .str q.g.t, .str q.g.y, .str q.g.l]
def Za (q : Qd) : List SV := q.row
def Zy (x : Tm) : List SV := [.int .i64 x.k, .str x.t, .str x.y, .str x.l]
theorem Zu (l : List Tm) : Zs (l.map Zy) = true := Yd _ (fun _ => rfl) l
instance : PlF Zy := ⟨fun _ => rfl⟩
theorem Tm.ext' {a b : Tm} (h : Zy a = Zy b) : a = b := by
 obtain ⟨_, _, _, _⟩ := a
 obtain ⟨_, _, _, _⟩ := b
 simp only [Zy, List.cons.injEq, SV.int.injEq, SV.str.injEq, true_and, and_true] at h
 simp_all
def ZF : Qd := ⟨Zd, Zd, Zd, Zd⟩
theorem Zp (l : List Qd) : Zs (l.map Za) = true := Yd _ (fun _ => rfl) l
instance : PlF Za := ⟨fun _ => rfl⟩
theorem Z3P {l : List Qd} {i : Nat} (h : i < l.length) : (l.map Za)[i]? = some (Za l[i]) := by rw [List.getElem?_map, List.getElem?_eq_getElem h]; rfl
theorem Z3Q {α : Type} (f : α → List SV) (l z : List α) : (((l ++ z).map f).drop 0).take l.length = l.map f := by
 rw [List.drop_zero, List.map_append, List.take_append_of_le_length (by simp), List.take_of_length_le (by simp)]
theorem Z9C {α : Type} (f : α → List SV) (l : List α) (i : Nat) (x : α) : (l.map f).set i (f x) = (l.set i x).map f := by rw [List.map_set]
theorem Z2E {α : Type} {f : α → List SV} {l : List α} {i j : Nat} (h : i < l.length) (hj : j = i) : (l.map f)[j]? = some (f l[i]) := by
 subst hj
 rw [List.getElem?_map, List.getElem?_eq_getElem h]; rfl
theorem Qd.ext' {a b : Qd} (h : Za a = Za b) : a = b := by
 obtain ⟨⟨_, _, _, _⟩, ⟨_, _, _, _⟩, ⟨_, _, _, _⟩, ⟨_, _, _, _⟩⟩ := a
 obtain ⟨⟨_, _, _, _⟩, ⟨_, _, _, _⟩, ⟨_, _, _, _⟩, ⟨_, _, _, _⟩⟩ := b
 simp only [Za, Qd.row, List.cons.injEq, SV.int.injEq, SV.str.injEq, true_and, and_true] at h
 simp_all
structure KeyK (α : Type) [DecidableEq α] where
 ks : Bool × List CK
 enc : α → SV
 is : ∀ a b, Z04 ks (enc a) (enc b) = decide (a = b)
 ok : ∀ a, Jf ks (enc a) = true
 pl : ∀ a, plain (enc a) = true
section
variable {α β : Type} [DecidableEq α] (K : KeyK α)
def Z0W (f : β → SV) (l : List (α × β)) : List (List SV) := l.map fun p => [K.enc p.1, f p.2]
def X8 (es : Nat) (f : β → List (List SV)) (l : List (α × β)) : List (List DC) := l.map fun p => [.v (K.enc p.1), .kid es (f p.2)]
def ixA (a : α) : List (α × β) → Option (Nat × β)
 | [] => none
 | (k, v) :: r => if a = k then some (0, v) else (ixA a r).map fun p => (p.1 + 1, p.2)
def getA (a : α) : List (α × β) → Option β
 | [] => none
 | (k, v) :: r => if a = k then some v else getA a r
def setA (a : α) (v : β) : List (α × β) → List (α × β)
 | [] => [(a, v)]
 | (k, u) :: r => if a = k then (k, v) :: r else (k, u) :: setA a v r
theorem Z4V (a : α) : ∀ l : List (α × β), (ixA a l).map Prod.snd = getA a l
 | [] => rfl
 | (k, v) :: r => by
   unfold ixA getA
   split
   · rfl
   · rw [Option.map_map, ← Z4V a r]; rfl
theorem Z2F {a : α} {l : List (α × β)} (h : ixA a l = none) : getA a l = none := by rw [← Z4V, h]; rfl
theorem WX {a : α} {l : List (α × β)} {i : Nat} {v : β} (h : ixA a l = some (i, v)) : getA a l = some v := by rw [← Z4V, h]; rfl
theorem WY (a b : α) (v : β) : ∀ l : List (α × β), getA b (setA a v l) = if b = a then some v else getA b l
 | [] => by
   simp only [setA, getA]
 | (k, u) :: r => by
   unfold setA
   by_cases h : a = k
   · subst h
     rw [if_pos rfl]
     simp only [getA]
     by_cases e : b = a
     · rw [if_pos e, if_pos e]
     · rw [if_neg e, if_neg e, if_neg e]
   · rw [if_neg h]
     simp only [getA, WY a b v r]
     by_cases e : b = k
     · subst e; rw [if_pos rfl, if_neg (fun e => h e.symm), if_pos rfl]
     · rw [if_neg e, if_neg e]
theorem W5 (f : β → SV) (a : α) : ∀ (l : List (α × β)) (i : Nat), Jk K.ks (K.enc a) i (Z0W K f l) = (ixA a l).map fun p => (i + p.1, f p.2)
 | [], i => rfl
 | (k, v) :: r, i => by
   have ih := W5 f a r (i + 1)
   simp only [Z0W, List.map_cons, Jk, K.is, ixA] at ih ⊢
   by_cases h : a = k
   · simp [h]
   · simp only [h, decide_false, if_false, ih, Option.map_map]
     congr 1
     funext p
     simp only [Function.comp, Prod.mk.injEq, and_true]
     omega
theorem Z5T (f : β → SV) (l : List (α × β)) : Jl K.ks (Z0W K f l) := by
 intro r hr
 obtain ⟨p, _, rfl⟩ := List.mem_map.1 hr
 exact ⟨_, _, rfl, K.ok _⟩
theorem W6 {a : α} {v : β} : ∀ {l : List (α × β)} {i : Nat} {u : β}, ixA a l = some (i, u) → setA a v l = l.modify i (fun p => (p.1, v))
 | [], _, _, h => by cases h
 | (k, w) :: r, i, u, h => by
   unfold ixA at h
   unfold setA
   split at h
   · rename_i e
     injection h with h; injection h with h1 h2; subst h1
     rw [if_pos e, List.modify_zero_cons]
   · rename_i e
     obtain ⟨⟨j, x⟩, hj, he⟩ := Option.map_eq_some_iff.1 h
     injection he with h1 h2
     subst h1
     rw [if_neg e, List.modify_succ_cons, W6 hj]
theorem Z0X {a : α} {v : β} : ∀ {l : List (α × β)}, ixA a l = none → setA a v l = l ++ [(a, v)]
 | [], _ => rfl
 | (k, w) :: r, h => by
   unfold ixA at h
   unfold setA
   split at h
   · cases h
   · rename_i e
     rw [if_neg e, List.cons_append, Z0X (by simpa using h)]
theorem ZbV (f : β → SV) (a : α) (v : β) (l : List (α × β)) : setM K.ks (K.enc a) (f v) (Z0W K f l) = Z0W K f (setA a v l) := by
 unfold setM
 rw [W5]
 cases h : ixA a l with
 | none => simp only [Option.map_none]; rw [Z0X h]; simp [Z0W]
 | some p =>
   obtain ⟨i, u⟩ := p
   simp only [Option.map_some, Nat.zero_add]
   rw [W6 h]
   unfold Z0W
   apply List.ext_getElem?
   intro j
   rw [List.getElem?_modify, List.getElem?_map, List.getElem?_map, List.getElem?_modify]
   by_cases e : i = j
   · subst e
     cases l[i]? <;> simp [putV]
   · cases l[j]? <;> simp [e]
theorem Zba (f : β → SV) (hf : ∀ b, plain (f b) = true) (l : List (α × β)) : Zs (Z0W K f l) = true := by
 unfold Z0W
 exact Yd _ (fun p => by simp only [YC, K.pl, hf, Bool.and_self]) l
theorem Z0Y (es : Nat) (f : β → List (List SV)) (a : α) : ∀ (l : List (α × β)) (i : Nat), findD K.ks (K.enc a) i (X8 K es f l) = (ixA a l).map fun p => (i + p.1, .kid es (f p.2))
 | [], i => rfl
 | (k, v) :: r, i => by
   have ih := Z0Y es f a r (i + 1)
   simp only [X8, List.map_cons, findD, YY, K.is, ixA] at ih ⊢
   by_cases h : a = k
   · simp [h]
   · simp only [h, decide_false, if_false, ih, Option.map_map]
     congr 1
     funext p
     simp only [Function.comp, Prod.mk.injEq, and_true]
     omega
theorem Z3R (es : Nat) (f : β → List (List SV)) (l : List (α × β)) : Jl K.ks (ZV (X8 K es f l)) := by
 intro r hr
 unfold ZV X8 at hr
 rw [List.map_map] at hr
 obtain ⟨p, _, rfl⟩ := List.mem_map.1 hr
 exact ⟨_, _, rfl, K.ok _⟩
theorem Z2G {a : α} : ∀ {l : List (α × β)} {i : Nat} {u : β}, ixA a l = some (i, u) → l[i]? = some (a, u)
 | [], i, u, h => by cases h
 | (k, w) :: l, i, u, h => by
   unfold ixA at h
   split at h
   · rename_i e
     injection h with h; injection h with h1 h2; subst h1 h2 e
     rfl
   · obtain ⟨⟨j, x⟩, hj, he⟩ := Option.map_eq_some_iff.1 h
     injection he with h1 h2
     subst h1 h2
     simpa using Z2G hj
theorem Zbb (es : Nat) (f : β → List (List SV)) (d : DC) {a : α} {v : β} {l : List (α × β)} {i j : Nat} {u : β} (h : ixA a l = some (i, u)) (hj : j = i) : ((X8 K es f l).modify i (putD d)).modify j (putD (.kid es (f v))) = X8 K es f (setA a v l) := by
 subst hj
 rw [W6 h]
 unfold X8
 apply List.ext_getElem?
 intro k
 rw [List.getElem?_modify, List.getElem?_modify, List.getElem?_map, List.getElem?_map, List.getElem?_modify]
 by_cases e : j = k
 · subst e
   rw [Z2G h]; simp [putD]
 · cases l[k]? <;> simp [e]
theorem Z8g (es : Nat) (f : β → List (List SV)) (d : DC) {a : α} {v : β} {l : List (α × β)} {j : Nat} (h : ixA a l = none) (hj : j = l.length) : (X8 K es f l ++ [[.v (K.enc a), d]]).modify j (putD (.kid es (f v))) = X8 K es f (setA a v l) := by
 subst hj
 rw [Z0X h]
 unfold X8
 apply List.ext_getElem?
 intro k
 rw [List.getElem?_modify, List.map_append]
 by_cases e : l.length = k
 · subst e
   simp [putD]
 · simp only [e, if_false]
   by_cases hk : k < l.length
   · rw [List.getElem?_append_left (by simpa using hk), List.getElem?_append_left (by simpa using hk)]; simp
   · rw [List.getElem?_eq_none (by simp; omega), List.getElem?_eq_none (by simp; omega)]; rfl
theorem Z5U (es : Nat) (f : β → List (List SV)) (hf : ∀ b, Zs (f b) = true) : ∀ l : List (α × β), YX (X8 K es f l) = true
 | [] => rfl
 | p :: l => by
   have ih := Z5U es f hf l
   unfold X8 at ih ⊢
   simp only [List.map_cons, YX, U2, We, K.pl, hf, ih, Bool.and_self]
end
section
variable {α β : Type} [DecidableEq α]
theorem FIND.A (K : KeyK α) (f : β → SV) (a : α) (l : List (α × β)) {J : Type} {A : Nat → SV → J → Prop} {B : J → Prop} {j : J} (hs : ∀ i v, ixA a l = some (i, v) → A (0 + i) (f v) j) (hn : ixA a l = none → B j) : FIND (Jk K.ks (K.enc a) 0 (Z0W K f l)) A B j := by
 refine FIND.mk (fun i v hf => ?_) (fun hf => ?_)
 · obtain ⟨⟨k, x⟩, hj, he⟩ := Option.map_eq_some_iff.1 ((W5 K f a l 0).symm.trans hf)
   cases he
   exact hs _ _ hj
 · exact hn (Option.map_eq_none_iff.1 ((W5 K f a l 0).symm.trans hf))
theorem FINDD.A (K : KeyK α) (es : Nat) (f : β → List (List SV)) (a : α) (l : List (α × β)) {J : Type} {A : Nat → DC → J → Prop} {B : J → Prop} {j : J} (hs : ∀ i v, ixA a l = some (i, v) → A (0 + i) (.kid es (f v)) j) (hn : ixA a l = none → B j) : FINDD (findD K.ks (K.enc a) 0 (X8 K es f l)) A B j := by
 refine FINDD.mk (fun i v hf => ?_) (fun hf => ?_)
 · obtain ⟨⟨k, x⟩, hj, he⟩ := Option.map_eq_some_iff.1 ((Z0Y K es f a l 0).symm.trans hf)
   cases he
   exact hs _ _ hj
 · exact hn (Option.map_eq_none_iff.1 ((Z0Y K es f a l 0).symm.trans hf))
end
def KQ : KeyK Qd where
 ks := (true, [.int .i64, .str, .str, .str, .int .i64, .str, .str, .str, .int .i64, .str, .str, .str, .int .i64, .str, .str, .str])
 enc := Qd.sv
 is a b := by
   obtain ⟨⟨a1, a2, a3, a4⟩, ⟨a5, a6, a7, a8⟩, ⟨a9, b1, b2, b3⟩, ⟨b4, b5, b6, b7⟩⟩ := a
   obtain ⟨⟨c1, c2, c3, c4⟩, ⟨c5, c6, c7, c8⟩, ⟨c9, d1, d2, d3⟩, ⟨d4, d5, d6, d7⟩⟩ := b
   rw [Bool.eq_iff_iff]
   simp [Z04, V4, Y0, Zc, Qd.sv, Xk]
   simp only [and_assoc]
 ok a := by simp [Jf, V4, Y0, Zc, Qd.sv, Xk]
 pl a := rfl
def Zx : List UInt8 → List (List UInt8)
 | [] => [[]]
 | c :: t => if c = 45 then [] :: Zx t else match Zx t with
   | h :: r => (c :: h) :: r
   | [] => [[c]]
theorem Z2N : ∀ s, Zx s ≠ []
 | [] => by simp [Zx]
 | c :: t => by
   unfold Zx
   split
   · simp
   · split <;> simp
theorem XT : ∀ s : List UInt8, (Zx s).length = s.count 45 + 1
 | [] => rfl
 | c :: t => by
   have ih := XT t
   unfold Zx
   split
   · rename_i h; subst h; simp [ih]
   · rename_i h
     split
     · rename_i h' r e
       rw [e] at ih
       simp at ih ⊢
       rw [List.count_cons_of_ne (by simpa using h)]; omega
     · rename_i e; exact (Z2N t e).elim
theorem Z1W : ∀ {s : List UInt8}, Lib.indexByte s 45 = -1 → Zx s = [s]
 | [], _ => rfl
 | c :: t, h => by
   unfold Lib.indexByte at h
   by_cases hc : c = 45
   · subst hc; simp at h
   · have hge := Lib.indexByte_ge t 45
     have : Lib.indexByte t 45 = -1 := by
       simp [hc] at h
       apply Classical.byContradiction
       intro hn
       have := h hn
       omega
     unfold Zx
     rw [if_neg hc, Z1W this]
theorem Z1X : ∀ {s : List UInt8} {m : Nat}, Lib.indexByte s 45 = m → m < s.length ∧ Zx s = s.take m :: Zx (s.drop (m + 1))
 | [], m, h => by unfold Lib.indexByte at h; omega
 | c :: t, m, h => by
   unfold Lib.indexByte at h
   by_cases hc : c = 45
   · subst hc
     simp at h
     obtain rfl : m = 0 := by omega
     simp [Zx]
   · have hge := Lib.indexByte_ge t 45
     simp [hc] at h
     split at h
     · omega
     · obtain ⟨k, rfl⟩ : ∃ k, m = k + 1 := ⟨m - 1, by omega⟩
       have ih := Z1X (s := t) (m := k) (by omega)
       refine ⟨by simp; omega, ?_⟩
       conv => lhs; unfold Zx
       rw [if_neg hc, ih.2]
       simp only [List.take_succ_cons, List.drop_succ_cons]
theorem Z3X (s : List UInt8) : (Zx s).length ≤ s.length + 1 := by
 rw [XT]; have := List.count_le_length (a := (45 : UInt8)) (l := s); omega
def Zf (s : List UInt8) : List SV := [.str s]
theorem Z1 (l : List (List UInt8)) : Zs (l.map Zf) = true := Yd _ (fun _ => rfl) l
instance : PlF Zf := ⟨fun _ => rfl⟩
def Z13 (d : List (List UInt8)) (k : Nat) : List (List SV) := d.map Zf ++ List.replicate k (Zf [])
theorem Z3Y (d : List (List UInt8)) (k : Nat) : Zs (Z13 d k) = true := by
 unfold Z13
 refine VU (Z1 d) ?_
 induction k with
 | zero => rfl
 | succ k ih => rw [List.replicate_succ]; simp only [Zs, ih]; rfl
theorem Z5Z {d : List (List UInt8)} {k i : Nat} (h : i = d.length) (hk : 0 < k) : (Z13 d k)[i]? = some (Zf []) := by
 subst h
 unfold Z13
 rw [List.getElem?_append_right (by simp)]
 simp [List.getElem?_replicate, hk]
theorem Z60 {d : List (List UInt8)} {k i : Nat} {p : List UInt8} (h : i = d.length) (hk : 0 < k) : (Z13 d k).set i [.str p] = Z13 (d ++ [p]) (k - 1) := by
 subst h
 obtain ⟨j, rfl⟩ : ∃ j, k = j + 1 := ⟨k - 1, by omega⟩
 unfold Z13
 rw [List.set_append_right _ _ (by simp)]
 simp [List.replicate_succ, Zf]
def Z51 (s : List UInt8) : Bool := ZN s 1 1 false && !JT s
def Yg (p : List UInt8 → Bool) : List (List UInt8) → Nat
 | [] => 0
 | s :: l => if p s = true then Yg p l + 1 else 0
theorem Ug (p : List UInt8 → Bool) : ∀ l, Yg p l ≤ l.length
 | [] => by simp [Yg]
 | s :: l => by
   have := Ug p l
   unfold Yg; split <;> simp <;> omega
abbrev VZ (least : Int) : List UInt8 → Bool := fun s => ZN s least 8 false
def extP : Nat → List (List UInt8) → List (List UInt8)
 | 0, l => l
 | _ + 1, [] => []
 | n + 1, s :: l => if ZN s 3 3 true = true then extP n l else s :: l
def W8 : List (List UInt8) → Option (List (List UInt8))
 | [] => none
 | s :: l => if ZN s 2 8 true = true then (if 3 < s.length then some l else some (extP 3 l)) else none
def J9 (p : List UInt8 → Bool) : List (List UInt8) → List (List UInt8)
 | [] => []
 | s :: l => if p s = true then l else s :: l
def YW (seen : List (List UInt8)) : List (List UInt8) → Option (List (List UInt8) × List (List UInt8))
 | [] => some ([], seen)
 | s :: l => if Z2M s = true then (if Zm s ∈ seen then none else YW (seen ++ [Zm s]) l) else some (s :: l, seen)
def Yw (seen : List (List UInt8)) : List (List UInt8) → Option (List (List UInt8))
 | [] => some []
 | s :: l => if Z51 s = true then
       (if Yg (VZ 2) l = 0 ∨ Zm s ∈ seen then none else Yw (seen ++ [Zm s]) (l.drop (Yg (VZ 2) l)))
     else some (s :: l)
termination_by l => l.length
decreasing_by simp; omega
def YE (l : List (List UInt8)) : Option (List (List UInt8)) :=
 match YW [] (J9 Uf (J9 (fun s => ZN s 4 4 true) l)) with
 | none => none
 | some (l, seen) => Yw seen l
def Z61 (p : List UInt8 → Bool) : List (List UInt8) → Bool
 | [] => false
 | s :: _ => p s
def UI : List (List UInt8) → Bool
 | [] => true
 | s :: l => if JT s = true then decide (Yg (VZ 1) l ≠ 0 ∧ Yg (VZ 1) l = l.length) else false
def tagP (l : List (List UInt8)) : Bool :=
 if Z61 JT l = true then UI l else
 match W8 l with
 | none => false
 | some l => match YE l with
   | none => false
   | some l => UI l
theorem Z1Y : ∀ s : List UInt8, ((Zx s).map List.length).sum + (Zx s).length = s.length + 1
 | [] => rfl
 | c :: t => by
   have ih := Z1Y t
   have hne := Z2N t
   unfold Zx
   split
   · simp only [List.map_cons, List.sum_cons, List.length_cons, List.length_nil]; omega
   · split
     · rename_i h r e
       rw [e] at ih
       simp only [List.map_cons, List.sum_cons, List.length_cons] at ih ⊢; omega
     · rename_i e; exact (hne e).elim
def JU : List UInt8 := [104, 116, 116, 112, 58, 47, 47, 119, 119, 119, 46, 119, 51, 46, 111, 114, 103, 47, 49, 57, 57, 57, 47, 48, 50, 47, 50, 50, 45, 114, 100, 102, 45, 115, 121, 110, 116, 97, 120, 45, 110, 115, 35, 108, 97, 110, 103, 83, 116, 114, 105, 110, 103]
def litM (t y l : List UInt8) : Int :=
 if 65536 < t.length then 2 else if 0 ≤ chk t 0 then 40 else if iriM y ≠ 0 then iriM y else
 if l ≠ [] ∧ 65536 < l.length then 2 else if l ≠ [] ∧ (¬ tagP (Zx l) = true ∨ Zm l ≠ l) then 61 else
 if (l ≠ [] ∧ ¬ y = JU) ∨ (l = [] ∧ y = JU) then 71 else 0
def Vg (x : Tm) : Int :=
 if x.k = 1 ∨ x.k = 2 then (if x.y ≠ [] ∨ x.l ≠ [] then 70 else if x.k = 1 then iriM x.t else if 65536 < x.t.length then 2 else Z5Y x.t)
 else if x.k = 3 then litM x.t x.y x.l else 70
def Zk (q : Qd) : Int :=
 if ¬ (q.s.k = 1 ∨ q.s.k = 2) then 70 else if Vg q.s ≠ 0 then Vg q.s else
 if ¬ q.p.k = 1 then 70 else if Vg q.p ≠ 0 then Vg q.p else
 if Vg q.o ≠ 0 then Vg q.o else
 if q.g = Zd then 0 else if ¬ (q.g.k = 1 ∨ q.g.k = 2) then 70 else Vg q.g
theorem Z52 {x : Tm} (h : ¬ (x.k = 1 ∨ x.k = 2 ∨ x.k = 3)) : Vg x = 70 := by
 unfold Vg
 rw [if_neg (by omega), if_neg (by omega)]
def typB : List UInt8 := [104, 116, 116, 112, 58, 47, 47, 119, 119, 119, 46, 119, 51, 46, 111, 114, 103, 47, 49, 57, 57, 57, 47, 48, 50, 47, 50, 50, 45, 114, 100, 102, 45, 115, 121, 110, 116, 97, 120, 45, 110, 115, 35, 116, 121, 112, 101]
def domB : List UInt8 := [104, 116, 116, 112, 58, 47, 47, 119, 119, 119, 46, 119, 51, 46, 111, 114, 103, 47, 50, 48, 48, 48, 47, 48, 49, 47, 114, 100, 102, 45, 115, 99, 104, 101, 109, 97, 35, 100, 111, 109, 97, 105, 110]
def ranB : List UInt8 := [104, 116, 116, 112, 58, 47, 47, 119, 119, 119, 46, 119, 51, 46, 111, 114, 103, 47, 50, 48, 48, 48, 47, 48, 49, 47, 114, 100, 102, 45, 115, 99, 104, 101, 109, 97, 35, 114, 97, 110, 103, 101]
def subP : List UInt8 := [104, 116, 116, 112, 58, 47, 47, 119, 119, 119, 46, 119, 51, 46, 111, 114, 103, 47, 50, 48, 48, 48, 47, 48, 49, 47, 114, 100, 102, 45, 115, 99, 104, 101, 109, 97, 35, 115, 117, 98, 80, 114, 111, 112, 101, 114, 116, 121, 79, 102]
def subC : List UInt8 := [104, 116, 116, 112, 58, 47, 47, 119, 119, 119, 46, 119, 51, 46, 111, 114, 103, 47, 50, 48, 48, 48, 47, 48, 49, 47, 114, 100, 102, 45, 115, 99, 104, 101, 109, 97, 35, 115, 117, 98, 67, 108, 97, 115, 115, 79, 102]
abbrev iriT (s : List UInt8) : Tm := ⟨1, s, [], []⟩
abbrev dr2 (a b : Qd) : Qd × Bool := (⟨b.s, iriT typB, a.o, a.g⟩, decide (a.p = iriT domB ∧ a.s = b.p))
abbrev dr3 (a b : Qd) : Qd × Bool := (⟨b.o, iriT typB, a.o, a.g⟩, decide (a.p = iriT ranB ∧ a.s = b.p))
abbrev chn (s : List UInt8) (a b : Qd) : Qd × Bool := (⟨a.s, a.p, b.o, a.g⟩, decide (a.p = iriT s ∧ b.p = a.p ∧ a.o = b.s))
abbrev dr7 (a b : Qd) : Qd × Bool := (⟨b.s, a.o, b.o, a.g⟩, decide (a.p = iriT subP ∧ a.s = b.p))
abbrev dr9 (a b : Qd) : Qd × Bool := (⟨b.s, iriT typB, a.o, a.g⟩, decide (a.p = iriT subC ∧ b.p = iriT typB ∧ b.o = a.s))
def ZW (n : Int) (a b : Qd) : Qd × Bool :=
 if n = 2 then dr2 a b else if n = 3 then dr3 a b else if n = 5 then chn subP a b else if n = 7 then dr7 a b else if n = 9 then dr9 a b else if n = 11 then chn subC a b else (ZF, false)
def Zh (n : Int) (a b : Qd) : Qd × Bool :=
 if Zk a = 0 ∧ Zk b = 0 ∧ a.g = b.g ∧ (ZW n a b).2 = true ∧ Zk (ZW n a b).1 = 0 then ((ZW n a b).1, true) else (ZF, false)
theorem ZbX {s : List UInt8} (h : s.length ≤ 100) : TmSm (iriT s) := ⟨by show s.length ≤ _; omega, by simp, by simp⟩
theorem JV {n : Int} {a b : Qd} (ha : QdSm a) (hb : QdSm b) : QdSm (ZW n a b).1 := by
 obtain ⟨a1, a2, a3, a4⟩ := ha
 obtain ⟨b1, b2, b3, b4⟩ := hb
 have ht : TmSm (iriT typB) := ZbX (by decide)
 have hz : TmSm Zd := ⟨by simp [Zd], by simp [Zd], by simp [Zd]⟩
 unfold ZW
 (repeat' split) <;> first | exact ⟨b1, ht, a3, a4⟩ | exact ⟨b3, ht, a3, a4⟩ | exact ⟨a1, a2, b3, a4⟩ | exact ⟨b1, a3, b3, a4⟩ | exact ⟨hz, hz, hz, hz⟩
theorem V3 {x y : Tm} : x = y ↔ x.k = y.k ∧ x.t = y.t ∧ x.y = y.y ∧ x.l = y.l := by
 obtain ⟨a, b, c, d⟩ := x
 obtain ⟨e, f, g, h⟩ := y
 simp
theorem Xi {n : Int} {a b : Qd} (h : ¬ (Zk a = 0 ∧ Zk b = 0 ∧ a.g = b.g ∧ (ZW n a b).2 = true ∧ Zk (ZW n a b).1 = 0)) : Zh n a b = (ZF, false) := if_neg h
theorem VH {n : Int} {a b : Qd} (h : Zk a = 0 ∧ Zk b = 0 ∧ a.g = b.g ∧ (ZW n a b).2 = true ∧ Zk (ZW n a b).1 = 0) : Zh n a b = ((ZW n a b).1, true) := if_pos h
theorem Yr {n : Int} {a b : Qd} (h : ¬ (n = 2 ∨ n = 3 ∨ n = 5 ∨ n = 7 ∨ n = 9 ∨ n = 11)) : ZW n a b = (ZF, false) := by
 unfold ZW
 rw [if_neg (by omega), if_neg (by omega), if_neg (by omega), if_neg (by omega), if_neg (by omega), if_neg (by omega)]
structure St where
 r : Int
 a : Qd
 b : Qd
 q : Qd
 deriving DecidableEq
def St.row (s : St) : List SV := [.int .i64 s.r,
 .int .i64 s.a.s.k, .str s.a.s.t, .str s.a.s.y, .str s.a.s.l, .int .i64 s.a.p.k, .str s.a.p.t, .str s.a.p.y, .str s.a.p.l, .int .i64 s.a.o.k, .str s.a.o.t, .str s.a.o.y, .str s.a.o.l, .int .i64 s.a.g.k, .str s.a.g.t, .str s.a.g.y, .str s.a.g.l,
 .int .i64 s.b.s.k, .str s.b.s.t, .str s.b.s.y, .str s.b.s.l, .int .i64 s.b.p.k, .str s.b.p.t, .str s.b.p.y, .str s.b.p.l, .int .i64 s.b.o.k, .str s.b.o.t, .str s.b.o.y, .str s.b.o.l, .int .i64 s.b.g.k, .str s.b.g.t, .str s.b.g.y, .str s.b.g.l,
 .int .i64 s.q.s.k, .str s.q.s.t, .str s.q.s.y, .str s.q.s.l, .int .i64 s.q.p.k, .str s.q.p.t, .str s.q.p.y, .str s.q.p.l, .int .i64 s.q.o.k, .str s.q.o.t, .str s.q.o.y, .str s.q.o.l, .int .i64 s.q.g.k, .str s.q.g.t, .str s.q.g.y, .str s.q.g.l]
abbrev WL (s : St) : List SV := s.row
theorem ZY (l : List St) : Zs (l.map WL) = true := Yd _ (fun _ => rfl) l
instance : PlF WL := ⟨fun _ => rfl⟩
structure Wd where
 all : List Qd
 why : List St
 place : List (Qd × Int)
 at' : List (Qd × List Qd)
def Z8q (q : Qd) : Qd := ⟨q.g, Zd, q.p, Zd⟩
def Z3Z (q : Qd) : Qd := ⟨q.g, q.s, q.p, Zd⟩
def Z8r (q : Qd) : Qd := ⟨q.g, Zd, q.p, q.o⟩
def atL (k : Qd) (l : List (Qd × List Qd)) : List Qd := (getA k l).getD []
def Z14 (k q : Qd) (l : List (Qd × List Qd)) : List (Qd × List Qd) := setA k (atL k l ++ [q]) l
def putM (w : Wd) (s : St) : Wd :=
 if (getA s.q w.place).isSome then w else ⟨w.all ++ [s.q], w.why ++ [s], setA s.q (w.all.length : Int) w.place, Z14 (Z8r s.q) s.q (Z14 (Z3Z s.q) s.q (Z14 (Z8q s.q) s.q w.at'))⟩
def Vh : Wd := ⟨[], [], [], []⟩
def UJ (q : Qd) : St := ⟨0, ZF, ZF, q⟩
def ZG (l : List Qd) : Wd := l.foldl (fun w q => putM w (UJ q)) Vh
abbrev intV (n : Int) : SV := .int .i64 n
abbrev qdsV (l : List Qd) : List (List SV) := l.map Za
abbrev Vi (l : List (Qd × Int)) : List (List SV) := Z0W KQ intV l
abbrev atR (l : List (Qd × List Qd)) : List (List DC) := X8 KQ 16 qdsV l
theorem YS (l : List (Qd × Int)) : Zs (Vi l) = true := Zba KQ _ (fun _ => rfl) l
instance {l : List (Qd × Int)} : Pl (Vi l) := ⟨YS l⟩
theorem Vj (l : List (Qd × List Qd)) : YX (atR l) = true := Z5U KQ 16 _ (fun b => Yd _ (fun _ => rfl) b) l
instance {l : List (Qd × List Qd)} : PlD (atR l) := ⟨Vj l⟩
theorem Z9P {q k : Qd} {l : List Qd} {m : List (Qd × List Qd)} {i : Nat} (h : ixA k m = some (i, l)) {i1 i2 : Nat} {d : DC} {rows : List (List SV)} (h1 : i1 = i) (h2 : i2 = i) (hr : rows = qdsV (l ++ [q])) : ((atR m).modify i1 (putD d)).modify i2 (putD (.kid 16 rows)) = atR (Z14 k q m) := by
 subst h1 hr
 unfold Z14 atL
 rw [WX h]
 exact Zbb KQ 16 qdsV d h h2
theorem Z8s {q k : Qd} {m : List (Qd × List Qd)} (h : ixA k m = none) {i2 : Nat} {d : DC} {rows : List (List SV)} (h2 : i2 = (atR m).length) (hr : rows = qdsV [q]) : (atR m ++ [[.v (KQ.enc k), d]]).modify i2 (putD (.kid 16 rows)) = atR (Z14 k q m) := by
 subst hr
 unfold Z14 atL
 rw [Z2F h]
 exact Z8g KQ 16 qdsV d h (by rw [h2]; simp [X8])
theorem Z8t (k q k' : Qd) (m : List (Qd × List Qd)) : atL k' (Z14 k q m) = if k' = k then atL k m ++ [q] else atL k' m := by
 unfold Z14 atL
 rw [WY]
 split <;> rfl
theorem Zbf (k q k' : Qd) (m : List (Qd × List Qd)) : (atL k' (Z14 k q m)).length ≤ (if k' = k then (atL k m).length + 1 else (atL k' m).length) := by
 rw [Z8t]; split <;> simp
def Xr (i : Nat) (q : Qd) : Qd := match i with | 0 => Z8q q | 1 => Z3Z q | _ => Z8r q
def atN (q : Qd) (l : List (Qd × List Qd)) : Nat → List (Qd × List Qd)
 | 0 => l
 | i + 1 => Z14 (Xr i q) q (atN q l i)
theorem Z53 (q : Qd) (m : List (Qd × List Qd)) (n : Nat) (h : ∀ k, (atL k m).length ≤ n) : ∀ i k, (atL k (atN q m i)).length ≤ n + i
 | 0, k => h k
 | i + 1, k => by
   have h1 := Z53 q m n h i
   have := Zbf (Xr i q) q k (atN q m i)
   unfold atN
   split at this
   · have := h1 (Xr i q); omega
   · have := h1 k; omega
structure WdOK (w : Wd) : Prop where
 len : w.why.length = w.all.length
 mem : ∀ q, q ∈ w.all ↔ (getA q w.place).isSome = true
 at3 : ∀ k, (atL k w.at').length ≤ 3 * w.all.length
theorem UK : WdOK Vh := ⟨rfl, fun q => by simp [Vh, getA], fun k => by simp [Vh, atL, getA]⟩
theorem Z15 {w : Wd} {s : St} (h : (getA s.q w.place).isSome = true) : putM w s = w := by unfold putM; rw [if_pos h]
theorem Z40 {w : Wd} {s : St} (h : getA s.q w.place = none) : putM w s = ⟨w.all ++ [s.q], w.why ++ [s], setA s.q (w.all.length : Int) w.place, atN s.q w.at' 3⟩ := by unfold putM; rw [h]; rfl
theorem Z1Z {w : Wd} (h : WdOK w) (s : St) : WdOK (putM w s) := by
 cases hg : getA s.q w.place with
 | some v => rw [Z15 (by rw [hg]; rfl)]; exact h
 | none =>
   rw [Z40 hg]
   refine ⟨by simp [h.len], fun q => ?_, fun k => ?_⟩
   · simp only [List.mem_append, List.mem_singleton, h.mem q, WY]
     by_cases e : q = s.q
     · simp [e]
     · simp [e]
   · have := Z53 s.q w.at' _ h.at3 3 k
     simp only [List.length_append, List.length_singleton]; omega
theorem Z2O {w : Wd} (h : WdOK w) (s : St) (q : Qd) : q ∈ (putM w s).all ↔ q ∈ w.all ∨ q = s.q := by
 unfold putM
 split
 · rename_i hs
   constructor
   · exact .inl
   · rintro (h1 | rfl)
     · exact h1
     · exact (h.mem _).2 hs
 · simp
theorem Z54 (w : Wd) (s : St) : (putM w s).all.length ≤ w.all.length + 1 := by
 unfold putM
 split
 · omega
 · simp
theorem Z2P {α : Type} (f : α → St) : ∀ (l : List α) {w : Wd}, WdOK w → WdOK (l.foldl (fun w x => putM w (f x)) w) ∧ ∀ q, q ∈ (l.foldl (fun w x => putM w (f x)) w).all ↔ q ∈ w.all ∨ ∃ x ∈ l, q = (f x).q
 | [], w, h => ⟨h, fun q => by simp⟩
 | x :: l, w, h => by
   obtain ⟨h1, h2⟩ := Z2P f l (Z1Z h (f x))
   refine ⟨h1, fun q => ?_⟩
   rw [List.foldl_cons, h2 q, Z2O h]
   simp only [List.mem_cons, exists_eq_or_imp, or_assoc]
theorem Z62 (l : List Qd) : WdOK (ZG l) := (Z2P UJ l UK).1
theorem Z41 (l : List Qd) (q : Qd) : q ∈ (ZG l).all ↔ q ∈ l := by
 have := (Z2P UJ l UK).2 q
 unfold ZG
 rw [this]
 simp [Vh, UJ]
theorem Z42 {α : Type} (f : α → St) : ∀ (l : List α) (w : Wd), (l.foldl (fun w x => putM w (f x)) w).all.length ≤ w.all.length + l.length
 | [], w => by simp
 | x :: l, w => by
   have := Z42 f l (putM w (f x))
   have := Z54 w (f x)
   simp only [List.foldl_cons, List.length_cons]; omega
theorem Z43 (l : List Qd) : (ZG l).all.length ≤ l.length := by
 have := Z42 UJ l Vh
 unfold ZG
 simpa [Vh] using this
end Go.Our
namespace Go.Sx
open Go
def Mx.at (M : Mx) (N : Nat) (ro : Option (Nat × Nat)) (η : Env) : Mx := ⟨M.P, ⟨M.C.T, N, M.C.S, ro⟩, M.w0, M.F, η⟩
def endI (M : Mx) (res : List ResultVar) (K : SV → Hps → Nat → Prop) : Post
 | .normal, fr, O, nx => Z2s fr O fun O => WK M.C fr O res fun vs => K (Z2r vs) O nx
 | .ret, fr, O, nx => Z2s fr O fun O => WK M.C fr O res fun vs => K (Z2r vs) O nx
 | .exit _, _, _, _ => STOP "exit"
def Z8y : List Nat → List SV → Fr → (Fr → Prop) → Prop
 | [], ags, fr, K => match ags with
   | [] => match Z4L (lkp DS fr) with
     | true => STOP "round"
     | false => K fr
   | _ :: _ => STOP "round"
 | p :: ps, ags, fr, K => match ags with
   | a :: ags => Z8y ps ags ((p, a) :: fr) K
   | [] => STOP "round"
def Z8z (j : Nat) (K : SV → Hps → Nat → Prop) : Post := fun e fr O nx => match lkp j O with
 | some h => match h with
   | .lp st li fr0 => match st with
     | .busy => match e with
       | .normal => Z1j j (.lp .ready li fr0) O fun O => K (.bool true) O nx
       | .ret => Z1j j (.lp (.left none) li fr0) O fun O => K (.bool false) O nx
       | .exit id => Z1j j (.lp (.left (some id)) li fr0) O fun O => K (.bool false) O nx
     | _ => STOP "record"
   | _ => STOP "record"
 | none => STOP "record"
def Zay (M : Mx) (j : Nat) (body : Code) (K : SV → Hps → Nat → Prop) : Post := fun e fr O nx => match e with
 | .normal => match lkp j O with
   | some h => match h with
     | .lp st li fr0 => match st with
       | .ready => Z1j j (.lp .busy li fr0) O fun O => run M body fr O nx (Z8z j K)
       | _ => STOP "record"
     | _ => STOP "record"
   | none => STOP "record"
 | _ => STOP "assignment"
def noDS : Fr → (Fr → Prop) → Prop
 | [], K => K []
 | (t, v) :: r, K => match Nat.beq t DS with
   | true => noDS r K
   | false => noDS r fun r => K ((t, v) :: r)
def Z9Q (fr : Fr) (d : Nat) (K : Fr → Prop) : Prop := match lkp DS fr with
 | some v => match v with
   | .dfs l => K ((DS, .dfs (.ptr (.loc d) 0 0 0 :: l)) :: fr)
   | _ => K ((DS, .dfs [.ptr (.loc d) 0 0 0]) :: fr)
 | none => K ((DS, .dfs [.ptr (.loc d) 0 0 0]) :: fr)
def Z8A (j : Nat) (frK : (Fr → Prop) → Prop) (Q : Post) : SV → Hps → Nat → Prop := fun _ O nx => match lkp j O with
 | some h => match h with
   | .lp st _ _ => match st with
     | .ready => Uo j O fun O => frK fun fr => Q .normal fr O nx
     | .busy => STOP "record"
     | .left jump => match jump with
       | none => Uo j O fun O => frK fun fr => Q .ret fr O nx
       | some id => Uo j O fun O => frK fun fr => Q (.exit id) fr O nx
   | _ => STOP "record"
 | none => STOP "record"
section
variable {M : Mx} {η : Env} {w : World} {O : Hps} {nx : Nat}
theorem SOK.longer (h : SOK M) {η : Env} (hp : M.η0 <+: η) {N : Nat} {ro : Option (Nat × Nat)} : SOK (M.at N ro η) := by
 intro b hh hb
 have hb' : lkS M.C b = some hh := by cases b <;> exact hb
 obtain ⟨h1, h2⟩ := h b hh hb'
 obtain ⟨x, hx, _⟩ := h1.lt
 exact ⟨h1.mono hp, fun k f => h2 k (feet.less hp hx f)⟩
theorem HeapOK.at (H : HeapOK M η w O nx) {N : Nat} {ro : Option (Nat × Nat)} : HeapOK (M.at N ro η) η w O nx := ⟨List.prefix_rfl, H.len, H.own, H.fr, H.sok.longer H.pre⟩
theorem HeapOK.back {η0 : Env} {N : Nat} {ro : Option (Nat × Nat)} (H : HeapOK (M.at N ro η0) η w O nx) (hp : M.η0 <+: η0) (hs : SOK M) : HeapOK M η w O nx := ⟨hp.trans H.pre, H.len, H.own, H.fr, hs⟩
theorem Z45 (hT : TabOK M.P M.C.T) {g : FuncId} {fn : Func} {c : Code} (hf : M.P.funcs[g]? = some fn) (hb : fn.body = some c) (N : Nat) (hN : fn.ntmps = N) (hND : N ≤ DS) {args : List SV} (hlen : args.length ≤ N) {res : List ResultVar} (hres : fn.results = res.toArray)
   {K : SV → Hps → Nat → Prop} {vs : List Value} (H : HeapOK M η w O nx) (hd : DenL η args vs) (h : run (M.at N none η) c (Ua 0 args) O nx (endI (M.at N none η) res K))
   {R : Ending → World → Prop} (hR : ∀ v r w' O' nx' η', η <+: η' → HeapOK M η' w' O' nx' → Den η' r v → K r O' nx' → R (.returned v) w') : Calls M.P g ⟨vs⟩ w R := by
 have hl := ZD hd
 refine callsIn_wide (n := 0) |>.1 (callsIn_of_wp_marks hf hb trivial ?_)
 have hm : Models (M.at N none η) η (Ua 0 args) O nx { tmps := ⟨vs⟩ ++ Array.replicate (fn.ntmps - (Array.mk vs).size) undef, defers := [] } w := by
   refine ⟨H.at, ?_, hND, Z5G (Nat.le_trans hlen hND), (fun l j h => by cases h), ?_⟩
   · simp only [Array.size_append, Array.size_replicate, hN, List.size_toArray]
     show vs.length + (N - vs.length) = N
     omega
   · intro t sv ht
     obtain ⟨v, _, h1, h2⟩ := Z2t hd ht
     have hlt := (List.getElem?_eq_some_iff.1 h1).1
     simp only [Nat.sub_zero] at h1 hlt
     rw [Array.getD_eq_getD_getElem?, Array.getElem?_append_left (by simpa using hlt)]
     have : (Array.mk vs)[t]? = some v := by simpa using h1
     rw [this]; exact h2
 refine Code.wpIn_mono ?_ (ZJ (M := M.at N none η) hT c h η _ w hm)
 have fin : ∀ {η1 : Env} {fr1 : Fr} {O1 : Hps} {nx1 : Nat} {a : Act} {w1 : World}, Models (M.at N none η) η1 fr1 O1 nx1 a w1 → (Z2s fr1 O1 fun O1 => WK (M.at N none η).C fr1 O1 res fun vs => K (Z2r vs) O1 nx1) →
     LeavesInM Fence.wide 0 M.P fn a.tmps R a.defers .returning w1 := by
   intro η1 fr1 O1 nx1 a w1 hm1 hr
   exact Z3A (M := M.at N none η) hT hres hm1 hr fun w2 O2 v r H2 hd2 hk => hR v r w2 O2 nx1 η1 H2.pre (H2.back H.pre H.sok) hd2 hk
 intro e a w hq
 cases e with
 | normal => obtain ⟨η1, fr1, O1, nx1, hm1, hq⟩ := hq; exact fin hm1 hq
 | ret => obtain ⟨η1, fr1, O1, nx1, hm1, hq⟩ := hq; exact fin hm1 hq
 | exit id => obtain ⟨η1, fr1, O1, nx1, hm1, hq⟩ := hq; exact hq.out.elim
 | goto l => exact hq.elim
 | panic ch => exact hq.elim
 | outgrown => exact hq.elim
def Jz : List Nat → List Value → Array Value → Array Value
 | p :: ps, v :: vs, t => Jz ps vs (t.setIfInBounds p v)
 | _, _, t => t
theorem Z46 : ∀ (ps : List Nat) (vs : List Value) (t : Array Value), ((ps.toArray.zip ⟨vs⟩).foldl (fun tmps (p : Nat × Value) => tmps.setIfInBounds p.1 p.2) t) = Jz ps vs t := by
 intro ps vs t
 have h1 : (ps.toArray.zip ⟨vs⟩ : Array (Nat × Value)) = (ps.zip vs).toArray := by simp
 rw [h1, ← Array.foldl_toList]
 simp only
 induction ps generalizing vs t with
 | nil => simp [Jz]
 | cons p ps ih =>
   cases vs with
   | nil => simp [Jz]
   | cons v vs =>
     simp only [List.zip_cons_cons, List.foldl_cons, Jz]
     exact ih vs (t.setIfInBounds p v) (by simp)
theorem Z18 : ∀ (ps : List Nat) (vs : List Value) (t : Array Value), (Jz ps vs t).size = t.size
 | [], vs, t => by simp [Jz]
 | p :: ps, [], t => by simp [Jz]
 | p :: ps, v :: vs, t => by simp only [Jz]; rw [Z18 ps vs]; simp
theorem Z63 {η : Env} : ∀ {ps : List Nat} {ags : List SV} {fr : Fr} {K : Fr → Prop} {vs : List Value} {t : Array Value}, Z8y ps ags fr K → DenL η ags vs → TmpsOK η t fr → (∀ p ∈ ps, p < t.size) → ∃ fr', K fr' ∧ Z4L (lkp DS fr') = false ∧ TmpsOK η (Jz ps vs t) fr' ∧ vs.length = ps.length
 | [], ags, fr, K, vs, t, h, hd, ht, hp => by
   simp only [Z8y] at h
   split at h
   · split at h
     · exact h.out.elim
     · rename_i hn
       simp only [DenL] at hd
       subst hd
       exact ⟨fr, h, hn, ht, rfl⟩
   · exact h.out.elim
 | p :: ps, ags, fr, K, vs, t, h, hd, ht, hp => by
   simp only [Z8y] at h
   split at h
   · rename_i a ags
     simp only [DenL] at hd
     obtain ⟨u, us, rfl, h1, h2⟩ := hd
     have hpt := hp p (List.mem_cons_self ..)
     obtain ⟨fr', h3, h4, h5, h6⟩ := Z63 (t := t.setIfInBounds p u) h h2 (fun s sv hs => by
       rw [Z7] at hs
       split at hs
       · rename_i e; subst e; injection hs with hs; subst hs
         simpa [Array.getD_eq_getD_getElem?, Array.getElem?_setIfInBounds, hpt] using h1
       · rename_i e
         rw [Array.getD_eq_getD_getElem?, Array.getElem?_setIfInBounds, if_neg (Ne.symm e), ← Array.getD_eq_getD_getElem?]
         exact ht s sv hs) (fun q hq => by rw [Array.size_setIfInBounds]; exact hp q (List.mem_cons_of_mem _ hq))
     exact ⟨fr', h3, h4, h5, by simp [h6]⟩
   · exact h.out.elim
theorem HeapOK.record (H : HeapOK M η w O nx) {j : Nat} {st st' : LpS} {li : LpI} {fr0 : Fr} (hj : lkp j O = some (.lp st li fr0)) {e : Ent} (he : η[j]? = some (some e)) :
   ∃ r, w.heap[e.g]? = some (.loop r) ∧ r.state = st.state ∧ r.pending = st.jump ∧ ∀ r' : Loop, r'.state = st'.state → r'.pending = st'.jump → r'.params = r.params → r'.assign = r.assign → r'.body = r.body → r'.tmps = r.tmps → HeapOK M η (w.putObj e.g (.loop r')) (setK j (.lp st' li fr0) O) nx := by
 have hs := (H.own.1 j _ hj).1
 simp only [HpSat] at hs
 obtain ⟨e', r, h1, h2, h3, h4, h5, h6, h7, h8, h9, h10⟩ := hs
 have h1' : η[j]? = some (some e') := h1
 rw [he] at h1'
 injection h1' with h1'
 injection h1' with h1'
 subst h1'
 have hlt := (Array.getElem?_eq_some_iff.1 h3).1
 refine ⟨r, h3, h4, h5, fun r' q1 q2 q3 q4 q5 q6 => ?_⟩
 refine H.upd hj he (fun k hk => World.putObj_heap_other hk) World.putObj_size rfl rfl rfl ?_
 simp only [HpSat]
 exact ⟨e, r', h1, h2, World.putObj_heap_same hlt, q1, q2, by rw [q3]; exact h6, by rw [q4]; exact h7, by rw [q5]; exact h8, by rw [q6]; exact h9, by rw [q6]; exact h10⟩
theorem YIELD.of (hT : TabOK M.P M.C.T) {j : Nat} {li : LpI} {fr0 : Fr} {args : List SV} {K : SV → Hps → Nat → Prop} (hj : lkp j O = some (.lp .ready li fr0)) (hps : li.ps.all (fun p => Nat.blt p li.N) = true) (hND : Nat.ble li.N DS = true)
   (h : ∀ (η1 : Env) (l : Nat), η1.length = nx → Z8y li.ps args fr0 fun fr => run (M.at li.N (some (l, j)) η1) li.asg fr O nx (Zay (M.at li.N (some (l, j)) η1) j li.body K)) : YIELD M j args O nx K := by
 refine ⟨fun η w vs e H hd he => ?_⟩
 obtain ⟨r, hr, hst, hpe, _⟩ := H.record (st' := .ready) hj he
 have hs := (H.own.1 j _ hj).1
 simp only [HpSat] at hs
 obtain ⟨e', r', h1, h2, h3, h4, h5, h6, h7, h8, h9, h10⟩ := hs
 have h1' : η[j]? = some (some e') := h1
 rw [he] at h1'
 injection h1' with h1'
 injection h1' with h1'
 subst h1'
 rw [hr] at h3
 injection h3 with h3
 injection h3 with h3
 subst h3
 obtain ⟨fr, hrun, hnd, htm, hlen⟩ := Z63 (h η e.g H.len) hd h10 (fun p hp => by rw [h9]; simpa [Nat.blt_eq] using List.all_eq_true.1 hps p hp)
 have hpr : r.params = li.ps.toArray := by rw [← h6]
 refine ⟨r.fn, _, r.assign, r.body, run_yield hr (by rw [hpr]; simpa using hlen), ?_⟩
 rw [h7, h8]
 have hfold : ((r.params.zip ⟨vs⟩).foldl (fun tmps (x : Nat × Value) => tmps.setIfInBounds x.1 x.2) r.tmps) = Jz li.ps vs r.tmps := by rw [hpr]; exact Z46 li.ps vs r.tmps
 have hfold' : ((r.params.zip ⟨vs⟩).foldl (fun tmps x => match x with | (t, a) => tmps.setIfInBounds t a) r.tmps) = Jz li.ps vs r.tmps := hfold
 rw [hfold']
 generalize hMr : M.at li.N (some (e.g, j)) η = Mr at hrun
 have hTr : TabOK Mr.P Mr.C.T := by subst hMr; exact hT
 have hPr : Mr.P = M.P := by subst hMr; rfl
 have hfr : Mr.fence = Fence.wide.inRound e.g := by subst hMr; rfl
 have hm : Models Mr η fr O nx { tmps := Jz li.ps vs r.tmps, defers := [] } w := by
   subst hMr
   refine ⟨H.at, by rw [Z18]; exact h9, Nat.le_of_ble_eq_true hND, (DfOK.no hnd).2 rfl, fun l' j' hl => ?_, htm⟩
   injection hl with hl
   injection hl with hl1 hl2
   subst hl1 hl2
   exact ⟨e, he, rfl⟩
 refine roundIn_of_wpIn trivial ?_
 rw [← hPr, ← hfr]
 refine Code.wpIn_mono ?_ (ZJ hTr li.asg hrun η _ w hm)
 intro ex a1 w1 hq
 cases ex with
 | exit id => obtain ⟨η1, fr1, O1, nx1, hm1, hq⟩ := hq; exact hq.out.elim
 | ret => obtain ⟨η1, fr1, O1, nx1, hm1, hq⟩ := hq; exact hq.out.elim
 | goto l => exact hq.elim
 | panic ch => exact hq.elim
 | outgrown => exact hq.elim
 | normal =>
   obtain ⟨η1, fr1, O1, nx1, hm1, hq⟩ := hq
   simp only [Zay] at hq
   split at hq
   case h_2 => exact hq.out.elim
   rename_i hh hj1
   split at hq
   case h_2 => exact hq.out.elim
   rename_i st1 li1 fr01
   split at hq
   case h_2 => exact hq.out.elim
   rw [Xl] at hq
   obtain ⟨e1, he1, heg⟩ := hm1.ro e.g j (by subst hMr; rfl)
   obtain ⟨r1, hr1, hs1, hp1, hup1⟩ := hm1.heap.record (st' := .busy) hj1 he1
   rw [heg] at hr1 hup1
   refine ⟨_, run_beginRound hr1 hs1, ?_⟩
   have hm2 : Models Mr η1 fr1 (setK j (.lp .busy li1 fr01) O1) nx1 a1 (w1.putObj e.g (.loop { r1 with state := .busy })) := ⟨hup1 _ rfl hp1 rfl rfl rfl rfl, hm1.size, hm1.nds, hm1.defers, hm1.ro, hm1.frame⟩
   refine Code.wpIn_mono ?_ (ZJ hTr li.body hq η1 a1 _ hm2)
   have fin : ∀ {ex : Ex} {η2 : Env} {fr2 : Fr} {O2 : Hps} {nx2 : Nat} {a2 : Act} {w2 : World} (jump : Option Code), Models Mr η2 fr2 O2 nx2 a2 w2 → Z8z j K ex fr2 O2 nx2 → (match ex with | .normal => jump = none | .ret => jump = some .ret | .exit id => jump = some (.exit id)) →
       ∃ v w', (Instr.endRound e.g jump).run Mr.P w2 = .ok v w' ∧ ∃ v', Ending.returned v = .returned v' ∧ ∃ r O' nx' η', η <+: η' ∧ HeapOK M η' w' O' nx' ∧ Den η' r v' ∧ K r O' nx' := by
     intro ex η2 fr2 O2 nx2 a2 w2 jump hm2 hq hj'
     unfold Z8z at hq
     split at hq
     case h_2 => exact hq.out.elim
     rename_i hh hj2
     split at hq
     case h_2 => exact hq.out.elim
     rename_i st2 li2 fr02
     split at hq
     case h_2 => exact hq.out.elim
     obtain ⟨e2, he2, heg2⟩ := hm2.ro e.g j (by subst hMr; rfl)
     have hpre : η <+: η2 := by have := hm2.heap.pre; subst hMr; exact this
     have back : ∀ {w' : World} {O' : Hps}, HeapOK Mr η2 w' O' nx2 → HeapOK M η2 w' O' nx2 := fun h => by subst hMr; exact h.back H.pre H.sok
     cases ex with
     | normal =>
       simp only at hj'
       subst hj'
       simp only [Xl] at hq
       obtain ⟨r2, hr2, hs2, hp2, hup2⟩ := hm2.heap.record (st' := .ready) hj2 he2
       rw [heg2] at hr2 hup2
       exact ⟨_, _, run_endRound none hr2, _, rfl, .bool true, _, _, η2, hpre, back (hup2 _ rfl rfl rfl rfl rfl rfl), (by simp only [Den]; rfl), hq⟩
     | ret =>
       simp only at hj'
       subst hj'
       simp only [Xl] at hq
       obtain ⟨r2, hr2, hs2, hp2, hup2⟩ := hm2.heap.record (st' := .left none) hj2 he2
       rw [heg2] at hr2 hup2
       exact ⟨_, _, run_endRound (some .ret) hr2, _, rfl, .bool false, _, _, η2, hpre, back (hup2 _ rfl rfl rfl rfl rfl rfl), (by simp only [Den]; rfl), hq⟩
     | exit id =>
       simp only at hj'
       subst hj'
       simp only [Xl] at hq
       obtain ⟨r2, hr2, hs2, hp2, hup2⟩ := hm2.heap.record (st' := .left (some id)) hj2 he2
       rw [heg2] at hr2 hup2
       exact ⟨_, _, run_endRound (some (.exit id)) hr2, _, rfl, .bool false, _, _, η2, hpre, back (hup2 _ rfl rfl rfl rfl rfl rfl), (by simp only [Den]; rfl), hq⟩
   intro ex a2 w2 hq2
   cases ex with
   | normal => obtain ⟨η2, fr2, O2, nx2, hm2, hq2⟩ := hq2; exact fin none hm2 hq2 rfl
   | ret => obtain ⟨η2, fr2, O2, nx2, hm2, hq2⟩ := hq2; exact fin (some .ret) hm2 hq2 rfl
   | exit id => obtain ⟨η2, fr2, O2, nx2, hm2, hq2⟩ := hq2; exact fin (some (.exit id)) hm2 hq2 rfl
   | goto l => exact hq2.elim
   | panic ch => exact hq2.elim
   | outgrown => exact hq2.elim
theorem Z56 {K : Fr → Prop} : ∀ {fr : Fr}, noDS fr K → ∃ fr0, K fr0 ∧ lkp DS fr0 = none ∧ ∀ t v, lkp t fr0 = some v → lkp t fr = some v
 | [], h => ⟨[], h, rfl, fun t v h => h⟩
 | (d, u) :: r, h => by
   unfold noDS at h
   split at h
   · rename_i e
     have e := beq_eq e
     obtain ⟨fr0, h1, h0, h2⟩ := Z56 h
     refine ⟨fr0, h1, h0, fun t v ht => ?_⟩
     rw [Z7]
     split
     · rename_i e2
       rw [e2, e, h0] at ht; cases ht
     · exact h2 t v ht
   · rename_i e
     have e := Xm e
     obtain ⟨fr0, h1, h0, h2⟩ := Z56 h
     refine ⟨(d, u) :: fr0, h1, by rw [Z7, if_neg (Ne.symm e)]; exact h0, fun t v ht => ?_⟩
     rw [Z7] at ht ⊢
     split
     · rename_i e; rw [if_pos e] at ht; exact ht
     · rename_i e; rw [if_neg e] at ht; exact h2 t v ht
theorem Z6M (hT : TabOK M.P M.C.T) {gf g : FuncId} {fn : Func} {c : Code} {cap : List SV} (hcall : ∀ args w, (callFunc gf args).run M.P w = .ok (.enter g args) w) (hf : M.P.funcs[g]? = some fn) (hb : fn.body = some c) (N : Nat) (hN : fn.ntmps = N) (hND : N ≤ DS) (hlen : cap.length + 1 ≤ N) (hres : fn.results = #[])
   {f : Operand} {Q : Post} {a a' : Act} {η1 : Env} {w1 : World} {O1 : Hps} {n1 j l : Nat} (hev : ∃ vs, a.eval f = .func (.func gf) #[] ⟨vs⟩ ∧ DenL η1 cap vs) (H1 : HeapOK M η1 w1 O1 n1) (hj : η1[j]? = some (some ⟨l, 0, 0⟩)) {frK : (Fr → Prop) → Prop}
   (hfrK : ∀ {K : Fr → Prop}, frK K → ∃ fr', K fr' ∧ ∀ η' w' O' nx', η1 <+: η' → HeapOK M η' w' O' nx' → Models M η' fr' O' nx' a' w')
   (h : run (M.at N none η1) c (Ua 0 (.yf (.loc j) :: cap)) O1 n1 (endI (M.at N none η1) [] (Z8A j frK Q))) :
   ∃ (d : Deferred) (w1' : World) (f' : FuncId) (args : Array Value) (w2 : World), (resolve a.eval (rangeCall f l) 0).run M.P w1 = .ok d w1' ∧ (∀ f', Target.leads M.P w1' d.target d.args = some f' → M.fence.fn f') ∧ (invoke d.target d.args).run M.P w1' = .ok (.enter f' args) w2 ∧
     (M.fence.depth.isSome = true → 1 ≤ 0) ∧ CallsIn M.fence (0 - 1) M.P f' args w2 (rangePost M.fence 0 M.P l (Z6q M Q) a') := by
 obtain ⟨vs, hv, hd⟩ := hev
 refine ⟨{ target := .fn (.func gf) ⟨vs⟩, args := #[.func (.yield l) #[] #[]] }, w1, g, #[.func (.yield l) #[] #[]] ++ ⟨vs⟩, w1, ?_, fun f' _ => M.all f', ?_, (fun h => by cases h), ?_⟩
 · simp only [resolve, hv]
   simp [go_sem]
 · simp [invoke, go_sem, hcall]
 · have hargs : (#[.func (.yield l) #[] #[]] ++ (⟨vs⟩ : Array Value)) = ⟨Value.func (.yield l) #[] #[] :: vs⟩ := by apply Array.ext'; simp
   rw [hargs]
   have hd1 : DenL η1 (.yf (.loc j) :: cap) (Value.func (.yield l) #[] #[] :: vs) := by
     simp only [DenL, Den]
     exact ⟨_, _, rfl, ⟨_, hj, rfl⟩, hd⟩
   refine callsIn_wide.2 (Z45 hT hf hb N hN hND (by simpa using hlen) (by simpa using hres) H1 hd1 h fun v r w' O' nx' η' hp H' hd' hk => ?_)
   unfold Z8A at hk
   split at hk
   case h_2 => exact hk.out.elim
   rename_i hh hj'
   split at hk
   case h_2 => exact hk.out.elim
   rename_i st li fr0
   have hje : η'[j]? = some (some ⟨l, 0, 0⟩) := Env.get_mono (b := .loc j) hp hj
   obtain ⟨r1, hr1, hs1, hp1, _⟩ := H'.record (st' := .ready) hj' hje
   obtain ⟨s1, p1, c1, c2, c3, c4, c5, c6⟩ := r1
   simp only at hr1 hs1 hp1
   subst hs1 hp1
   have hdrop : HeapOK M η' (w'.putObj l (.loop { state := .exhausted, pending := st.jump, fn := c1, tmps := c2, params := c3, assign := c4, body := c5, defers := c6 })) (delK j O') nx' := H'.drop hj' hje (fun k hk => World.putObj_heap_other (by rintro rfl; exact hk (feet.own (b := .loc j) hje))) World.putObj_size rfl rfl rfl (Nat.le_refl _)
   split at hk
   · rw [Yf] at hk
     obtain ⟨fr', h1, h2⟩ := hfrK hk
     exact ⟨_, _, run_endLoop hr1 (by simp [LpS.state]), ⟨η', fr', _, nx', h2 η' _ _ _ hp hdrop, h1⟩⟩
   · exact hk.out.elim
   · split at hk
     · rw [Yf] at hk
       obtain ⟨fr', h1, h2⟩ := hfrK hk
       exact ⟨_, _, run_endLoop hr1 (by simp [LpS.state]), wpIn_ret ⟨η', fr', _, nx', h2 η' _ _ _ hp hdrop, h1⟩⟩
     · rw [Yf] at hk
       obtain ⟨fr', h1, h2⟩ := hfrK hk
       exact ⟨_, _, run_endLoop hr1 (by simp [LpS.state]), wpIn_exit ⟨η', fr', _, nx', h2 η' _ _ _ hp hdrop, h1⟩⟩
theorem Z9R {fr : Fr} {d : Nat} {K : Fr → Prop} (h : Z9Q fr d K) : ∃ l, K ((DS, .dfs (.ptr (.loc d) 0 0 0 :: l)) :: fr) ∧ ∀ {η : Env} {ds : List Deferred}, DfOK η ds (lkp DS fr) → DfL η l ds := by
 unfold Z9Q at h
 split at h
 · rename_i v hv
   split at h
   · rename_i l
     exact ⟨l, h, fun hd => by rw [hv] at hd; exact hd⟩
   · rename_i hn
     refine ⟨[], h, fun hd => ?_⟩
     rw [hv] at hd
     have : Z4L (some v) = false := by cases v <;> first | rfl | exact (hn _ rfl).elim
     rw [DfOK.no this] at hd
     subst hd; rfl
 · rename_i hv
   refine ⟨[], h, fun hd => ?_⟩
   rw [hv] at hd
   have hd : _ = [] := hd
   subst hd; rfl
theorem RANGEF.of (hT : TabOK M.P M.C.T) {f : Operand} {ps : Array Tmp} {asg body : Code} {fr : Fr} {Q : Post} {gf g : FuncId} {cap : List SV} {fn : Func} {c : Code} (hcall : ∀ args w, (callFunc gf args).run M.P w = .ok (.enter g args) w) (hf : M.P.funcs[g]? = some fn) (hb : fn.body = some c) (N : Nat) (hN : fn.ntmps = N)
   (li : LpI) (hli : li = ⟨M.C.N, ps.toList, asg, body⟩) (hv : V1 fr f = some (.fn (.func gf) [] cap)) (hlen : Nat.ble (cap.length + 1) N = true) (hres : fn.results = #[]) (hro : M.C.ro = none)
   (h : noDS fr fun fr0 => ∀ η1 : Env, η1.length = nx + 2 → run (M.at N none η1) c (Ua 0 (.yf (.loc (nx + 1)) :: cap)) ((nx + 1, .lp .ready li fr0) :: (nx, .dfr []) :: O) (nx + 2) (endI (M.at N none η1) [] (Z8A (nx + 1) (Z9Q fr nx) Q))) (hND : Nat.ble N DS = true := by rfl) : RANGEF M f ps asg body fr O nx Q := by
 obtain ⟨fr0, h, _, hfr0⟩ := Z56 h
 refine ⟨fun η a w hm => wpIn_rangeFunc fun fnid _ => ?_⟩
 have hround : M.fence.round = none := by simp [Mx.fence, hro]
 rw [hround]
 obtain ⟨rec, hrec⟩ : ∃ rec : Loop, rec = { state := .ready, pending := none, fn := fnid, tmps := a.tmps, params := ps, assign := asg, body, defers := w.heap.size } := ⟨_, rfl⟩
 have hl := hm.heap.len
 obtain ⟨η1, hη1⟩ : ∃ η1 : Env, η1 = η ++ [some ⟨w.heap.size, 0, 0⟩] := ⟨_, rfl⟩
 have H1 : HeapOK M η1 (w.alloc (.deferred (some []))) ((nx, .dfr []) :: O) (nx + 1) := by
   rw [hη1]
   refine hm.heap.alloc (w' := w.alloc (.deferred (some []))) (o := .deferred (some [])) (h := .dfr []) rfl rfl rfl rfl 0 0 ?_
   simp only [HpSat]
   exact ⟨⟨w.heap.size, 0, 0⟩, by simp [Env.get, ← hl], rfl, World.alloc_heap_new w _, (fun n hn => nomatch hn), by simp⟩
 have hl1 := H1.len
 obtain ⟨η2, hη2⟩ : ∃ η2 : Env, η2 = η1 ++ [some ⟨w.heap.size + 1, 0, 0⟩] := ⟨_, rfl⟩
 have hsz : (w.alloc (.deferred (some []))).heap.size = w.heap.size + 1 := World.size_alloc _ _
 have hpre : η <+: η2 := by rw [hη2, hη1, List.append_assoc]; exact List.prefix_append _ _
 have hj2 : η2[nx + 1]? = some (some ⟨w.heap.size + 1, 0, 0⟩) := by rw [hη2, ← hl1]; simp
 have hd2 : η2[nx]? = some (some ⟨w.heap.size, 0, 0⟩) := by
   rw [hη2, List.getElem?_append_left (by omega), hη1, ← hl]; simp
 have H2 : HeapOK M η2 ((w.alloc (.deferred (some []))).alloc (.loop rec)) ((nx + 1, .lp .ready li fr0) :: (nx, .dfr []) :: O) (nx + 2) := by
   have := H1.alloc (w' := (w.alloc (.deferred (some []))).alloc (.loop rec)) (o := .loop rec) (h := .lp .ready li fr0) rfl rfl rfl rfl 0 0 (by
     rw [hsz, ← hη2]
     simp only [HpSat]
     refine ⟨_, rec, hj2, rfl, by rw [← hsz]; exact World.alloc_heap_new _ _, ?_⟩
     subst hrec hli
     exact ⟨rfl, rfl, rfl, rfl, rfl, hm.size, fun t sv ht => (hm.frame t sv (hfr0 t sv ht)).mono hpre⟩)
   rw [hsz, ← hη2] at this
   exact this
 have hev : ∃ vs, a.eval f = .func (.func gf) #[] ⟨vs⟩ ∧ DenL η2 cap vs := by
   have := Y2 hm.frame hv
   simp only [Den, DenL] at this
   obtain ⟨us, vs, h1, rfl, h3⟩ := this
   exact ⟨vs, h1, h3.mono hpre⟩
 obtain ⟨d, w1', f', args, w2, q1, q2, q3, q4, q5⟩ := Z6M (a' := { a with defers := [{ target := .collected w.heap.size, args := #[] }] ++ a.defers }) hT hcall hf hb N hN (Nat.le_of_ble_eq_true hND) (Nat.le_of_ble_eq_true hlen) hres hev H2 hj2 (frK := Z9Q fr nx) (fun {K} hk => by
   obtain ⟨l, h1, h2⟩ := Z9R hk
   refine ⟨_, h1, fun η' w' O' nx' hp H' => ⟨H', hm.size, hm.nds, ?_, U9 (hpre.trans hp) hm.ro, fun t sv ht => ?_⟩⟩
   · rw [Z7, if_pos rfl]
     exact ⟨⟨w.heap.size, 0, 0⟩, a.defers, Env.get_mono (b := .loc nx) hp hd2, rfl, h2 (hm.defers.mono (hpre.trans hp))⟩
   · rw [Z7] at ht
     split at ht
     · injection ht with ht; subst ht; simp only [Den]
     · exact (hm.frame t sv ht).mono (hpre.trans hp)) (h η2 H2.len)
 refine ⟨w.heap.size + 1, [{ target := .collected w.heap.size, args := #[] }], _, d, w1', f', args, w2, run_enterLoop_outer _ _ _ _ _, ?_, q2, q3, q4, q5⟩
 rw [hrec] at q1
 exact q1
end
theorem FIN.weak {M : Mx} {O O1 : Hps} {nx n1 : Nat} {r r1 : SV} {Q : SV → Hps → Nat → Prop} (h : ∀ η w v, HeapOK M η w O nx → Den η r v → ∃ η', η <+: η' ∧ HeapOK M η' w O1 n1 ∧ Den η' r1 v) (hf : FIN M O1 n1 r1 Q) : FIN M O nx r Q :=
 ⟨fun η w v H hd => let ⟨η1, h1, h2, h3⟩ := h η w v H hd; hf.out η1 w v h2 h3⟩
theorem FIN.nil {M : Mx} {O : Hps} {nx : Nat} {Q : SV → Hps → Nat → Prop} (es : Nat) (hf : FIN M ((nx, .rows es []) :: O) (nx + 1) (.sl (.loc nx) 0 es 0 none) Q) : FIN M O nx (.val (.slice none 0 0)) Q := by
 refine FIN.weak (fun η w v H hd => ?_) hf
 have hnew : (η ++ [none])[nx]? = some none := by rw [List.getElem?_append_right (by rw [H.len]; omega), H.len]; simp
 refine ⟨η ++ [none], List.prefix_append _ _, H.push none (fun _ _ => rfl) (Nat.le_refl _) rfl rfl rfl (Nat.le_refl _) (.inl ⟨hnew, rfl⟩) (fun k f => (feet.none (b := .loc nx) hnew f).elim) (fun k f => (feet.none (b := .loc nx) hnew f).elim), ?_⟩
 simp only [Den] at hd ⊢
 exact .inl ⟨hnew, hd.1, trivial⟩
theorem FIN.nilCell {M : Mx} {O : Hps} {nx : Nat} {r : SV} {Q : SV → Hps → Nat → Prop} (i j es : Nat) {row row' : List SV} (hi : lkp i O = some (.box row)) (hr : Z0U nx es j row = some row') (hf : FIN M ((nx, .rows es []) :: setK i (.box row') O) (nx + 1) r Q) : FIN M O nx r Q :=
 FIN.weak (fun η w v H hd => let ⟨η', h1, h2⟩ := H.nilCell hi hr; ⟨η', h1, h2, Den.mono h1 hd⟩) hf
def Z20 : List Nat → Hps → (Hps → Prop) → Prop
 | [], _, K => K []
 | i :: is, O, K => match lkp i O with
   | some h => Z20 is O fun r => K ((i, h) :: r)
   | none => Z20 is O K
def Z2Q : Hps → Hps → (Hps → Prop) → Prop
 | [], r, K => K r
 | (i, h) :: l, r, K => Z2Q l r fun r => K ((i, h) :: r)
theorem VJ : ∀ {ts : List Nat} {O : Hps} {K : Hps → Prop}, Z20 ts O K → ∃ r, K r
 | [], O, K, h => ⟨_, h⟩
 | t :: ts, O, K, h => by
   simp only [Z20] at h
   split at h
   · obtain ⟨r, hr⟩ := VJ h; exact ⟨_, hr⟩
   · exact VJ h
theorem Z19 : ∀ {l r : Hps} {K : Hps → Prop}, Z2Q l r K ↔ K (l ++ r)
 | [], r, K => Iff.rfl
 | (t, v) :: l, r, K => by simp only [Z2Q, List.cons_append, Z19]
theorem ZX {m es : Nat} {rs : List (List SV)} (h : Zs rs = true) : Z3 m (.rows es rs) = true := by simp only [Z3, Z0 _ h]
theorem ZC {m es : Nat} {σ : Nat → Nat} {rs : List (List SV)} (h : Zs rs = true) : Z3 m (renH σ (.rows es rs)) = true := by rw [Zn _ (h := .rows es rs) h]; exact ZX h
section
variable {M : Mx} {fr : Fr} {O : Hps} {nx : Nat}
theorem LOOP.gok {body : Code} {Q : Post} (hT : TabOK M.P M.C.T) (ks ko : List Nat) {X : Type} (P : X → Prop) (chg : X → Fr) (Ox : X → Hps) (n0 : Nat) (μ : X → Nat) (x0 : X) (hP : P x0)
   (h : Z4P ks fr fun fr0 => Z20 ko O fun O0 => (appK (chg x0) fr0 fun fr' => Z2Q (Ox x0) O0 fun O' => GOES M fr O nx fr' O' n0) ∧
     ∀ x, P x → appK (chg x) fr0 fun fr1 => Z2Q (Ox x) O0 fun O1 => run M body fr1 O1 n0 fun e fr O nx => match e with
       | .normal => ∃ x', P x' ∧ μ x' < μ x ∧ appK (chg x') fr0 fun fr' => Z2Q (Ox x') O0 fun O' => GOES M fr O nx fr' O' n0
       | e => Q e fr O nx) : LOOP M body fr O nx Q := by
 obtain ⟨fr0, h⟩ := UE h
 obtain ⟨O0, h1, h2⟩ := VJ h
 simp only [WU, Z19] at h1 h2
 exact LOOP.inv hT P (fun x => (chg x ++ fr0, Ox x ++ O0, n0)) μ x0 hP h1 h2
theorem LOOP.nilCell {body : Code} {Q : Post} (i j es : Nat) {row row' : List SV} (hi : lkp i O = some (.box row)) (hr : Z0U nx es j row = some row') (k : LOOP M body fr ((nx, .rows es []) :: setK i (.box row') O) (nx + 1) Q) : LOOP M body fr O nx Q :=
 LOOP.goes ⟨fun η a w hm => let ⟨η', hp, H⟩ := hm.heap.nilCell hi hr; ⟨η', H, hm.size, hm.nds, hm.defers.mono hp, U9 hp hm.ro, fun t v ht => (hm.frame t v ht).mono hp⟩⟩ k
end
structure GHO (M : Mx) (O : Hps) (nx : Nat) (O1 : Hps) (n1 : Nat) : Prop where
 out : ∀ η w, HeapOK M η w O nx → ∃ η', η <+: η' ∧ HeapOK M η' w O1 n1
section
variable {M : Mx} {fr : Fr} {O O1 O2 : Hps} {nx n1 n2 : Nat}
theorem GHO.refl : GHO M O nx O nx := ⟨fun η w H => ⟨η, List.prefix_rfl, H⟩⟩
theorem GHO.trans (h : GHO M O nx O1 n1) (k : GHO M O1 n1 O2 n2) : GHO M O nx O2 n2 :=
 ⟨fun η w H => let ⟨η1, p1, H1⟩ := h.out η w H; let ⟨η2, p2, H2⟩ := k.out η1 w H1; ⟨η2, p1.trans p2, H2⟩⟩
theorem GHO.goes (h : GHO M O nx O1 n1) : GOES M fr O nx fr O1 n1 :=
 ⟨fun η a w hm => let ⟨η', hp, H⟩ := h.out η w hm.heap; ⟨η', H, hm.size, hm.nds, hm.defers.mono hp, U9 hp hm.ro, fun t v ht => (hm.frame t v ht).mono hp⟩⟩
theorem GHO.loop {body : Code} {Q : Post} (h : GHO M O nx O1 n1) (k : LOOP M body fr O1 n1 Q) : LOOP M body fr O nx Q := LOOP.goes h.goes k
theorem GHO.call {f : FuncId} {args : List SV} {K : SV → Hps → Nat → Prop} (h : GHO M O nx O1 n1) (k : CALL M f args O1 n1 K) : CALL M f args O nx K := CALL.weak h.out k
theorem GHO.drawn {id : Nat} {ops : Array Oper} {Q : Post} (h : GHO M O nx O1 n1) (k : DRAWN M id ops fr O1 n1 Q) : DRAWN M id ops fr O nx Q :=
 ⟨fun η a w hm => let ⟨η1, h1⟩ := (h.goes (fr := fr)).out η a w hm; k.out η1 a w h1⟩
theorem GHO.fin {r : SV} {Q : SV → Hps → Nat → Prop} (h : GHO M O nx O1 n1) (k : FIN M O1 n1 r Q) : FIN M O nx r Q :=
 ⟨fun η w v H hd => let ⟨η1, p1, H1⟩ := h.out η w H; k.out η1 w v H1 (hd.mono p1)⟩
theorem GHO.deep0 (i : Nat) (hi : lkp i O = some (.mp [])) : GHO M O nx (setK i (.deep true 2 []) O) nx := by
 refine ⟨fun η w H => ⟨η, List.prefix_rfl, ?_⟩⟩
 have hsat := (H.own.1 i _ hi).1
 simp only [HpSat] at hsat
 obtain ⟨e, es, h1, h2, h3, h4, h5⟩ := hsat
 have hk : ∀ a b x, YA [] a b = some x → False := fun a b x h => by simp [YA] at h
 refine H.updF hi h1 (fun _ _ => rfl) rfl rfl rfl rfl ?_ (Nat.le_refl _) fun m f => ?_
 · simp only [HpSat]
   refine ⟨⟨⟨e, es, h1, h2, h3, h4, h5⟩, trivial⟩, fun e' h6 => ?_⟩
   rw [h1] at h6; injection h6 with h6; injection h6 with h6; subst h6
   exact ⟨h2, fun o ho => ⟨fun a b es' rows h => (hk a b _ h).elim, fun a b a' b' x x' v v' k h => (hk a b _ h).elim⟩⟩
 · rcases f.of h1 with rfl | f
   · exact feet.own h1
   · simp only [kid] at f
     obtain ⟨o, a, b, x, v, _, h, _⟩ := f
     exact (hk a b _ h).elim
theorem GHO.nilCell (i j es : Nat) {row row' : List SV} (hi : lkp i O = some (.box row)) (hr : Z0U nx es j row = some row') : GHO M O nx ((nx, .rows es []) :: setK i (.box row') O) (nx + 1) := ⟨fun η w H => H.nilCell hi hr⟩
theorem GHO.putk (i r c k : Nat) {mp : Bool} {es es' n : Nat} {rs : List (List DC)} {row : List DC} {rows : List (List SV)} (hi : lkp i O = some (.deep mp es rs)) (hr : rs[r]? = some row) (hc : row[c]? = some (.v (.sl (.loc k) 0 es' n none)))
   (hk : lkp k O = some (.rows es' rows)) (hn : n ≤ rows.length) (hki : k ≠ i) : GHO M O nx (delK k (setK i (.deep mp es (setC rs r c (.kid es' (rows.take n)))) O)) nx := ⟨fun η w H => ⟨η, List.prefix_rfl, H.putk hi hr hc hk hn hki⟩⟩
theorem XU {m : Nat} {mp : Bool} {es : Nat} {rs : List (List DC)} (h : YX rs = true) : Z3 m (.deep mp es rs) = true := YQ m (h := .deep mp es rs) h
theorem Vk {m : Nat} {rs : List (List SV)} (h : Zs rs = true) : Z3 m (.mp rs) = true := YQ m (h := .mp rs) h
end
end Go.Sx
set_option linter.unusedSectionVars false
namespace Go.Our
section
variable {α : Type} {c : α → α → Int}
theorem Tri.lt_trans (h : Tri c) {x y z : α} (h1 : c x y < 0) (h2 : c y z ≤ 0) : c x z < 0 := by
 have h3 := h.trans x y z (by omega) h2
 rcases Int.lt_or_eq_of_le h3 with h4 | h4
 · exact h4
 · have e := (h.zero x z).1 h4
   subst e
   have := h.anti x y
   omega
theorem Tri.self (h : Tri c) (x : α) : c x x = 0 := (h.zero x x).2 rfl
theorem Tri.ne (h : Tri c) {x y : α} (hl : c x y < 0) : x ≠ y := fun e => by subst e; have := h.self x; omega
def Rise (c : α → α → Int) (l : List α) : Prop := l.Pairwise fun a b => c a b < 0
theorem Z00 (h : Tri c) : ∀ {l m : List α}, Rise c l → Rise c m → (∀ x, x ∈ l ↔ x ∈ m) → l = m
 | [], [], _, _, _ => rfl
 | [], y :: m, _, _, he => by have := (he y).2 (by simp); simp at this
 | x :: l, [], _, _, he => by have := (he x).1 (by simp); simp at this
 | x :: l, y :: m, hl, hm, he => by
   have hl := List.pairwise_cons.1 hl
   have hm := List.pairwise_cons.1 hm
   have hxy : x = y := by
     rcases List.mem_cons.1 ((he x).1 (by simp)) with e | hx
     · exact e
     · rcases List.mem_cons.1 ((he y).2 (by simp)) with e | hy
       · exact e.symm
       · have h1 := hm.1 x hx
         have h2 := hl.1 y hy
         have := h.anti x y
         omega
   subst hxy
   congr 1
   refine Z00 h hl.2 hm.2 fun z => ⟨fun hz => ?_, fun hz => ?_⟩
   · rcases List.mem_cons.1 ((he z).1 (by simp [hz])) with e | h1
     · subst e; exact (h.ne (hl.1 _ hz) rfl).elim
     · exact h1
   · rcases List.mem_cons.1 ((he z).2 (by simp [hz])) with e | h1
     · subst e; exact (h.ne (hm.1 _ hz) rfl).elim
     · exact h1
end
section
variable {α : Type} [DecidableEq α] {c : α → α → Int}
def Z6 : List α → List α
 | [] => []
 | [a] => [a]
 | a :: b :: l => if a = b then Z6 (b :: l) else a :: Z6 (b :: l)
theorem Uj : ∀ (l : List α) (x : α), x ∈ Z6 l ↔ x ∈ l
 | [], x => by simp [Z6]
 | [a], x => by simp [Z6]
 | a :: b :: l, x => by
   have ih := Uj (b :: l) x
   unfold Z6
   split
   · rename_i e; subst e; rw [ih]; simp
   · rw [List.mem_cons, ih]; simp [List.mem_cons]
def leC (c : α → α → Int) (x y : α) : Bool := !(decide (c y x < 0))
theorem Z30 (h : Tri c) {x y : α} : leC c x y = true ↔ c x y ≤ 0 := by
 have := h.anti x y
 unfold leC
 simp only [Bool.not_eq_true', decide_eq_false_iff_not]
 omega
theorem WA (h : Tri c) : ∀ (l : List α), l.Pairwise (fun a b => c a b ≤ 0) → Rise c (Z6 l)
 | [], _ => List.Pairwise.nil
 | [a], _ => by simp [Z6, Rise]
 | a :: b :: l, hp => by
   have hp' := List.pairwise_cons.1 hp
   have ih := WA h (b :: l) hp'.2
   unfold Z6
   split
   · exact ih
   · rename_i hne
     refine List.pairwise_cons.2 ⟨fun x hx => ?_, ih⟩
     rw [Uj] at hx
     have hab : c a b < 0 := by
       have h1 := hp'.1 b (by simp)
       have h2 : c a b ≠ 0 := fun e => hne ((h.zero a b).1 e)
       omega
     rcases List.mem_cons.1 hx with rfl | hx
     · exact hab
     · exact h.lt_trans hab ((List.pairwise_cons.1 hp'.2).1 x hx)
def setL (c : α → α → Int) (l : List α) : List α := Z6 (l.mergeSort (leC c))
theorem Uk (l : List α) (x : α) : x ∈ setL c l ↔ x ∈ l := by
 unfold setL
 rw [Uj]
 exact List.mem_mergeSort
theorem Z01 (h : Tri c) (l : List α) : Rise c (setL c l) := by
 refine WA h _ ?_
 have := List.pairwise_mergeSort (le := leC c) (fun a b d h1 h2 => by rw [Z30 h] at *; exact h.trans a b d h1 h2) (fun a b => by
   have := h.anti a b
   rw [Bool.or_eq_true, Z30 h, Z30 h]; omega) l
 exact this.imp fun h1 => (Z30 h).1 h1
theorem Zc1 (h : Tri c) {l m : List α} (hm : Rise c m) (he : ∀ x, x ∈ m ↔ x ∈ l) : m = setL c l := Z00 h hm (Z01 h l) fun x => (he x).trans (Uk l x).symm
theorem Z9Y (h : Tri c) {l : List α} (hl : Rise c l) : setL c l = l := (Zc1 h hl fun _ => Iff.rfl).symm
theorem JX : ∀ (l : List α), (Z6 l).length ≤ l.length
 | [] => by simp [Z6]
 | [a] => by simp [Z6]
 | a :: b :: l => by
   have ih := JX (b :: l)
   unfold Z6
   split
   · simp only [List.length_cons] at ih ⊢; omega
   · simp only [List.length_cons] at ih ⊢; omega
theorem Z5f (l : List α) : (setL c l).length ≤ l.length := by
 have := JX (l.mergeSort (leC c))
 rw [List.length_mergeSort] at this
 exact this
end
end Go.Our
namespace Go.Our
section
variable {α : Type} {c : α → α → Int}
def wanted (f b s p q : Prop) : Prop := (f ∧ p ∧ ¬ q) ∨ (b ∧ p ∧ q) ∨ (s ∧ ¬ p ∧ q)
end
section
variable {α : Type} [DecidableEq α] {c : α → α → Int}
def placeM (c : α → α → Int) (l : List α) (q : α) : Nat := (l.takeWhile fun x => decide (c x q < 0)).length
theorem Z31 (l : List α) (q : α) : placeM c l q ≤ l.length := (List.takeWhile_sublist _).length_le
theorem Z9Z {l : List α} {q : α} {k : Nat} (hk : k < placeM c l q) : c (l[k]'(Nat.lt_of_lt_of_le hk (Z31 l q))) q < 0 := by
 have h1 : (l.takeWhile fun x => decide (c x q < 0))[k] = l[k]'(Nat.lt_of_lt_of_le hk (Z31 l q)) := by
   have h2 := List.takeWhile_prefix (l := l) (fun x => decide (c x q < 0))
   exact (List.IsPrefix.getElem h2 hk)
 have h3 := List.all_takeWhile (l := l) (p := fun x => decide (c x q < 0))
 have h4 := List.all_eq_true.1 h3 _ (List.getElem_mem hk)
 rw [h1] at h4
 simpa using h4
theorem Za0 {l : List α} {q : α} (hk : placeM c l q < l.length) : ¬ c l[placeM c l q] q < 0 := by
 have h1 : l = (l.takeWhile fun x => decide (c x q < 0)) ++ l.dropWhile fun x => decide (c x q < 0) := (List.takeWhile_append_dropWhile).symm
 have hne : l.dropWhile (fun x => decide (c x q < 0)) ≠ [] := by
   intro e
   have := congrArg List.length h1
   rw [e, List.append_nil] at this
   unfold placeM at hk; omega
 have h2 := List.head_dropWhile_not (l := l) (fun x => decide (c x q < 0)) hne
 have h3 : l[placeM c l q] = (l.dropWhile fun x => decide (c x q < 0)).head hne := by
   have h4 : l[placeM c l q]? = (l.dropWhile fun x => decide (c x q < 0)).head? := by
     have h5 : ∀ (a b m : List α), m = a ++ b → m[a.length]? = b.head? := fun a b m e => by
       subst e; rw [List.getElem?_append_right (Nat.le_refl _), Nat.sub_self, List.head?_eq_getElem?]
     exact h5 _ _ _ h1
   rw [List.getElem?_eq_getElem hk, List.head?_eq_some_head hne] at h4
   injection h4
 rw [h3]
 exact of_decide_eq_false h2
theorem Z66 (h : Tri c) {l : List α} {q : α} {i : Nat} (hi : i ≤ l.length) (h1 : ∀ k (hk : k < l.length), k < i → c l[k] q < 0) (h2 : ∀ k (hk : k < l.length), i ≤ k → ¬ c l[k] q < 0) : i = placeM c l q := by
 rcases Nat.lt_trichotomy i (placeM c l q) with hlt | he | hgt
 · exact (h2 i (Nat.lt_of_lt_of_le hlt (Z31 l q)) (Nat.le_refl _) (Z9Z hlt)).elim
 · exact he
 · exact (Za0 (Nat.lt_of_lt_of_le hgt hi) (h1 _ _ hgt)).elim
theorem Z02 {l : List α} (hl : Rise c l) {i j : Nat} (hij : i < j) (hj : j < l.length) : c (l[i]'(by omega)) l[j] < 0 := List.pairwise_iff_getElem.1 hl i j (by omega) hj hij
theorem Z4h (h : Tri c) {l : List α} (hl : Rise c l) {q : α} {k m : Nat} (hk : k ≤ m) (hm : m < l.length) (hq : c l[m] q < 0) : c (l[k]'(by omega)) q < 0 := by
 rcases Nat.lt_or_eq_of_le hk with hk | rfl
 · exact h.lt_trans (Z02 hl hk hm) (by omega)
 · exact hq
theorem Z7c (h : Tri c) {l : List α} (hl : Rise c l) {q : α} {k m : Nat} (hk : m ≤ k) (hm : k < l.length) (hq : ¬ c (l[m]'(by omega)) q < 0) : ¬ c l[k] q < 0 := by
 intro hc
 exact hq (Z4h h hl hk hm hc)
def Z24 (c : α → α → Int) (l : List α) (q : α) : Bool := decide (l[placeM c l q]? = some q)
theorem Z8I (h : Tri c) {l : List α} (hl : Rise c l) (q : α) : Z24 c l q = decide (q ∈ l) := by
 unfold Z24
 rw [Bool.eq_iff_iff, decide_eq_true_iff, decide_eq_true_iff]
 refine ⟨fun e => List.mem_of_getElem? e, fun hm => ?_⟩
 obtain ⟨i, hi, rfl⟩ := List.mem_iff_getElem.1 hm
 have : i = placeM c l l[i] := Z66 h (by omega) (fun k hk hki => Z02 hl hki hi) (fun k hk hik hc => by
   rcases Nat.lt_or_eq_of_le hik with hik | rfl
   · have := Z02 hl hik hk
     have := h.anti l[i] l[k]
     omega
   · have := h.self l[i]; omega)
 rw [← this, List.getElem?_eq_getElem hi]
theorem Xt : ∀ {l : List α} {i : Nat} (h0 : 1 ≤ i) (h : i < l.length), Z6 (l.take (i + 1)) = if l[i] = l[i - 1]'(by omega) then Z6 (l.take i) else Z6 (l.take i) ++ [l[i]]
 | [], i, _, h => by simp at h
 | [a], i, h0, h => by simp at h; omega
 | a :: b :: l, 0, h0, h => by omega
 | a :: b :: l, 1, h0, h => by
   simp only [List.take_succ_cons, List.take_zero, Z6, List.getElem_cons_succ, List.getElem_cons_zero, Nat.sub_self]
   by_cases e : a = b
   · subst e; simp
   · rw [if_neg e, if_neg (fun h => e h.symm)]; rfl
 | a :: b :: l, i + 2, h0, h => by
   have hi : i + 1 < (b :: l).length := by simpa using h
   have ih := Xt (l := b :: l) (i := i + 1) (by omega) hi
   have e2 : (a :: b :: l)[i + 2 - 1]'(by simp at h ⊢; omega) = (b :: l)[i + 1 - 1]'(by simp at h ⊢; omega) := rfl
   have e3 : (a :: b :: l)[i + 2] = (b :: l)[i + 1] := rfl
   rw [e2, e3]
   simp only [List.take_succ_cons, Z6] at ih ⊢
   by_cases e : a = b
   · simp only [if_pos e]; exact ih
   · simp only [if_neg e, ih]
     split <;> simp
theorem Ul {l : List α} (h : l.length < 2) : Z6 l = l := by
 match l, h with
 | [], _ => rfl
 | [a], _ => rfl
theorem Z1f {l : List α} : Z6 (l.take 1) = l.take 1 := Ul (by simp; omega)
end
end Go.Our
namespace Go.Our
open Go.Sx
theorem Jc {n : Int} {a b : Qd} (h : (Zh n a b).2 = true) : Zk a = 0 ∧ Zk b = 0 ∧ a.g = b.g ∧ (ZW n a b).2 = true ∧ Zk (ZW n a b).1 = 0 ∧ (Zh n a b).1 = (ZW n a b).1 := by
 unfold Zh at h ⊢
 split at h
 · rename_i hc; rw [if_pos hc]; exact ⟨hc.1, hc.2.1, hc.2.2.1, hc.2.2.2.1, hc.2.2.2.2, rfl⟩
 · cases h
theorem Vn {n : Int} {a b : Qd} (h : (Zh n a b).2 = true) : n = 2 ∨ n = 3 ∨ n = 5 ∨ n = 7 ∨ n = 9 ∨ n = 11 := by
 have := (Jc h).2.2.2.1
 by_cases hn : n = 2 ∨ n = 3 ∨ n = 5 ∨ n = 7 ∨ n = 9 ∨ n = 11
 · exact hn
 · rw [Yr hn] at this; cases this
inductive Der (l : List Qd) : Qd → Prop
 | base {q : Qd} (h : q ∈ l) : Der l q
 | step {n : Int} {a b : Qd} (ha : Der l a) (hb : Der l b) (h : (Zh n a b).2 = true) : Der l (Zh n a b).1
def Z5g (l : List Qd) : Prop := ∀ n a b, a ∈ l → b ∈ l → (Zh n a b).2 = true → (Zh n a b).1 ∈ l
theorem ZaA {l m : List Qd} (hc : Z5g m) (hs : ∀ q ∈ l, q ∈ m) {q : Qd} (h : Der l q) : q ∈ m := by
 induction h with
 | base h => exact hs _ h
 | step _ _ h iha ihb => exact hc _ _ _ iha ihb h
def IsCl (l : List Qd) (most : Int) : Option (List Qd) → Prop
 | some m => Rise ZB m ∧ (∀ q, q ∈ m ↔ Der l q) ∧ (m.length : Int) ≤ most
 | none => ∃ B : List Qd, B.Nodup ∧ (∀ q ∈ B, Der l q) ∧ most < (B.length : Int)
theorem Z5h {α : Type} [DecidableEq α] : ∀ {l u : List α}, l.Nodup → (∀ x ∈ l, x ∈ u) → l.length ≤ u.length
 | [], u, _, _ => Nat.zero_le _
 | a :: l, u, hn, hs => by
   have ha := hs a (List.mem_cons_self ..)
   have hn' := List.nodup_cons.1 hn
   have := Z5h (u := u.erase a) hn'.2 (fun x hx => (List.mem_erase_of_ne (fun (e : x = a) => hn'.1 (by rw [← e]; exact hx))).2 (hs x (List.mem_cons_of_mem _ hx)))
   rw [List.length_erase_of_mem ha] at this
   have := List.length_pos_of_mem ha
   simp only [List.length_cons]
   omega
theorem Z1g {l : List Qd} {most : Int} : ∀ {r r' : Option (List Qd)}, IsCl l most r → IsCl l most r' → r = r'
 | some m, some m', ⟨h1, h2, _⟩, ⟨h3, h4, _⟩ => congrArg some (Z00 triQ h1 h3 fun q => (h2 q).trans (h4 q).symm)
 | some m, none, ⟨h1, h2, h3⟩, ⟨B, h4, h5, h6⟩ => by
   have := Z5h h4 (fun q hq => (h2 q).2 (h5 q hq))
   omega
 | none, some m, ⟨B, h4, h5, h6⟩, ⟨h1, h2, h3⟩ => by
   have := Z5h h4 (fun q hq => (h2 q).2 (h5 q hq))
   omega
 | none, none, _, _ => rfl
def X5 (first : Bool) (q o : Qd) (n : Int) : Option St :=
 let a := if first then q else o
 let b := if first then o else q
 if (Zh n a b).2 then some ⟨n, a, b, (Zh n a b).1⟩ else none
def Vo (first : Bool) (q : Qd) (others : List Qd) (ns : List Int) : List St := others.flatMap fun o => ns.filterMap (X5 first q o)
def Zw {σ : Type} (T : σ → St → σ × Bool) : List St → σ → σ × Bool
 | [], s => (s, true)
 | c :: cs, s => if (T s c).2 then Zw T cs (T s c).1 else ((T s c).1, false)
abbrev Ask := Bool × Qd × List Int
def asks (q : Qd) : List Ask := [(true, ⟨q.g, Zd, q.s, Zd⟩, [2, 3, 7]), (true, ⟨q.g, q.o, q.p, Zd⟩, [5, 11]), (true, ⟨q.g, Zd, iriT typB, q.s⟩, [9]),
 (false, ⟨q.g, q.p, iriT domB, Zd⟩, [2]), (false, ⟨q.g, q.p, iriT ranB, Zd⟩, [3]), (false, ⟨q.g, q.p, iriT subP, Zd⟩, [7]),
 (false, ⟨q.g, Zd, q.p, q.s⟩, [5, 11]), (false, ⟨q.g, q.o, iriT subC, Zd⟩, [9])]
def askM {σ : Type} (T : σ → St → σ × Bool) (rd : σ → List (Qd × List Qd)) (q : Qd) (a : Ask) (s : σ) : σ × Bool := Zw T (Vo a.1 q (atL a.2.1 (rd s)) a.2.2) s
def askL {σ : Type} (T : σ → St → σ × Bool) (rd : σ → List (Qd × List Qd)) (q : Qd) : List Ask → σ → σ × Bool
 | [], s => (s, true)
 | a :: as', s => if (askM T rd q a s).2 then askL T rd q as' (askM T rd q a s).1 else ((askM T rd q a s).1, false)
theorem Vp {σ : Type} (T : σ → St → σ × Bool) : ∀ (c d : List St) (s : σ), Zw T (c ++ d) s = if (Zw T c s).2 then Zw T d (Zw T c s).1 else ((Zw T c s).1, false)
 | [], d, s => by simp [Zw]
 | x :: c, d, s => by
   simp only [List.cons_append, Zw]
   by_cases h : (T s x).2
   · simp only [h, if_true]; exact Vp T c d _
   · simp only [h, Bool.false_eq_true, if_false]
theorem mem_cands {first : Bool} {q : Qd} {others : List Qd} {ns : List Int} {c : St} : c ∈ Vo first q others ns ↔ ∃ o ∈ others, ∃ n ∈ ns, X5 first q o n = some c := by
 simp only [Vo, List.mem_flatMap, List.mem_filterMap]
theorem Zc2 {n : Int} {q o : Qd} (h : (Zh n q o).2 = true) : ∃ a ∈ asks q, a.1 = true ∧ n ∈ a.2.2 ∧ ∃ k, k < 3 ∧ a.2.1 = Xr k o := by
 obtain ⟨_, _, hg, hd, _, _⟩ := Jc h
 rcases Vn h with rfl | rfl | rfl | rfl | rfl | rfl
 · simp only [ZW, if_true, dr2, decide_eq_true_eq] at hd
   exact ⟨_, List.mem_cons_self .., rfl, by simp, 0, by omega, by simp [Xr, Z8q, hg, hd.2]⟩
 · simp [ZW] at hd
   exact ⟨_, List.mem_cons_self .., rfl, by simp, 0, by omega, by simp [Xr, Z8q, hg, hd.2]⟩
 · simp [ZW] at hd
   exact ⟨(true, ⟨q.g, q.o, q.p, Zd⟩, [5, 11]), by simp [asks], rfl, by simp, 1, by omega, by simp [Xr, Z3Z, hg, hd.2.1, hd.2.2]⟩
 · simp [ZW] at hd
   exact ⟨_, List.mem_cons_self .., rfl, by simp, 0, by omega, by simp [Xr, Z8q, hg, hd.2]⟩
 · simp [ZW] at hd
   exact ⟨(true, ⟨q.g, Zd, iriT typB, q.s⟩, [9]), by simp [asks], rfl, by simp, 2, by omega, by simp [Xr, Z8r, hg, hd.2.1, hd.2.2]⟩
 · simp [ZW] at hd
   exact ⟨(true, ⟨q.g, q.o, q.p, Zd⟩, [5, 11]), by simp [asks], rfl, by simp, 1, by omega, by simp [Xr, Z3Z, hg, hd.2.1, hd.2.2]⟩
theorem Zc3 {n : Int} {q o : Qd} (h : (Zh n o q).2 = true) : ∃ a ∈ asks q, a.1 = false ∧ n ∈ a.2.2 ∧ ∃ k, k < 3 ∧ a.2.1 = Xr k o := by
 obtain ⟨_, _, hg, hd, _, _⟩ := Jc h
 rcases Vn h with rfl | rfl | rfl | rfl | rfl | rfl
 · simp [ZW] at hd
   exact ⟨(false, ⟨q.g, q.p, iriT domB, Zd⟩, [2]), by simp [asks], rfl, by simp, 1, by omega, by simp [Xr, Z3Z, hg, hd.1, hd.2]⟩
 · simp [ZW] at hd
   exact ⟨(false, ⟨q.g, q.p, iriT ranB, Zd⟩, [3]), by simp [asks], rfl, by simp, 1, by omega, by simp [Xr, Z3Z, hg, hd.1, hd.2]⟩
 · simp [ZW] at hd
   exact ⟨(false, ⟨q.g, Zd, q.p, q.s⟩, [5, 11]), by simp [asks], rfl, by simp, 2, by omega, by simp [Xr, Z8r, hg, hd.2.1, hd.2.2]⟩
 · simp [ZW] at hd
   exact ⟨(false, ⟨q.g, q.p, iriT subP, Zd⟩, [7]), by simp [asks], rfl, by simp, 1, by omega, by simp [Xr, Z3Z, hg, hd.1, hd.2]⟩
 · simp [ZW] at hd
   exact ⟨(false, ⟨q.g, q.o, iriT subC, Zd⟩, [9]), by simp [asks], rfl, by simp, 1, by omega, by simp [Xr, Z3Z, hg, hd.1, hd.2.2]⟩
 · simp [ZW] at hd
   exact ⟨(false, ⟨q.g, Zd, q.p, q.s⟩, [5, 11]), by simp [asks], rfl, by simp, 2, by omega, by simp [Xr, Z8r, hg, hd.2.1, hd.2.2]⟩
structure AtOK (w : Wd) : Prop where
 sub : ∀ k o, o ∈ atL k w.at' → o ∈ w.all
 all : ∀ o ∈ w.all, ∀ k, k < 3 → o ∈ atL (Xr k o) w.at'
 nodup : w.all.Nodup
theorem Z32 (q : Qd) (m : List (Qd × List Qd)) (k o : Qd) : ∀ i, o ∈ atL k (atN q m i) ↔ o ∈ atL k m ∨ (o = q ∧ ∃ j, j < i ∧ k = Xr j q)
 | 0 => by simp [atN]
 | i + 1 => by
   unfold atN
   rw [Z8t]
   have ih := fun k => Z32 q m k o i
   by_cases e : k = Xr i q
   · subst e
     rw [if_pos rfl, List.mem_append, ih, List.mem_singleton]
     constructor
     · rintro ((h | ⟨h1, j, h2, h3⟩) | rfl)
       · exact .inl h
       · exact .inr ⟨h1, j, by omega, h3⟩
       · exact .inr ⟨rfl, i, by omega, rfl⟩
     · rintro (h | ⟨h1, j, h2, h3⟩)
       · exact .inl (.inl h)
       · exact .inr h1
   · rw [if_neg e, ih]
     constructor
     · rintro (h | ⟨h1, j, h2, h3⟩)
       · exact .inl h
       · exact .inr ⟨h1, j, by omega, h3⟩
     · rintro (h | ⟨h1, j, h2, h3⟩)
       · exact .inl h
       · refine .inr ⟨h1, j, ?_, h3⟩
         rcases Nat.lt_or_eq_of_le (Nat.le_of_lt_succ h2) with h | rfl
         · exact h
         · exact (e h3).elim
theorem Z7d : AtOK Vh := ⟨(fun k o h => by simp [Vh, atL, getA] at h), (fun o h => by cases h), List.nodup_nil⟩
theorem Z67 {w : Wd} (hw : WdOK w) (h : AtOK w) (s : St) : AtOK (putM w s) := by
 cases hg : getA s.q w.place with
 | some v => rw [Z15 (by rw [hg]; rfl)]; exact h
 | none =>
   have hni : s.q ∉ w.all := fun hm => by have := (hw.mem _).1 hm; rw [hg] at this; cases this
   rw [Z40 hg]
   refine ⟨fun k o ho => ?_, fun o ho k hk => ?_, ?_⟩
   · rcases (Z32 s.q w.at' k o 3).1 ho with h1 | ⟨rfl, _⟩
     · exact List.mem_append_left _ (h.sub k o h1)
     · exact List.mem_append_right _ (List.mem_singleton.2 rfl)
   · rw [Z32]
     rcases List.mem_append.1 ho with h1 | h1
     · exact .inl (h.all o h1 k hk)
     · exact .inr ⟨List.mem_singleton.1 h1, k, hk, by rw [List.mem_singleton.1 h1]⟩
   · rw [List.nodup_append]
     exact ⟨h.nodup, by simp, fun a ha b hb e => by rw [List.mem_singleton.1 hb] at e; exact hni (e ▸ ha)⟩
theorem VM (w : Wd) (s : St) : w.all <+: (putM w s).all := by
 unfold putM; split
 · exact List.prefix_rfl
 · exact List.prefix_append _ _
theorem Z68 {α : Type} (f : α → St) : ∀ (l : List α) {w : Wd}, WdOK w → AtOK w → AtOK (l.foldl (fun w x => putM w (f x)) w)
 | [], w, _, h => h
 | x :: l, w, hw, h => Z68 f l (Z1Z hw (f x)) (Z67 hw h (f x))
theorem Za1 (l : List Qd) : AtOK (ZG l) := Z68 UJ l UK Z7d
def Z8 (most : Int) (w : Wd) (s : St) : Wd × Bool := (putM w s, decide (((putM w s).all.length : Int) ≤ most))
def SOK (known : List Qd) (s : St) : Prop := s.a ∈ known ∧ s.b ∈ known ∧ (Zh s.r s.a s.b).2 = true ∧ (Zh s.r s.a s.b).1 = s.q
theorem SOK.mono {k k' : List Qd} {s : St} (h : SOK k s) (hs : ∀ q ∈ k, q ∈ k') : SOK k' s := ⟨hs _ h.1, hs _ h.2.1, h.2.2⟩
structure WhyI (l : List Qd) (w : Wd) : Prop where
 here : ∀ (i : Nat) q, w.all[i]? = some q → getA q w.place = some (i : Int)
 why : ∀ (i : Nat) s, w.why[i]? = some s → w.all[i]? = some s.q ∧ (s.q ∈ l ∨ SOK (w.all.take i) s)
theorem Z8J {l : List Qd} {w : Wd} (h : WdOK w) (hw : WhyI l w) {s : St} (hs : s.q ∈ l ∨ SOK w.all s) : WhyI l (putM w s) := by
 cases hg : getA s.q w.place with
 | some v => rw [Z15 (by rw [hg]; rfl)]; exact hw
 | none =>
   have hn : s.q ∉ w.all := fun hm => by have := (h.mem _).1 hm; rw [hg] at this; cases this
   rw [Z40 hg]
   refine ⟨fun i q hi => ?_, fun i t hi => ?_⟩
   · dsimp only at hi ⊢
     rw [WY]
     rcases Nat.lt_trichotomy i w.all.length with h1 | h1 | h1
     · rw [List.getElem?_append_left h1] at hi
       rw [if_neg (fun (e : q = s.q) => hn (e ▸ List.mem_of_getElem? hi))]
       exact hw.here i q hi
     · subst h1
       rw [List.getElem?_append_right (Nat.le_refl _), Nat.sub_self] at hi
       rw [if_pos (by simpa using hi.symm)]
     · rw [List.getElem?_eq_none (by simp; omega)] at hi; cases hi
   · dsimp only at hi ⊢
     have hl := h.len
     rcases Nat.lt_trichotomy i w.all.length with h1 | h1 | h1
     · rw [List.getElem?_append_left (by omega)] at hi
       rw [List.getElem?_append_left h1, List.take_append_of_le_length (by omega)]
       exact hw.why i t hi
     · subst h1
       rw [List.getElem?_append_right (by omega), hl, Nat.sub_self] at hi
       obtain rfl : s = t := by simpa using hi
       rw [List.getElem?_append_right (Nat.le_refl _), Nat.sub_self, List.take_append_of_le_length (Nat.le_refl _), List.take_length]
       exact ⟨rfl, hs⟩
     · rw [List.getElem?_eq_none (by simp; omega)] at hi; cases hi
theorem Z69 {l : List Qd} : ∀ (m : List Qd) {w : Wd}, WdOK w → WhyI l w → (∀ q ∈ m, q ∈ l) → WhyI l (m.foldl (fun w x => putM w (UJ x)) w)
 | [], _, _, hw, _ => hw
 | q :: m, w, h, hw, hm => Z69 m (Z1Z h _) (Z8J h hw (.inl (hm q (List.mem_cons_self ..)))) fun x hx => hm x (List.mem_cons_of_mem _ hx)
theorem Z8K (l : List Qd) : WhyI l (ZG l) := Z69 l UK ⟨fun i q h => by simp [Vh] at h, fun i s h => by simp [Vh] at h⟩ fun _ h => h
structure CInv (l : List Qd) (w : Wd) : Prop where
 ok : WdOK w
 spots : AtOK w
 sub : ∀ q ∈ l, q ∈ w.all
 der : ∀ q ∈ w.all, Der l q
 why : WhyI l w
 pre : (ZG l).all <+: w.all
theorem Z8L (l : List Qd) : CInv l (ZG l) := ⟨Z62 l, Za1 l, fun q h => (Z41 l q).2 h, fun q h => .base ((Z41 l q).1 h), Z8K l, List.prefix_rfl⟩
theorem Zbk {l : List Qd} {w : Wd} (h : CInv l w) {s : St} (hs : SOK w.all s) : CInv l (putM w s) :=
 ⟨Z1Z h.ok s, Z67 h.ok h.spots s, fun q hq => (Z2O h.ok s q).2 (.inl (h.sub q hq)), fun q hq => ((Z2O h.ok s q).1 hq).elim (h.der q) fun e => by rw [e, ← hs.2.2.2]; exact .step (h.der _ hs.1) (h.der _ hs.2.1) hs.2.2.1, Z8J h.ok h.why (.inr hs), h.pre.trans (VM w s)⟩
theorem Z3s (w : Wd) (s : St) (k o : Qd) (h : o ∈ atL k w.at') : o ∈ atL k (putM w s).at' := by
 cases hg : getA s.q w.place with
 | some v => rw [Z15 (by rw [hg]; rfl)]; exact h
 | none => rw [Z40 hg]; exact (Z32 s.q w.at' k o 3).2 (.inl h)
structure Grown (l : List Qd) (most : Int) (w : Wd) (r : Wd × Bool) : Prop where
 inv : CInv l r.1
 pre : w.all <+: r.1.all
 spots : ∀ k o, o ∈ atL k w.at' → o ∈ atL k r.1.at'
 less : r.2 = false → most < (r.1.all.length : Int)
 upto : (w.all.length : Int) ≤ most → (r.1.all.length : Int) ≤ most + 1
 yes : r.2 = true → (w.all.length : Int) ≤ most → (r.1.all.length : Int) ≤ most
theorem Grown.refl {l : List Qd} {most : Int} {w : Wd} (h : CInv l w) : Grown l most w (w, true) := ⟨h, List.prefix_rfl, fun _ _ h => h, (fun h => by cases h), (fun h => by show (w.all.length : Int) ≤ most + 1; omega), fun _ h => h⟩
theorem Z5i {l : List Qd} {most : Int} : ∀ {c : List St} {w : Wd}, CInv l w → (∀ s ∈ c, SOK w.all s) → (w.all.length : Int) ≤ most → Grown l most w (Zw (Z8 most) c w) ∧ ((Zw (Z8 most) c w).2 = true → ∀ s ∈ c, s.q ∈ (Zw (Z8 most) c w).1.all)
 | [], w, h, _, _ => ⟨Grown.refl h, fun _ s hs => by cases hs⟩
 | s :: c, w, h, hs, hm => by
   have hp := Zbk h (hs s (List.mem_cons_self ..))
   have hl := Z54 w s
   unfold Zw
   by_cases hb : ((putM w s).all.length : Int) ≤ most
   · have : (Z8 most w s).2 = true := decide_eq_true hb
     rw [if_pos this]
     obtain ⟨g, hg⟩ := Z5i (c := c) hp (fun t hs' => (hs t (List.mem_cons_of_mem _ hs')).mono fun q hq => (VM w s).subset hq) hb
     refine ⟨⟨g.inv, (VM w s).trans g.pre, fun k o ho => g.spots k o (Z3s w s k o ho), g.less, fun _ => g.upto hb, fun h1 _ => g.yes h1 hb⟩, fun ht x hx => ?_⟩
     rcases List.mem_cons.1 hx with rfl | hx
     · exact g.pre.subset ((Z2O h.ok _ _).2 (.inr rfl))
     · exact hg ht x hx
   · have : ¬ (Z8 most w s).2 = true := by simp [Z8, hb]
     rw [if_neg this]
     refine ⟨⟨hp, VM w s, fun k o ho => Z3s w s k o ho, fun _ => ?_, fun _ => ?_, fun h1 => by cases h1⟩, fun h1 => by cases h1⟩
     · show most < ((putM w s).all.length : Int); omega
     · show ((putM w s).all.length : Int) ≤ most + 1; omega
theorem Z6a {l : List Qd} {w : Wd} (h : CInv l w) {q : Qd} (hq : q ∈ w.all) (a : Ask) : ∀ s ∈ Vo a.1 q (atL a.2.1 w.at') a.2.2, SOK w.all s := by
 intro s hs
 obtain ⟨o, ho, n, hn, hst⟩ := mem_cands.1 hs
 have hoa := h.spots.sub _ _ ho
 unfold X5 at hst
 cases hf : a.1
 · rw [hf] at hst
   simp only [Bool.false_eq_true, if_false] at hst
   split at hst
   · rename_i hd; injection hst with hst; subst hst; exact ⟨hoa, hq, hd, rfl⟩
   · cases hst
 · rw [hf] at hst
   simp only [if_true] at hst
   split at hst
   · rename_i hd; injection hst with hst; subst hst; exact ⟨hq, hoa, hd, rfl⟩
   · cases hst
theorem Z6b {l : List Qd} {most : Int} {q : Qd} : ∀ {as' : List Ask} {w : Wd}, CInv l w → q ∈ w.all → (w.all.length : Int) ≤ most → Grown l most w (askL (Z8 most) Wd.at' q as' w) ∧
   ((askL (Z8 most) Wd.at' q as' w).2 = true → ∀ a ∈ as', ∀ o ∈ atL a.2.1 w.at', ∀ n ∈ a.2.2, ∀ s, X5 a.1 q o n = some s → s.q ∈ (askL (Z8 most) Wd.at' q as' w).1.all)
 | [], w, h, _, _ => ⟨Grown.refl h, fun _ a ha => by cases ha⟩
 | a :: as', w, h, hq, hm => by
   obtain ⟨g, hg⟩ := Z5i (c := Vo a.1 q (atL a.2.1 w.at') a.2.2) h (Z6a h hq a) hm
   unfold askL
   have e : askM (Z8 most) Wd.at' q a w = Zw (Z8 most) (Vo a.1 q (atL a.2.1 w.at') a.2.2) w := rfl
   rw [e]
   by_cases hb : (Zw (Z8 most) (Vo a.1 q (atL a.2.1 w.at') a.2.2) w).2 = true
   · rw [if_pos hb]
     obtain ⟨g2, hg2⟩ := Z6b (as' := as') g.inv (g.pre.subset hq) (g.yes hb hm)
     refine ⟨⟨g2.inv, g.pre.trans g2.pre, fun k o ho => g2.spots k o (g.spots k o ho), g2.less, fun _ => g2.upto (g.yes hb hm), fun h1 _ => g2.yes h1 (g.yes hb hm)⟩, fun ht x hx o ho n hn s hs => ?_⟩
     rcases List.mem_cons.1 hx with rfl | hx
     · exact g2.pre.subset (hg hb s (mem_cands.2 ⟨o, ho, n, hn, hs⟩))
     · exact hg2 ht x hx o (g.spots _ _ ho) n hn s hs
   · rw [if_neg hb]
     refine ⟨⟨g.inv, g.pre, g.spots, fun _ => g.less (by simpa using hb), g.upto, fun h1 => by cases h1⟩, fun h1 => by cases h1⟩
def J1 (most : Int) (q : Qd) (w : Wd) : Wd × Bool := askL (Z8 most) Wd.at' q (asks q) w
def Z25 (i : Nat) (w : Wd) : Prop := ∀ a ∈ w.all.take i, ∀ b ∈ w.all.take i, ∀ n, (Zh n a b).2 = true → (Zh n a b).1 ∈ w.all
theorem Z8M {l : List Qd} {most : Int} {w : Wd} {i : Nat} (hi : i < w.all.length) (h : CInv l w) (hm : (w.all.length : Int) ≤ most) (hd : Z25 i w) :
   Grown l most w (J1 most w.all[i] w) ∧ ((((J1 most w.all[i] w).1.all.length : Nat) : Int) ≤ most → Z25 (i + 1) (J1 most w.all[i] w).1) := by
 have hq : w.all[i] ∈ w.all := List.getElem_mem _
 obtain ⟨g, hg⟩ := Z6b (as' := asks w.all[i]) h hq hm
 refine ⟨g, fun hle => ?_⟩
 have ht : (J1 most w.all[i] w).2 = true := by
   cases hb : (J1 most w.all[i] w).2 with
   | true => rfl
   | false => have := g.less hb; unfold J1 at hle; omega
 have hg := hg ht
 have htk : (J1 most w.all[i] w).1.all.take (i + 1) = w.all.take i ++ [w.all[i]] := by
   obtain ⟨t, ht⟩ := g.pre
   unfold J1
   rw [← ht, List.take_append_of_le_length (by omega), List.take_succ_eq_append_getElem hi]
 intro a ha b hb n hdr
 rw [htk] at ha hb
 rcases List.mem_append.1 ha with ha | ha
 · rcases List.mem_append.1 hb with hb | hb
   · exact g.pre.subset (hd a ha b hb n hdr)
   · have hb := List.mem_singleton.1 hb
     subst hb
     obtain ⟨k, hk, h1, h2, j, hj, h3⟩ := Zc3 hdr
     exact hg k hk a (h3 ▸ h.spots.all a (List.mem_of_mem_take ha) j hj) n h2 ⟨n, a, w.all[i], (Zh n a w.all[i]).1⟩ (by simp [X5, h1, hdr])
 · have ha := List.mem_singleton.1 ha
   subst ha
   have hbm : b ∈ w.all := by
     rcases List.mem_append.1 hb with hb | hb
     · exact List.mem_of_mem_take hb
     · exact List.mem_singleton.1 hb ▸ hq
   obtain ⟨k, hk, h1, h2, j, hj, h3⟩ := Zc2 hdr
   exact hg k hk b (h3 ▸ h.spots.all b hbm j hj) n h2 ⟨n, w.all[i], b, (Zh n w.all[i] b).1⟩ (by simp [X5, h1, hdr])
def runW (most : Int) (w : Wd) : Nat → Wd
 | 0 => w
 | i + 1 => match (runW most w i).all[i]? with
   | some q => (J1 most q (runW most w i)).1
   | none => runW most w i
abbrev More (most : Int) (i : Nat) (w : Wd) : Prop := i < w.all.length ∧ (w.all.length : Int) ≤ most
def Z8N (most : Int) (w : Wd) (n : Nat) (v : Wd) : Prop := v = runW most w n ∧ ∀ j, j < n → More most j (runW most w j)
theorem YJ (most : Int) (w : Wd) : Z8N most w 0 w := ⟨rfl, fun j h => by omega⟩
theorem Za2 {most : Int} {w v : Wd} {i : Nat} (h : Z8N most w i v) (hi : i < v.all.length) (hm : (v.all.length : Int) ≤ most) : Z8N most w (i + 1) (J1 most v.all[i] v).1 := by
 obtain ⟨rfl, h⟩ := h
 refine ⟨by simp only [runW, List.getElem?_eq_getElem hi], fun j hj => ?_⟩
 rcases Nat.lt_or_eq_of_le (Nat.le_of_lt_succ hj) with h1 | rfl
 · exact h j h1
 · exact ⟨hi, hm⟩
theorem Za3 {w : Wd} (h : Z25 w.all.length w) : Z5g w.all := fun n a b ha hb hd => h a (by rw [List.take_length]; exact ha) b (by rw [List.take_length]; exact hb) n hd
def Z6c (most : Int) (w : Wd) : Option (List Qd) := if (w.all.length : Int) ≤ most then some (setL ZB w.all) else none
theorem Z4i {l : List Qd} {most : Int} {w : Wd} (h : CInv l w) (hd : (w.all.length : Int) ≤ most → Z25 w.all.length w) : IsCl l most (Z6c most w) := by
 unfold Z6c
 by_cases hb : (w.all.length : Int) ≤ most
 · rw [if_pos hb]
   refine ⟨Z01 triQ _, fun q => ?_, ?_⟩
   · rw [Uk]
     exact ⟨h.der q, ZaA (Za3 (hd hb)) h.sub⟩
   · have := Z5f (c := ZB) w.all; omega
 · rw [if_neg hb]
   exact ⟨w.all, h.spots.nodup, h.der, by omega⟩
def rulesL : List Int := [2, 3, 5, 7, 9, 11]
def Zbl (q : Qd) : Bool := decide (q.p = iriT domB ∨ q.p = iriT ranB ∨ q.p = iriT subP ∨ q.p = iriT subC)
theorem Z5j {n : Int} {a b : Qd} (h : (Zh n a b).2 = true) : Zbl a = true ∧ n ∈ rulesL := by
 obtain ⟨_, _, _, hd, _, _⟩ := Jc h
 refine ⟨decide_eq_true ?_, by rcases Vn h with rfl | rfl | rfl | rfl | rfl | rfl <;> decide⟩
 rcases Vn h with rfl | rfl | rfl | rfl | rfl | rfl <;> simp [ZW] at hd <;> simp [hd.1]
structure DrIn (l out : List Qd) : Prop where
 nodup : out.Nodup
 new : ∀ r ∈ out, r ∉ l
 drawn : ∀ r ∈ out, ∃ n a b, a ∈ l ∧ b ∈ l ∧ (Zh n a b).2 = true ∧ r = (Zh n a b).1
structure DrawsOf (l out : List Qd) : Prop extends DrIn l out where
 all : ∀ a ∈ l, ∀ b ∈ l, ∀ n, (Zh n a b).2 = true → (Zh n a b).1 ∈ l ++ out
def ObIn (base l : List Qd) : Prop := ∀ q ∈ l, ∃ t ∈ base, q.o = t.o
structure RInv (l m : List Qd) : Prop where
 rise : Rise ZB m
 sub : ∀ q ∈ l, q ∈ m
 der : ∀ q ∈ m, Der l q
 ob : ObIn l m
theorem VN {σ : Type} {T : σ → St → σ × Bool} {c : List St} {s : σ} (h : (Zw T c s).2 = false) (d : List St) : Zw T (c ++ d) s = Zw T c s := by
 rw [Vp, h]
 simp only [Bool.false_eq_true, if_false]
 rw [← h]
theorem VO {σ : Type} {T : σ → St → σ × Bool} {c : List St} {s : σ} (h : (Zw T c s).2 = true) (x : St) : Zw T (c ++ [x]) s = T (Zw T c s).1 x := by
 rw [Vp, h]
 simp only [if_true, Zw]
 split
 · rename_i hb; rw [← hb]
 · rename_i hb
   have : (T (Zw T c s).1 x).2 = false := by simpa using hb
   rw [← this]
theorem ZaB {most : Int} : ∀ {c : List St} {w : Wd} {N : Nat}, WdOK w → w.all.length ≤ N → most ≤ (N : Int) → WdOK (Zw (Z8 most) c w).1 ∧ (Zw (Z8 most) c w).1.all.length ≤ N + 1 ∧ ((Zw (Z8 most) c w).2 = true → (Zw (Z8 most) c w).1.all.length ≤ N)
 | [], w, N, h, h1, h2 => ⟨h, Nat.le_succ_of_le h1, fun _ => h1⟩
 | s :: c, w, N, h, h1, h2 => by
   unfold Zw
   have hl := Z54 w s
   by_cases hb : ((putM w s).all.length : Int) ≤ most
   · have : (Z8 most w s).2 = true := decide_eq_true hb
     rw [if_pos this]
     exact ZaB (c := c) (Z1Z h s) (show (putM w s).all.length ≤ N by omega) h2
   · have : ¬ (Z8 most w s).2 = true := by simp [Z8, hb]
     rw [if_neg this]
     exact ⟨Z1Z h s, show (putM w s).all.length ≤ N + 1 by omega, fun h => by cases h⟩
def preC (first : Bool) (q : Qd) (others : List Qd) (ns : List Int) (i j : Nat) : List St := Vo first q (others.take i) ns ++ (ns.take j).filterMap (X5 first q (others.getD i ZF))
theorem Z4j (first : Bool) (q : Qd) (others : List Qd) (ns : List Int) : preC first q others ns 0 0 = [] := by simp [preC, Vo]
theorem Z6d {first : Bool} {q : Qd} {others : List Qd} {ns : List Int} {i : Nat} (h : i < others.length) : preC first q others ns i ns.length = preC first q others ns (i + 1) 0 := by
 unfold preC Vo
 rw [List.take_length, List.take_zero, List.filterMap_nil, List.append_nil, List.take_succ_eq_append_getElem h, List.flatMap_append]
 simp [List.getD, h]
theorem Z6e {first : Bool} {q : Qd} {others : List Qd} {ns : List Int} : preC first q others ns others.length 0 = Vo first q others ns := by simp [preC]
theorem Xu {first : Bool} {q : Qd} {others : List Qd} {ns : List Int} {i j : Nat} (hi : i < others.length) (hj : j < ns.length) (h : X5 first q others[i] ns[j] = none) : preC first q others ns i (j + 1) = preC first q others ns i j := by
 unfold preC
 rw [List.take_succ_eq_append_getElem hj, List.filterMap_append]
 simp [List.getD, hi, h]
theorem UN {first : Bool} {q : Qd} {others : List Qd} {ns : List Int} {i j : Nat} (hi : i < others.length) (hj : j < ns.length) {c : St} (h : X5 first q others[i] ns[j] = some c) : preC first q others ns i (j + 1) = preC first q others ns i j ++ [c] := by
 unfold preC
 rw [List.take_succ_eq_append_getElem hj, List.filterMap_append]
 simp [List.getD, hi, h]
theorem UO {first : Bool} {q : Qd} {others : List Qd} {ns : List Int} {i j : Nat} (hi : i < others.length) : ∃ d, Vo first q others ns = preC first q others ns i j ++ d := by
 refine ⟨(ns.drop j).filterMap (X5 first q others[i]) ++ Vo first q (others.drop (i + 1)) ns, ?_⟩
 have h1 : others = others.take i ++ (others[i] :: others.drop (i + 1)) := by rw [← List.drop_eq_getElem_cons hi, List.take_append_drop]
 have h2 : ns.filterMap (X5 first q others[i]) = (ns.take j).filterMap (X5 first q others[i]) ++ (ns.drop j).filterMap (X5 first q others[i]) := by rw [← List.filterMap_append, List.take_append_drop]
 conv => lhs; rw [h1]
 unfold preC Vo
 rw [List.flatMap_append, List.flatMap_cons, h2]
 simp [List.getD, hi]
end Go.Our
namespace Go.Sx
open Go Go.Sort Go.Shelf Go.Proofs
theorem HeapOK.later {M : Mx} {η : Env} {w w' : World} {O : Hps} {nx : Nat} (H : HeapOK M η w O nx) (hf : FrW w w' fun _ => False) : HeapOK M η w' O nx := by
 have hk : ∀ {i h}, lkp i O = some h → ∀ k, feet η w (.loc i) h k → w'.heap[k]? = w.heap[k]? := fun hi k f => hf.block k ((H.own.1 _ _ hi).1.feet_lt f) (fun h => h)
 have hb : ∀ {i h}, lkp i O = some h → ∀ k, feet η w' (.loc i) h k → feet η w (.loc i) h k := fun hi k f => H.stands List.prefix_rfl hi (hk hi) f
 exact ⟨H.pre, H.len, ⟨fun i h hi => ⟨(H.own.1 i h hi).1.keep (hk hi), fun k f => (H.own.1 i h hi).2 k (hb hi k f)⟩, fun i j h h' k hi hj hij f f' => H.own.2 i j h h' k hi hj hij (hb hi k f) (hb hj k f')⟩, H.fr.trans hf (fun n h => h.elim), H.sok⟩
theorem FrW.grown {w w' : World} (h : FrW w w' fun _ => False) : ∃ q os, w' = grow (w.drewN q) os := by
 refine ⟨w'.drawn - w.drawn, w'.heap.extract w.heap.size, ?_⟩
 have hd := h.drawn
 have e1 : w'.heap = w.heap ++ w'.heap.extract w.heap.size := by
   apply Array.ext_getElem?
   intro k
   rcases Nat.lt_or_ge k w.heap.size with hk | hk
   · rw [Array.getElem?_append_left hk]; exact h.block k hk (fun x => x)
   · rw [Array.getElem?_append_right hk, Array.getElem?_extract]
     simp only [Nat.min_self]
     split
     · rw [show w.heap.size + (k - w.heap.size) = k by omega]
     · rename_i hn
       exact Array.getElem?_eq_none (by omega)
 obtain ⟨heap, tape, drawn, os, output⟩ := w
 obtain ⟨heap', tape', drawn', os', output'⟩ := w'
 have h1 := h.os
 have h2 := h.tape
 have h3 := h.output
 simp only at h1 h2 h3 hd e1
 subst h1 h2 h3
 simp only [grow, World.drewN]
 rw [← e1]
 congr 1
 omega
section
variable {α : Type} [Inhabited α] (enc : α → List Value) (k : Nat)
theorem XY (w : World) (blk off m : Nat) (dk : Array α) (os : Array Obj) : (sortWorldK enc k w blk off m dk os).heap = (mapBlock w blk (putCells id off (flatK enc k dk))).heap ++ os := by
 simp [sortWorldK, grow, putRowK, putRow, mapBlock, Sort.ahead]
theorem Vq (w : World) (blk off m : Nat) (dk : Array α) (os : Array Obj) : w.heap.size ≤ (sortWorldK enc k w blk off m dk os).heap.size := by
 rw [XY]; simp [mapBlock]
theorem V0 (w : World) (blk off m : Nat) (dk : Array α) (os : Array Obj) {g : Nat} (hg : g < w.heap.size) (hne : g ≠ blk) : (sortWorldK enc k w blk off m dk os).heap[g]? = w.heap[g]? := by
 rw [XY, Array.getElem?_append_left (by simpa [mapBlock] using hg)]
 simp only [mapBlock, Array.getElem?_modify]
 rw [if_neg (fun h => hne h.symm)]
theorem Z1w (w : World) (blk off m : Nat) (dk : Array α) (os : Array Obj) {c : Array Value} {T : TypeId} {fz : Nat × Nat} (h : w.heap[blk]? = some (.cells c T fz)) : (sortWorldK enc k w blk off m dk os).heap[blk]? = some (.cells (putCells id off (flatK enc k dk) c) T fz) := by
 have hlt := (Array.getElem?_eq_some_iff.1 h).1
 rw [XY, Array.getElem?_append_left (by simpa [mapBlock] using hlt)]
 simp only [mapBlock, Array.getElem?_modify, if_true, h, Option.map_eq_map, Option.map_some, onCells]
end
theorem Zbm {w : World} {g i : Nat} {c : Array Value} {T : TypeId} {fz : Nat × Nat} (h : w.heap[g]? = some (.cells c T fz)) : w.cell? ⟨g, i, none⟩ = c[i]? := by simp [World.cell?, h]
theorem Z7e {P : Program} {T : Tab} {α : Type} [Inhabited α] {enc : α → List Value} {k : Nat} {row : α → List SV} {g : FuncId} {cf : α → α → Int} {blk off size : Nat} {w : World} (hlone : T.globs.all (fun p => Z4E p.2) = true) (hblk : ∀ h, lkp blk T.globs ≠ some h)
   (hc : ∀ x y, Does P T g 0 [.agg (row x), .agg (row y)] [] [] (Val (.int .i64 (cf x y)))) (eg : ∀ args w, (callFunc g args).run P w = .ok (.enter g args) w)
   (hrow : ∀ η x, DenL η (row x) (enc x) ∧ ∀ u ∈ enc x, u.oneCell' = true) (hg : ∀ g h, lkp g T.globs = some h → HpSat [] w false (.glob g) h ∧ g < w.heap.size) : CmpLays P g #[] enc k cf blk off size w := by
 intro m os dk hdk x y
 have hg' : ∀ g h, lkp g T.globs = some h → HpSat [] (sortWorldK enc k w blk off m dk os) false (.glob g) h ∧ g < (sortWorldK enc k w blk off m dk os).heap.size := by
   intro g' h hh
   obtain ⟨h1, h2⟩ := hg g' h hh
   have hne : g' ≠ blk := fun e => hblk h (e ▸ hh)
   refine ⟨h1.keep fun n f => ?_, Nat.lt_of_lt_of_le h2 (Vq enc k w blk off m dk os)⟩
   have hlt := h1.feet_lt f
   obtain ⟨e, he, hf⟩ := f
   cases he
   rcases hf with rfl | hf
   · exact V0 enc k w blk off m dk os hlt hne
   · exact (Ur (List.all_eq_true.1 hlone _ (Va hh)) hf).elim
 have := Does.calls (hc x y) eg (vs := [.agg (enc x).toArray, .agg (enc y).toArray]) (w := sortWorldK enc k w blk off m dk os) (by
   simp only [DenL, Den]
   exact ⟨_, _, rfl, ⟨_, rfl, (hrow [] x).1, (hrow [] x).2⟩, _, _, rfl, ⟨_, rfl, (hrow [] y).1, (hrow [] y).2⟩, rfl⟩) hg'
 refine this.mono ?_
 rintro e w' ⟨v, rfl, hv, hf⟩
 simp only [Den] at hv
 subst hv
 exact ⟨rfl, hf.grown⟩
theorem Z26 {α : Type} [Inhabited α] {enc : α → List Value} {k : Nat} (hk : ∀ x, (enc x).length = k) {l : List α} {i j : Nat} {x : α} (hi : l[i]? = some x) (hj : j < k) : (flatK enc k l.toArray)[i * k + j]! = (enc x)[j]! ∧ i * k + j < l.length * k := by
 have hil := (List.getElem?_eq_some_iff.1 hi).1
 have hlt : i * k + j < l.length * k := by
   have : (i + 1) * k ≤ l.length * k := Nat.mul_le_mul_right k hil
   rw [Nat.succ_mul] at this
   omega
 refine ⟨?_, hlt⟩
 rw [get_flatK _ _ _ _ (by simpa using hlt)]
 have h1 : (i * k + j) / k = i := by rw [Nat.mul_comm, Nat.mul_add_div (by omega), Nat.div_eq_of_lt hj, Nat.add_zero]
 have h2 : (i * k + j) % k = j := by rw [Nat.mul_comm, Nat.mul_add_mod]; exact Nat.mod_eq_of_lt hj
 rw [h1, h2]
 congr 1
 have := (List.getElem?_eq_some_iff.1 hi).2
 simp [hil, this]
theorem UP {P : Program} {T : Tab} {ρ : Ren} {α : Type} [Inhabited α] (hT : TabOK P T) (L : SlLaysF0.n6 P ρ) (L' : SlLaysF0.n6 P ρ) {enc : α → List Value} {k : Nat} {row : α → List SV} {g : FuncId} {cf : α → α → Int}
   (aE : ∀ w, (isAgg (ρ.t 24)).run P w = .ok true w) (zE : ∀ w, (Go.sizeOf (ρ.t 24)).run P w = .ok k w) (hk : ∀ x, (enc x).length = k ∧ (row x).length = k) (hk0 : 0 < k) (hO : SWO (ltOf cf)) (hTo : ∀ x y, (ltOf cf) x y = false → (ltOf cf) y x = false → x = y)
   (hlone : T.globs.all (fun p => Z4E p.2) = true) (hc : ∀ x y, Does P T g 0 [.agg (row x), .agg (row y)] [] [] (Val (.int .i64 (cf x y)))) (eg : ∀ args w, (callFunc g args).run P w = .ok (.enter g args) w) (ef : ∀ args w, (callFunc (ρ.f 6) args).run P w = .ok (.enter (ρ.f 6) args) w)
   (hrow : ∀ η x, DenL η (row x) (enc x) ∧ ∀ u ∈ enc x, u.oneCell' = true) (hrow' : ∀ η x vs, DenL η (row x) vs → vs = enc x) (l : List α) (hl : l.length < 4611686018427387904) :
   Does P T (ρ.f 6) 1 [.sl (.loc 0) 0 k l.length none, .fn (.func g) [] []] [(0, .rows k (l.map row))] [] (fun r O nx => r = .tup [] ∧ O = [(0, .rows k ((l.mergeSort fun x y => !(ltOf cf) y x).map row))] ∧ nx = 1) := by
 refine ⟨fun M vs hP hT' hF hS H hd => .inl ⟨ρ.f 6, by rw [hP]; exact ef _ _, ?_⟩⟩
 obtain ⟨P', ⟨T', N', S', ro'⟩, w0, F, η0⟩ := M
 simp only at hP hT' hF hS H hd ⊢
 subst hP hT'
 simp only [DenL] at hd
 obtain ⟨v, us, rfl, hv, f, us', rfl, hf, rfl⟩ := hd
 simp only [Den] at hf
 obtain ⟨ff, fc, rfl, hff, hfc⟩ := hf
 simp only [DenL] at hff hfc
 subst hff hfc
 have hsat := (H.own.1 0 _ rfl).1
 have hgl : ∀ g h, lkp g T'.globs = some h → HpSat [] w0 false (.glob g) h ∧ g < w0.heap.size := by
   intro g' h hh
   have hp : J2 h = true := List.all_eq_true.1 T'.gplain _ (Va hh)
   have h1 := H.shared (b := .glob g') hh
   refine ⟨h1.plain hp, h1.feet_lt ⟨⟨g', 0, 0⟩, rfl, .inl rfl⟩⟩
 simp only [HpSat, Env.get] at hsat
 simp only [Den, Env.get] at hv
 have fin : ∀ w' (O' : Hps), FrW w0 w' F → HpSat η0 w' true (.loc 0) (.rows k ((l.mergeSort fun x y => !(ltOf cf) y x).map row)) →
     ∃ r O' nx' η', (r = SV.tup [] ∧ O' = [(0, Hp.rows k ((l.mergeSort fun x y => !(ltOf cf) y x).map row))] ∧ nx' = 1) ∧ η0 <+: η' ∧ HeapOK ⟨P', ⟨T', N', S', ro'⟩, w0, F, η0⟩ η' w' O' nx' ∧ Den η' r (.tuple #[]) := by
   intro w' O' hfr hs
   refine ⟨_, _, _, η0, ⟨rfl, rfl, rfl⟩, List.prefix_rfl, ⟨H.pre, H.len, ⟨fun i h hi => ?_, fun i j h h' k hi hj hij f f' => ?_⟩, hfr, H.sok⟩, ?_⟩
   · rw [Z7] at hi
     split at hi
     · rename_i e; subst e
       injection hi with hi; subst hi
       refine ⟨hs, fun n f => (H.own.1 0 _ rfl).2 n ?_⟩
       obtain ⟨e, h1, h2⟩ := f
       exact ⟨e, h1, h2⟩
     · simp [lkp] at hi
   · rw [Z7] at hi hj
     split at hi
     · rename_i e; subst e
       split at hj
       · rename_i e2; exact (hij e2.symm).elim
       · simp [lkp] at hj
     · simp [lkp] at hi
   · simp only [Den, DenL]; exact ⟨[], rfl, rfl⟩
 rcases hsat with ⟨hn, hnil⟩ | ⟨e, arr, Tt, fz, he, hheap, hown, hcells⟩
 ·
   have hl0 : l = [] := by simpa using hnil
   subst hl0
   have hv2 : v = .slice none 0 0 := by
     rcases hv with ⟨_, h, _⟩ | ⟨e, o, h, _⟩
     · exact h
     · rw [hn] at h; cases h
   subst hv2
   refine (AnyF.slices_SortFunc_none L' none 0 _ w0).mono ?_
   rintro e w' ⟨rfl, rfl⟩
   refine ⟨_, rfl, fin _ [] (FrW.refl _ _) ?_⟩
   simp only [HpSat, Env.get]
   exact .inl ⟨hn, by simp⟩
 · obtain ⟨hun, hsz, hle, hb0⟩ := hown trivial
   obtain ⟨hel, hvv⟩ : l.length ≤ e.cap ∧ v = .slice (some ⟨e.g, 0, none⟩) l.length e.cap := by
     rcases hv with ⟨h, _⟩ | ⟨e', o, h, h2, h3, h4, h5⟩
     · rw [he] at h; cases h
     · rw [he] at h; cases h
       simp only [Option.getD_none, Nat.zero_add, Nat.sub_zero] at h2 h3
       have := h5 (.inr trivial)
       rw [hb0] at this
       simp only [Nat.zero_mul, Nat.add_zero] at this
       subst this
       exact ⟨h3, h2⟩
   subst hvv
   have hblk : e.g < w0.heap.size := (Array.getElem?_eq_some_iff.1 hheap).1
   have hcell : ∀ (i : Nat) (x : α) (j : Nat), l[i]? = some x → j < k → arr[i * k + j]? = some (enc x)[j]! := by
     intro i x j hi hj
     obtain ⟨h1, h2⟩ := hcells i (row x) (by rw [List.getElem?_map, hi]; rfl)
     have hlen := (hk x).2
     have hen := (hk x).1
     have hall : ∀ (j : Nat) (c : SV), (row x)[j]? = some c → ∃ u, ((List.range k).map fun j => arr.getD (i * k + j) undef)[j]? = some u ∧ Den η0 c u := by
       intro j c hj
       have hjk : j < k := by have := (List.getElem?_eq_some_iff.1 hj).1; omega
       obtain ⟨u, h3, h4, h5⟩ := h2 j c hj
       rw [hb0, Nat.zero_add] at h3
       refine ⟨u, ?_, h5⟩
       rw [List.getElem?_map, List.getElem?_range hjk]
       simp only [Option.map_some, Array.getD_eq_getD_getElem?, h3, Option.getD_some]
     have hvs := hrow' η0 x _ (U6 (by simp [hlen]) hall)
     have hjr : j < (row x).length := by omega
     obtain ⟨u, h3, h4, h5⟩ := h2 j ((row x)[j]) (List.getElem?_eq_getElem hjr)
     rw [hb0, Nat.zero_add] at h3
     have h6 : (enc x)[j]! = u := by
       rw [← hvs]
       have : ((List.range k).map fun j => arr.getD (i * k + j) undef)[j]? = some u := by
         rw [List.getElem?_map, List.getElem?_range hj]
         simp only [Option.map_some, Array.getD_eq_getD_getElem?, h3, Option.getD_some]
       rw [List.getElem!_eq_getElem?_getD, this]; rfl
     rw [h3, h6]
   have split : ∀ t, t < l.length * k → ∃ x, l[t / k]? = some x ∧ t % k < k ∧ t / k * k + t % k = t := by
     intro t ht
     have h1 : t / k < l.length := Nat.div_lt_of_lt_mul (by rw [Nat.mul_comm]; exact ht)
     exact ⟨l[t / k], List.getElem?_eq_getElem h1, Nat.mod_lt _ hk0, by rw [Nat.mul_comm]; exact Nat.div_add_mod t k⟩
   have hsize : l.length * k ≤ arr.size := by rw [hsz]; exact Nat.mul_le_mul_right _ hel
   have hH : HoldsK enc k w0 e.g 0 l.toArray := by
     intro t ht
     rw [size_flatK, List.size_toArray] at ht
     obtain ⟨x, h1, h2, h3⟩ := split t ht
     have h4 := hcell _ x _ h1 h2
     have h5 := (Z26 (enc := enc) (fun x => (hk x).1) h1 h2).1
     rw [h3] at h4 h5
     refine ⟨by rw [Nat.zero_add, Zbm hheap, h4, h5]; rfl, ?_⟩
     have := hun t (by omega)
     simp only [World.frozen?, hheap, Nat.zero_add]
     simpa using this
   have hFg : F e.g := by
     rcases (H.own.1 0 _ rfl).2 e.g ⟨e, he, .inl rfl⟩ with h | h
     · exact h
     · have h : w0.heap.size ≤ e.g := h
       omega
   have hcl : CmpLays P' g #[] enc k cf e.g 0 l.toArray.size w0 := Z7e hlone (fun h hh => (H.sok (.glob e.g) h hh).2 e.g ⟨⟨e.g, 0, 0⟩, rfl, .inl rfl⟩ |>.2 hFg) hc eg (fun η x => hrow η x) hgl
   have hmain := AnyQ.slices_SortFunc_total L k aE zE enc (fun x => (hk x).1) (fun x u hu => (hrow [] x).2 u hu) cf hO g #[] e.g 0 e.cap l.toArray w0 eg hcl hH hblk (by simpa using hl) hTo
   rw [List.size_toArray] at hmain
   refine hmain.mono ?_
   rintro e1 w' ⟨rfl, n, os, rfl⟩
   refine ⟨_, rfl, fin _ [] ?_ ?_⟩
   · refine ⟨rfl, rfl, rfl, ?_, Vq .., fun b hb hnF => V0 enc k w0 e.g 0 n _ os hb (fun e => hnF (e ▸ hFg))⟩
     simp [sortWorldK, grow, putRowK, putRow, mapBlock, Sort.ahead]
   · simp only [HpSat, Env.get]
     have hsl : (l.mergeSort fun x y => !(ltOf cf) y x).length = l.length := List.length_mergeSort l
     refine .inr ⟨e, _, Tt, fz, he, Z1w enc k w0 e.g 0 n _ os hheap, fun _ => ⟨?_, ?_, ?_, hb0⟩, fun i rw1 hi => ?_⟩
     · simp only [putCells, Array.size_mapIdx]; exact hun
     · simp only [putCells, Array.size_mapIdx]; exact hsz
     · rw [List.length_map, hsl]; exact hel
     · rw [List.getElem?_map] at hi
       obtain ⟨x, hx, rfl⟩ := Option.map_eq_some_iff.1 hi
       refine ⟨(hk x).2, fun j sv hj => ?_⟩
       have hjk : j < k := by have := (List.getElem?_eq_some_iff.1 hj).1; have := (hk x).2; omega
       obtain ⟨h5, h6⟩ := Z26 (enc := enc) (fun x => (hk x).1) hx hjk
       rw [hsl] at h6
       obtain ⟨u, h7, h8⟩ := YK (hrow η0 x).1 hj
       refine ⟨u, ?_, (hrow η0 x).2 u (List.mem_of_getElem? h7), h8⟩
       have hlt : i * k + j < arr.size := by omega
       rw [hb0, Nat.zero_add]
       simp only [putCells, Array.getElem?_mapIdx, Array.getElem?_eq_getElem hlt, Option.map_some, Nat.zero_le, true_and, Nat.zero_add, size_flatK, List.size_toArray, hsl, h6, if_true, Nat.sub_zero]
       rw [h5, List.getElem!_eq_getElem?_getD, h7]
       rfl
end Go.Sx
namespace Go.Our
open Go.Sx
def badM (l : List Qd) (i : Nat) : Option (Nat × Int) := if h : i < l.length then (if Zk l[i] ≠ 0 then some (i, Zk l[i]) else badM l (i + 1)) else none
termination_by l.length - i
theorem Z5m {l : List Qd} {i : Nat} (h : l.length ≤ i) : badM l i = none := by unfold badM; rw [dif_neg (by omega)]
theorem Z6g {l : List Qd} {i : Nat} (h : i < l.length) : badM l i = if Zk l[i] ≠ 0 then some (i, Zk l[i]) else badM l (i + 1) := by
 conv => lhs; unfold badM
 rw [dif_pos h]
def WN (l : List Qd) (i : Nat) : Option Nat := if h : i < l.length then (if 0 ≤ ZB (l[i - 1]'(by omega)) l[i] then some i else WN l (i + 1)) else none
termination_by l.length - i
theorem Z6h {l : List Qd} {i : Nat} (h : l.length ≤ i) : WN l i = none := by unfold WN; rw [dif_neg (by omega)]
theorem Z5n {l : List Qd} {i : Nat} (h : i < l.length) : WN l i = if 0 ≤ ZB (l[i - 1]'(by omega)) l[i] then some i else WN l (i + 1) := by
 conv => lhs; unfold WN
 rw [dif_pos h]
def Yt (l : List Qd) : Nat × Int :=
 if 1048576 < l.length then (0, 2) else match badM l 0 with
 | some x => x
 | none => match WN l 1 with
   | some i => (i, 6)
   | none => (0, 0)
end Go.Our
namespace Go.Our
section
variable {α : Type} {c : α → α → Int}
end
theorem WC {l : List Qd} (h : ∀ k (hk : k < l.length), 1 ≤ k → ZB (l[k - 1]'(by omega)) l[k] < 0) : Rise ZB l := by
 refine List.pairwise_iff_getElem.2 fun i j hi hj hij => ?_
 induction j with
 | zero => omega
 | succ j ih =>
   have h1 := h (j + 1) hj (by omega)
   simp only [Nat.add_sub_cancel] at h1
   rcases Nat.lt_or_eq_of_le (Nat.le_of_lt_succ hij) with h2 | rfl
   · exact triQ.lt_trans (ih (by omega) h2) (by omega)
   · exact h1
end Go.Our
namespace Go.Our
open Go.Sx
theorem Z37 : ∀ {l : List Qd} {i : Nat}, (∀ x, badM l i = some x → x.2 ≠ 0)
 | l, i => by
   intro x hx
   by_cases h : i < l.length
   · rw [Z6g h] at hx
     split at hx
     · rename_i hc; injection hx with hx; subst hx; exact hc
     · exact Z37 x hx
   · rw [Z5m (by omega)] at hx; cases hx
 termination_by l i => l.length - i
theorem Z4s : ∀ {l : List Qd} {i : Nat}, WN l i = none → ∀ k (hk : k < l.length), 1 ≤ k → i ≤ k → ZB (l[k - 1]'(by omega)) l[k] < 0
 | l, i => by
   intro h k hk h1 hik
   have hil : i < l.length := by omega
   rw [Z5n hil] at h
   split at h
   · cases h
   · rename_i hc
     rcases Nat.lt_or_eq_of_le hik with h2 | rfl
     · exact Z4s h k hk h1 (by omega)
     · omega
 termination_by l i => l.length - i
theorem Z2a {l : List Qd} (h : (Yt l).2 = 0) : Rise ZB l ∧ l.length ≤ 1048576 := by
 unfold Yt at h
 split at h
 · cases h
 · rename_i hl
   cases hb : badM l 0 with
   | some x => rw [hb] at h; exact (Z37 x hb h).elim
   | none =>
     rw [hb] at h
     cases hf : WN l 1 with
     | some i => rw [hf] at h; cases h
     | none => exact ⟨WC fun k hk h1 => Z4s hf k hk h1 h1, by omega⟩
end Go.Our
set_option maxRecDepth 20000
namespace Go.Our
open Go.Sx
theorem Z8T : ∀ {l : List Qd} {i : Nat}, badM l i = none → ∀ k (hk : k < l.length), i ≤ k → Zk l[k] = 0
 | l, i => by
   intro h k hk hik
   rw [Z6g (by omega)] at h
   split at h
   · cases h
   · rename_i hc
     rcases Nat.lt_or_eq_of_le hik with h2 | rfl
     · exact Z8T h k hk (by omega)
     · simpa using hc
 termination_by l i => l.length - i
theorem ZaF : ∀ {l : List Qd} {i : Nat}, (∀ q ∈ l, Zk q = 0) → badM l i = none
 | l, i => by
   intro h
   by_cases hi : i < l.length
   · rw [Z6g hi, if_neg (by simpa using h _ (List.getElem_mem hi))]; exact ZaF h
   · exact Z5m (by omega)
 termination_by l i => l.length - i
theorem Z8U : ∀ {l : List Qd} {i : Nat}, 1 ≤ i → Rise ZB l → WN l i = none
 | l, i => by
   intro h1 h
   by_cases hi : i < l.length
   · have := Z02 h (i := i - 1) (j := i) (by omega) hi
     rw [Z5n hi, if_neg (by omega)]; exact Z8U (by omega) h
   · exact Z6h (by omega)
 termination_by l i => l.length - i
theorem WD {l : List Qd} (h : (Yt l).2 = 0) : ∀ q ∈ l, Zk q = 0 := by
 unfold Yt at h
 split at h
 · cases h
 · cases hb : badM l 0 with
   | some x => rw [hb] at h; exact (Z37 x hb h).elim
   | none =>
     intro q hq
     obtain ⟨k, hk, rfl⟩ := List.mem_iff_getElem.1 hq
     exact Z8T hb k hk (Nat.zero_le _)
theorem Z6i {l : List Qd} (h1 : l.length ≤ 1048576) (h2 : ∀ q ∈ l, Zk q = 0) (h3 : Rise ZB l) : (Yt l).2 = 0 := by
 unfold Yt
 rw [if_neg (by omega), ZaF h2, Z8U (Nat.le_refl _) h3]
def exA : Tm := iriT [97, 58]
def exB : Tm := iriT [98, 58]
def exC : Tm := iriT [99, 58]
def exX : Tm := ⟨2, [120], [], []⟩
def exL : List Qd := [⟨exA, iriT subC, exB, Zd⟩, ⟨exB, iriT subC, exC, Zd⟩, ⟨exX, iriT typB, exA, Zd⟩]
def exM : List Qd := [⟨exA, iriT subC, exB, Zd⟩, ⟨exA, iriT subC, exC, Zd⟩, ⟨exB, iriT subC, exC, Zd⟩, ⟨exX, iriT typB, exA, Zd⟩, ⟨exX, iriT typB, exB, Zd⟩, ⟨exX, iriT typB, exC, Zd⟩]
def exQ : Qd := ⟨exX, iriT typB, exC, Zd⟩
theorem Z8V : ∀ q ∈ exM, Zk q = 0 := by decide +kernel
theorem Z4t : ∀ (l : List Qd), (l.zip l.tail).all (fun x => decide (ZB x.1 x.2 < 0)) = true → Rise ZB l := by
 intro l h
 refine WC fun k hk h1 => ?_
 rw [List.all_eq_true] at h
 have := h (l[k - 1]'(by omega), l[k]) (by
   rw [List.mem_iff_getElem]
   refine ⟨k - 1, by simp; omega, ?_⟩
   simp only [List.getElem_zip, List.getElem_tail]
   congr 1
   congr 1; omega)
 exact of_decide_eq_true this
theorem Z5q : Rise ZB exM := Z4t _ (by decide +kernel)
theorem Z6j : Rise ZB exL := Z4t _ (by decide +kernel)
theorem Za5 : (Zh 11 exM[0] exM[2] = (exM[1], true)) ∧ (Zh 9 exM[0] exM[3] = (exM[4], true)) ∧ (Zh 9 exM[2] exM[4] = (exM[5], true)) := by decide +kernel
theorem Z8W : Z5g exM := by
 have h : (exM.all fun a => exM.all fun b => rulesL.all fun n => !(ZW n a b).2 || decide ((ZW n a b).1 ∈ exM)) = true := by decide +kernel
 intro n a b ha hb hd
 have hn := (Z5j hd).2
 rw [List.all_eq_true] at h
 have h := h a ha
 rw [List.all_eq_true] at h
 have h := h b hb
 rw [List.all_eq_true] at h
 have h := h n hn
 obtain ⟨_, _, _, h2, _, h3⟩ := Jc hd
 rw [h2] at h
 rw [h3]
 simpa using h
theorem Z8X : IsCl exL 100 (some exM) := by
 obtain ⟨d1, d2, d3⟩ := Za5
 have hs : ∀ q ∈ exL, q ∈ exM := by decide +kernel
 have b0 : Der exL exM[0] := .base (by decide +kernel)
 have b2 : Der exL exM[2] := .base (by decide +kernel)
 have b3 : Der exL exM[3] := .base (by decide +kernel)
 have b1 : Der exL exM[1] := by have := Der.step b0 b2 (n := 11) (by rw [d1]); rwa [d1] at this
 have b4 : Der exL exM[4] := by have := Der.step b0 b3 (n := 9) (by rw [d2]); rwa [d2] at this
 have b5 : Der exL exM[5] := by have := Der.step b2 b4 (n := 9) (by rw [d3]); rwa [d3] at this
 refine ⟨Z5q, fun q => ⟨fun hq => ?_, ZaA Z8W hs⟩, by decide⟩
 have hq : q = exM[0] ∨ q = exM[1] ∨ q = exM[2] ∨ q = exM[3] ∨ q = exM[4] ∨ q = exM[5] := by simpa [exM] using hq
 rcases hq with rfl | rfl | rfl | rfl | rfl | rfl <;> assumption
theorem Za6 : (Yt exL).2 = 0 := Z6i (by decide) (fun q hq => Z8V q ((by decide +kernel : ∀ q ∈ exL, q ∈ exM) q hq)) Z6j
theorem Zcm : exQ ∈ exM := by decide +kernel
theorem Zc6 : setL ZB exL = exL := Z9Y triQ Z6j
end Go.Our
namespace Go.Our
section
variable {α : Type} [DecidableEq α] {c : α → α → Int}
end
def Yz (q : Qd) : List Tm := [q.s, q.p, q.o] ++ if q.g.k = 0 then [] else [q.g]
def Z03 (l : List Qd) : List Tm := l.flatMap Yz
def XZ (l : List Qd) : List Tm := l.map fun q => q.g
abbrev Pr := List UInt8 × List UInt8
end Go.Our
namespace Go.Our
open Go.Sx
theorem VQ {n : Int} {a b : Qd} (h : (Zh n a b).2 = true) : (Zh n a b).1.g = a.g ∧ ((Zh n a b).1.s = b.s ∨ (Zh n a b).1.s = b.o ∨ (Zh n a b).1.s = a.s) ∧ ((Zh n a b).1.p = iriT typB ∨ (Zh n a b).1.p = a.p ∨ (Zh n a b).1.p = a.o) ∧ ((Zh n a b).1.o = a.o ∨ (Zh n a b).1.o = b.o) := by
 rw [(Jc h).2.2.2.2.2]
 rcases Vn h with rfl | rfl | rfl | rfl | rfl | rfl <;> simp [ZW]
def ownL (g : Tm) (l : List Qd) : List Qd := l.filter fun q => decide (q.g = g)
theorem mem_own {g : Tm} {l : List Qd} {q : Qd} : q ∈ ownL g l ↔ q ∈ l ∧ q.g = g := by unfold ownL; rw [List.mem_filter, decide_eq_true_iff]
theorem Z38 (g : Tm) (l : List Qd) : (ownL g l).length ≤ l.length := List.length_filter_le _ _
theorem Z6n {g : Tm} {l : List Qd} (h : Rise ZB l) : Rise ZB (ownL g l) := List.Pairwise.sublist List.filter_sublist h
theorem Zbp {l : List Qd} {q : Qd} (h : Der l q) : Der (ownL q.g l) q := by
 induction h with
 | base h => exact .base (mem_own.2 ⟨h, rfl⟩)
 | @step n a b ha hb h iha ihb =>
   rw [← (Jc h).2.2.1] at ihb
   rw [(VQ h).1]
   exact .step iha ihb h
theorem Zbq {l : List Qd} {g : Tm} {q : Qd} (h : Der (ownL g l) q) : Der l q ∧ q.g = g := by
 induction h with
 | base h => exact ⟨.base (mem_own.1 h).1, (mem_own.1 h).2⟩
 | step ha hb h iha ihb => exact ⟨.step iha.1 ihb.1 h, (VQ h).1.trans iha.2⟩
theorem Zc8 {l m : List Qd} {most : Int} (h : IsCl l most (some m)) (g : Tm) : IsCl (ownL g l) most (some (ownL g m)) := by
 refine ⟨Z6n h.1, fun q => ?_, ?_⟩
 · rw [mem_own, h.2.1]
   exact ⟨fun hq => by have := Zbp hq.1; rwa [hq.2] at this, fun hq => Zbq hq⟩
 · have := Z38 g m; have := h.2.2; omega
theorem Z8Z {l : List Qd} (g : Tm) (h : (Yt l).2 = 0) : (Yt (ownL g l)).2 = 0 := by
 have h2 := Z2a h
 have h3 := Z38 g l
 exact Z6i (by omega) (fun q hq => WD h q (mem_own.1 hq).1) (Z6n h2.1)
theorem Zco {l : List Qd} {q : Qd} (h : Der l q) : ∃ x ∈ l, x.g = q.g := by
 induction h with
 | base h => exact ⟨_, h, rfl⟩
 | step ha hb h iha ihb => rw [(VQ h).1]; exact iha
theorem Z5r {l m : List Qd} {most : Int} (h : IsCl l most (some m)) : setL ZM (XZ m) = setL ZM (XZ l) := by
 refine Z00 triT (Z01 triT _) (Z01 triT _) fun t => ?_
 rw [Uk, Uk]
 simp only [XZ, List.mem_map]
 constructor
 · rintro ⟨q, hq, rfl⟩
   obtain ⟨x, hx, e⟩ := Zco ((h.2.1 q).1 hq)
   exact ⟨x, hx, e⟩
 · rintro ⟨q, hq, rfl⟩
   exact ⟨q, (h.2.1 q).2 (.base hq), rfl⟩
theorem mem_terms {q : Qd} {t : Tm} : t ∈ Yz q ↔ t = q.s ∨ t = q.p ∨ t = q.o ∨ (q.g.k ≠ 0 ∧ t = q.g) := by
 unfold Yz
 by_cases h : q.g.k = 0 <;> simp [h]
theorem Z90 {l : List Qd} {q : Qd} (h : Der l q) : ∀ t ∈ Yz q, t ∈ Z03 l ∨ t = iriT typB := by
 induction h with
 | base h => exact fun t ht => .inl (List.mem_flatMap.2 ⟨_, h, ht⟩)
 | step ha hb h iha ihb =>
   obtain ⟨h1, h2, h3, h4⟩ := VQ h
   intro t ht
   rcases mem_terms.1 ht with rfl | rfl | rfl | ⟨hk, rfl⟩
   · rcases h2 with e | e | e <;> rw [e]
     · exact ihb _ (mem_terms.2 (.inl rfl))
     · exact ihb _ (mem_terms.2 (.inr (.inr (.inl rfl))))
     · exact iha _ (mem_terms.2 (.inl rfl))
   · rcases h3 with e | e | e <;> rw [e]
     · exact .inr rfl
     · exact iha _ (mem_terms.2 (.inr (.inl rfl)))
     · exact iha _ (mem_terms.2 (.inr (.inr (.inl rfl))))
   · rcases h4 with e | e <;> rw [e]
     · exact iha _ (mem_terms.2 (.inr (.inr (.inl rfl))))
     · exact ihb _ (mem_terms.2 (.inr (.inr (.inl rfl))))
   · rw [h1] at hk ⊢
     exact iha _ (mem_terms.2 (.inr (.inr (.inr ⟨hk, rfl⟩))))
theorem Z5s {l m : List Qd} {most : Int} (h : IsCl l most (some m)) {t : Tm} (ht : t ∈ setL ZM (Z03 m)) : t ∈ setL ZM (Z03 l) ++ [iriT typB] := by
 rw [List.mem_append, Uk, List.mem_singleton]
 obtain ⟨q, hq, ht⟩ := List.mem_flatMap.1 ((Uk _ _).1 ht)
 exact Z90 ((h.2.1 q).1 hq) t ht
theorem Z6o {g : Tm} {l : List Qd} {i : Nat} (h : i < l.length) : ownL g (l.take (i + 1)) = if l[i].g = g then ownL g (l.take i) ++ [l[i]] else ownL g (l.take i) := by
 unfold ownL
 rw [List.take_succ_eq_append_getElem h, List.filter_append, List.filter_cons, List.filter_nil]
 by_cases e : l[i].g = g <;> simp [e]
end Go.Our
