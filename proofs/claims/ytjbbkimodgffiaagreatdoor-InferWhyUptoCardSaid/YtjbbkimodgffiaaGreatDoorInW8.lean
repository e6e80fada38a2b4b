/- Part 8: SxDrawn, SxDrawnS, SxDrawnT, SxAuto3, SxFast, Asks, CmpM, MapG, SplitM, TagM, TermM, InferM, WorldM, SxRange, SxKeep, SxKids, SetM, SetN, CloseM, DrawsM, Sort, ValidM, SetO, ClosR. Conditions: as each part says. -/
import Derived.Lib.Bytealg
import Derived.Lib.Strings
import Derived.RangeFuncNested
import Derived.Shelf.SlSortCmp.NoneTotal
import Derived.Test.YtjbbkimodgffiaaGreatDoorInW4
import Derived.Test.YtjbbkimodgffiaaGreatDoorInW7
set_option linter.unusedVariables false
set_option linter.unusedSimpArgs false
namespace Go.Sx
open Go
def Det (v : SV) : Prop := ∀ η u u', Den η v u → Den η v u' → u = u'
def DetL (vs : List SV) : Prop := ∀ η us us', DenL η vs us → DenL η vs us' → us = us'
mutual
def detV : SV → Bool
 | .bool _ | .int _ _ | .str _ | .ptr _ _ _ _ | .val _ | .mp _ | .yf _ => true
 | .dfs _ => false
 | .sl _ r _ _ _ => Nat.beq r 0
 | .agg cs => Z4t cs
 | .tup vs => Z4t vs
 | .ifc _ v => detV v
 | .fn _ a b => Z4t a && Z4t b
 | .arr _ _ => false
 | .any => false
 | .nb _ => false
def Z4t : List SV → Bool
 | [] => true
 | c :: cs => detV c && Z4t cs
end
mutual
theorem Det.of : ∀ {v : SV}, detV v = true → Det v
 | .bool _, _ => fun η u u' h h' => by simp only [Den] at h h'; rw [h, h']
 | .int _ _, _ => fun η u u' h h' => by simp only [Den] at h h'; rw [h, h']
 | .str _, _ => fun η u u' h h' => by simp only [Den] at h h'; rw [h, h']
 | .val _, _ => fun η u u' h h' => by simp only [Den] at h h'; rw [h.1, h'.1]
 | .mp b, _ => fun η u u' h h' => by
   simp only [Den] at h h'
   obtain ⟨e, h1, rfl⟩ := h
   obtain ⟨e', h2, rfl⟩ := h'
   rw [h1] at h2; injection h2 with h2; injection h2 with h2; rw [h2]
 | .ptr b r es c, _ => fun η u u' h h' => by
   simp only [Den] at h h'
   obtain ⟨e, h1, rfl⟩ := h
   obtain ⟨e', h2, rfl⟩ := h'
   rw [h1] at h2; injection h2 with h2; injection h2 with h2; rw [h2]
 | .sl b r es len lim, hd => fun η u u' h h' => by
   simp only [detV] at hd
   have hd := beq_eq hd
   simp only [Den] at h h'
   rcases h with ⟨h1, rfl, _⟩ | ⟨e, o, h1, rfl, _, _, h2⟩
   · rcases h' with ⟨h1', rfl, _⟩ | ⟨e', o', h1', rfl, _, _, h2'⟩
     · rfl
     · rw [h1] at h1'; cases h1'
   · rcases h' with ⟨h1', rfl, _⟩ | ⟨e', o', h1', rfl, _, _, h2'⟩
     · rw [h1] at h1'; cases h1'
     · rw [h1] at h1'; injection h1' with h1'; injection h1' with h1'; subst h1'
       rw [h2 (.inr hd), h2' (.inr hd)]
 | .agg cs, hd => fun η u u' h h' => by
   simp only [detV] at hd
   simp only [Den] at h h'
   obtain ⟨us, rfl, h1, _⟩ := h
   obtain ⟨us', rfl, h2, _⟩ := h'
   rw [DetL.of hd η us us' h1 h2]
 | .tup cs, hd => fun η u u' h h' => by
   simp only [detV] at hd
   simp only [Den] at h h'
   obtain ⟨us, rfl, h1⟩ := h
   obtain ⟨us', rfl, h2⟩ := h'
   rw [DetL.of hd η us us' h1 h2]
 | .ifc t v, hd => fun η u u' h h' => by
   simp only [detV] at hd
   simp only [Den] at h h'
   obtain ⟨us, rfl, h1⟩ := h
   obtain ⟨us', rfl, h2⟩ := h'
   rw [Det.of hd η us us' h1 h2]
 | .fn f a b, hd => fun η u u' h h' => by
   simp only [detV, Bool.and_eq_true] at hd
   simp only [Den] at h h'
   obtain ⟨us, vs, rfl, h1, h3⟩ := h
   obtain ⟨us', vs', rfl, h2, h4⟩ := h'
   rw [DetL.of hd.1 η us us' h1 h2, DetL.of hd.2 η vs vs' h3 h4]
 | .arr _ _, hd => by simp [detV] at hd
 | .any, hd => by simp [detV] at hd
 | .nb _, hd => by simp [detV] at hd
 | .dfs _, hd => by simp [detV] at hd
 | .yf b, _ => fun η u u' h h' => by
   simp only [Den] at h h'
   obtain ⟨e, h1, rfl⟩ := h
   obtain ⟨e', h2, rfl⟩ := h'
   rw [h1] at h2; injection h2 with h2; injection h2 with h2; rw [h2]
theorem DetL.of : ∀ {vs : List SV}, Z4t vs = true → DetL vs
 | [], _ => fun η us us' h h' => by simp only [DenL] at h h'; rw [h, h']
 | c :: cs, hd => fun η us us' h h' => by
   simp only [Z4t, Bool.and_eq_true] at hd
   simp only [DenL] at h h'
   obtain ⟨u, r, rfl, h1, h2⟩ := h
   obtain ⟨u', r', rfl, h1', h2'⟩ := h'
   rw [Det.of hd.1 η u u' h1 h1', DetL.of hd.2 η r r' h2 h2']
end
def WQ : Hps → List (Blk × Hp)
 | [] => []
 | (i, h) :: r => (.loc i, h) :: WQ r
def Z5E (C : Cx) (O : Hps) : Cx := ⟨C.T, C.N, WQ O ++ C.S, C.ro⟩
def Z2o (C : Cx) : Cx := ⟨{ C.T with globs := [], gplain := rfl }, C.N, [], C.ro⟩
def shMx (M : Mx) (O : Hps) (η : Env) (w : World) : Mx := ⟨M.P, Z5E M.C O, w, fun _ => False, η⟩
def blMx (M : Mx) (η : Env) (w : World) : Mx := ⟨M.P, Z2o M.C, w, fun _ => False, η⟩
def Z4u : SV → Prop → Prop
 | .bool _, K | .int _ _, K | .str _, K | .ptr _ _ _ _, K | .val _, K => K
 | .agg cs, K => match Z4t cs with | true => K | false => NEED (Det (.agg cs)) K
 | .tup cs, K => match Z4t cs with | true => K | false => NEED (Det (.tup cs)) K
 | v, K => NEED (Det v) K
def Z9h (N : Nat) (C : Cx) (o : Oper) (fr : Fr) (nx : Nat) (K : SV → Prop) : Prop :=
 match Vo N o.dst with
 | false => STOP "slot"
 | true => match o.op with
   | .move x => match Ug fr x with | some v => K v | none => STOP "operand"
   | .assign x => match Ug fr x with | some v => K v | none => STOP "operand"
   | op => match Zdo op with
     | true => STOP "writes"
     | false => (opR C (Ug fr) [] nx op).gv fun v => Z4u v (K v)
structure ADD (M : Mx) (o : Oper) (fr : Fr) (O : Hps) (nx : Nat) (K : SV → Hps → Nat → Prop) : Prop where
 out : ∀ η w, Z3i (shMx M O η w) o (Ug fr) [] nx fun v O2 nx => K v (O2 ++ O) nx
def ZaG (M : Mx) (m : Nat) (o : Oper) (fr : Fr) (O : Hps) (nx : Nat) (K : SV → Hps → Nat → Prop) : Prop :=
 match m with
 | 0 => Z3i M o (Ug fr) O nx K
 | 1 => Z9h M.C.N (Z2o M.C) o fr nx fun v => K v O nx
 | 2 => Z9h M.C.N (Z5E M.C O) o fr nx fun v => K v O nx
 | _ => ADD M o fr O nx K
inductive Plan where
 | nil
 | take (i m : Nat) (t : Plan)
 | fork (i mi j mj : Nat) (a b : Plan)
 | fork3 (i mi j mj k mk : Nat) (a b c : Plan)
 | join (t : Plan)
def Zj : List (Nat × Nat) → Plan
 | [] => .nil
 | (i, m) :: r => .take i m (Zj r)
def Plan.depth : Plan → Nat
 | .nil => 0
 | .take _ _ t => t.depth + 1
 | .fork _ _ _ _ a _ => a.depth + 1
 | .fork3 _ _ _ _ _ _ a _ _ => a.depth + 1
 | .join t => t.depth
structure FORK (A B : Prop) : Prop where
 a : A
 b : B
structure JOIN (A : Fr → Prop) (fr : Fr) : Prop where
 out : ∃ fr', (∀ t, lkp t fr' = lkp t fr) ∧ A fr'
theorem JOIN.go {A : Fr → Prop} {fr : Fr} (h : A fr) : JOIN A fr := ⟨fr, fun _ => rfl, h⟩
theorem JOIN.ij {A : Fr → Prop} {fr : Fr} {a b c s : Nat} {x y z g : SV} (h : A ((b, y) :: (c, z) :: (a, x) :: (s, g) :: fr)) (hd : (a ≠ s ∧ b ≠ s ∧ c ≠ s) ∧ a ≠ b ∧ a ≠ c ∧ b ≠ c) : JOIN A ((b, y) :: (s, g) :: (c, z) :: (s, g) :: (a, x) :: (s, g) :: fr) := by
 refine ⟨_, fun t => ?_, h⟩
 obtain ⟨⟨h1, h2, h3⟩, h4, h5, h6⟩ := hd
 simp only [Zi]
 repeat' split
 all_goals first | rfl | (exfalso; omega)
theorem JOIN.ji {A : Fr → Prop} {fr : Fr} {a b c s : Nat} {x y z g : SV} (h : A ((b, y) :: (c, z) :: (a, x) :: (s, g) :: fr)) (hd : (a ≠ s ∧ b ≠ s ∧ c ≠ s) ∧ a ≠ b ∧ a ≠ c ∧ b ≠ c) : JOIN A ((c, z) :: (s, g) :: (a, x) :: (s, g) :: (b, y) :: (s, g) :: fr) := by
 refine ⟨_, fun t => ?_, h⟩
 obtain ⟨⟨h1, h2, h3⟩, h4, h5, h6⟩ := hd
 simp only [Zi]
 repeat' split
 all_goals first | rfl | (exfalso; omega)
def oneD (M : Mx) (ops : List Oper) (i m : Nat) (fr : Fr) (O : Hps) (nx : Nat) (K : Fr → Hps → Nat → Prop) : Prop :=
 match nth ops i with
 | none => STOP "order"
 | some o => match o.guard with
   | none => ZaG M m o fr O nx fun v O nx => putK o.dst v fr fun fr => K fr O nx
   | some (j, want) =>
     match Ui ops j with
     | none => STOP "guard"
     | some s => match lkp s fr with
       | some (.bool b) => IF b
         (fun J => match want with
          | true => ZaG M m o ((s, .bool true) :: fr) O nx fun v O nx => putK o.dst v ((s, .bool true) :: fr) fun fr => J fr O nx
          | false => match Vo M.C.N o.dst with | true => putK o.dst YX ((s, .bool true) :: fr) fun fr => J fr O nx | false => STOP "slot")
         (fun J => match want with
          | false => ZaG M m o ((s, .bool false) :: fr) O nx fun v O nx => putK o.dst v ((s, .bool false) :: fr) fun fr => J fr O nx
          | true => match Vo M.C.N o.dst with | true => putK o.dst YX ((s, .bool false) :: fr) fun fr => J fr O nx | false => STOP "slot")
         K
       | some (.tup []) => match Vo M.C.N o.dst with | true => putK o.dst YX fr fun fr => K fr O nx | false => STOP "slot"
       | _ => STOP "guard"
def runD (M : Mx) (ops : List Oper) : Plan → Fr → Hps → Nat → (Fr → Hps → Nat → Prop) → Prop
 | .nil, fr, O, nx, K => K fr O nx
 | .take i m rest, fr, O, nx, K => oneD M ops i m fr O nx fun fr O nx => runD M ops rest fr O nx K
 | .fork i mi j mj a b, fr, O, nx, K => FORK (oneD M ops i mi fr O nx fun fr O nx => runD M ops a fr O nx K) (oneD M ops j mj fr O nx fun fr O nx => runD M ops b fr O nx K)
 | .fork3 i mi j mj k mk a b c, fr, O, nx, K => FORK (oneD M ops i mi fr O nx fun fr O nx => runD M ops a fr O nx K) (FORK (oneD M ops j mj fr O nx fun fr O nx => runD M ops b fr O nx K) (oneD M ops k mk fr O nx fun fr O nx => runD M ops c fr O nx K))
 | .join t, fr, O, nx, K => JOIN (fun fr => runD M ops t fr O nx K) fr
theorem FORK.skip {M : Mx} {ops : List Oper} {i mi j mj k mk : Nat} {p : Plan} {fr : Fr} {O : Hps} {nx : Nat} {K : Fr → Hps → Nat → Prop} (a b c s : Nat)
   (ha : runD M ops p ((b, YX) :: (c, YX) :: (a, YX) :: (s, .bool false) :: fr) O nx K → oneD M ops i mi fr O nx fun fr O nx => runD M ops (.take k mk (.take j mj (.join p))) fr O nx K)
   (hb : runD M ops p ((b, YX) :: (c, YX) :: (a, YX) :: (s, .bool false) :: fr) O nx K → oneD M ops j mj fr O nx fun fr O nx => runD M ops (.take i mi (.take k mk (.join p))) fr O nx K)
   (r : runD M ops p ((b, YX) :: (c, YX) :: (a, YX) :: (s, .bool false) :: fr) O nx K) :
   FORK (oneD M ops i mi fr O nx fun fr O nx => runD M ops (.take k mk (.take j mj (.join p))) fr O nx K) (oneD M ops j mj fr O nx fun fr O nx => runD M ops (.take i mi (.take k mk (.join p))) fr O nx K) := ⟨ha r, hb r⟩
theorem FORK.adds {M : Mx} {ops : List Oper} {i mi j mj k mk : Nat} {p : Plan} {fr : Fr} {O : Hps} {nx : Nat} {K : Fr → Hps → Nat → Prop} (a b c s : Nat) (x y z : SV) (o : Hps) (n : Nat)
   (ha : runD M ops p ((b, y) :: (c, z) :: (a, x) :: (s, .bool true) :: fr) (o ++ O) n K → oneD M ops i mi fr O nx fun fr O nx => runD M ops (.take k mk (.take j mj (.join p))) fr O nx K)
   (hb : runD M ops p ((b, y) :: (c, z) :: (a, x) :: (s, .bool true) :: fr) (o ++ O) n K → oneD M ops j mj fr O nx fun fr O nx => runD M ops (.take i mi (.take k mk (.join p))) fr O nx K)
   (r : runD M ops p ((b, y) :: (c, z) :: (a, x) :: (s, .bool true) :: fr) (o ++ O) n K) :
   FORK (oneD M ops i mi fr O nx fun fr O nx => runD M ops (.take k mk (.take j mj (.join p))) fr O nx K) (oneD M ops j mj fr O nx fun fr O nx => runD M ops (.take i mi (.take k mk (.join p))) fr O nx K) := ⟨ha r, hb r⟩
theorem oneD.pass {M : Mx} {ops : List Oper} {i m : Nat} {fr : Fr} {O : Hps} {nx : Nat} {K : Fr → Hps → Nat → Prop} {o : Oper} {g s a : Nat} {e : Bool}
   (h1 : nth ops i = some o) (h2 : o.guard = some (g, true)) (h3 : Ui ops g = some s) (h4 : lkp s fr = some (.bool e)) (he : e = false) (h5 : o.dst = some a) (h6 : Nat.blt a M.C.N = true)
   (h : K ((a, YX) :: (s, .bool false) :: fr) O nx) : oneD M ops i m fr O nx K := by
 subst he
 unfold oneD
 simp only [h1, h2, h3, h4, h5, Vo, h6, putK]
 exact IF.ff h
theorem FORK.pass {M : Mx} {ops : List Oper} {i mi j mj k mk : Nat} {p : Plan} {fr : Fr} {O : Hps} {nx : Nat} {K : Fr → Hps → Nat → Prop} (a b c s : Nat) {oi oj ok : Oper} {gi gj gk : Nat} {e : Bool}
   (hi : nth ops i = some oi) (hj : nth ops j = some oj) (hk : nth ops k = some ok)
   (ei : oi.guard = some (gi, true)) (ej : oj.guard = some (gj, true)) (ek : ok.guard = some (gk, true))
   (si : Ui ops gi = some s) (sj : Ui ops gj = some s) (sk : Ui ops gk = some s)
   (di : oi.dst = some a) (dj : oj.dst = some b) (dk : ok.dst = some c)
   (ni : Nat.blt a M.C.N = true) (nj : Nat.blt b M.C.N = true) (nk : Nat.blt c M.C.N = true)
   (hf : lkp s fr = some (.bool e)) (he : e = false)
   (hd : (a ≠ s ∧ b ≠ s ∧ c ≠ s) ∧ a ≠ b ∧ a ≠ c ∧ b ≠ c)
   (r : runD M ops p ((b, YX) :: (c, YX) :: (a, YX) :: (s, .bool false) :: fr) O nx K) :
   FORK (oneD M ops i mi fr O nx fun fr O nx => runD M ops (.take k mk (.take j mj (.join p))) fr O nx K) (oneD M ops j mj fr O nx fun fr O nx => runD M ops (.take i mi (.take k mk (.join p))) fr O nx K) := by
 have l1 : ∀ {v : SV} {t : Nat}, t ≠ s → lkp s ((t, v) :: (s, .bool false) :: fr) = some (.bool false) := fun h => by
   rw [Zi, if_neg (fun h' => h h'.symm), Zi, if_pos rfl]
 obtain ⟨⟨a1, a2, a3⟩, hd2⟩ := id hd
 have l2 : ∀ {v w : SV} {t u : Nat}, t ≠ s → u ≠ s → lkp s ((t, v) :: (s, .bool false) :: (u, w) :: (s, .bool false) :: fr) = some (.bool false) := fun h _ => by
   rw [Zi, if_neg (fun h' => h h'.symm), Zi, if_pos rfl]
 constructor
 · refine oneD.pass hi ei si hf he di ni ?_
   show oneD M ops k mk _ O nx fun fr O nx => runD M ops (.take j mj (.join p)) fr O nx K
   refine oneD.pass hk ek sk (l1 a1) rfl dk nk ?_
   show oneD M ops j mj _ O nx fun fr O nx => runD M ops (.join p) fr O nx K
   refine oneD.pass hj ej sj (l2 a3 a1) rfl dj nj ?_
   exact JOIN.ij r hd
 · refine oneD.pass hj ej sj hf he dj nj ?_
   show oneD M ops i mi _ O nx fun fr O nx => runD M ops (.take k mk (.join p)) fr O nx K
   refine oneD.pass hi ei si (l1 a2) rfl di ni ?_
   show oneD M ops k mk _ O nx fun fr O nx => runD M ops (.join p) fr O nx K
   refine oneD.pass hk ek sk (l2 a1 a2) rfl dk nk ?_
   exact JOIN.ji r hd
def Vw (acc : List Nat) (o : Oper) : Nat := o.after.foldl (fun s e => if Region.binds .any e then s ||| 2 ^ e.on ||| acc.getD e.on 0 else s) 0
def Z0n : List Oper → List Nat → List Nat
 | [], acc => acc
 | o :: r, acc => Z0n r (acc ++ [Vw acc o])
def Z2p (i : Nat) : Nat → List Nat → List Nat
 | 0, l => i :: l
 | _, l => l
def Vx (m : Nat) : Bool := m == 0 || m == 3
def ZB : Plan → List Nat
 | .nil => []
 | .take i 0 t => i :: ZB t
 | .take _ _ t => ZB t
 | .fork i mi j mj a b => Z2p i mi (Z2p j mj (ZB a ++ ZB b))
 | .fork3 i mi j mj k mk a b c => Z2p i mi (Z2p j mj (Z2p k mk (ZB a ++ (ZB b ++ ZB c))))
 | .join t => ZB t
def Yj (ops : Array Oper) (ms : List Nat) : Plan → Array Bool → Bool
 | .nil, l => (Region.ready .any ops l).isEmpty
 | .take i m rest, l =>
   (match m with
    | 0 => Region.ready .any ops l == [i]
    | 1 => (Region.ready .any ops l).contains i && Region.free .any ops l i && (ZB rest).all (fun k => k != i)
    | 2 => (Region.ready .any ops l).contains i && Region.free .any ops l i && (ZB rest).all (fun k => k != i && (ms.getD k 0).testBit i)
    | _ => Region.ready .any ops l == [i]) &&
   Yj ops ms rest (l.setIfInBounds i true)
 | .fork i mi j mj a b, l => Region.ready .any ops l == [i, j] && Vx mi && Vx mj && a.depth == b.depth && Yj ops ms a (l.setIfInBounds i true) && Yj ops ms b (l.setIfInBounds j true)
 | .fork3 i mi j mj k mk a b c, l => Region.ready .any ops l == [i, j, k] && Vx mi && Vx mj && Vx mk && a.depth == b.depth && a.depth == c.depth && Yj ops ms a (l.setIfInBounds i true) && Yj ops ms b (l.setIfInBounds j true) && Yj ops ms c (l.setIfInBounds k true)
 | .join t, l => Yj ops ms t l
def Z4v (ops : Array Oper) (steps : Plan) : Bool :=
 Region.noSelect ops && steps.depth == ops.size && Yj ops (Z0n ops.toList []) steps (Array.replicate ops.size false)
end Go.Sx
namespace Go.Sx
open Go
theorem Z3M : ∀ (os : List Oper) (acc : List Nat), (Z0n os acc).take acc.length = acc ∧ ∀ j o, os[j]? = some o → (Z0n os acc)[acc.length + j]? = some (Vw ((Z0n os acc).take (acc.length + j)) o)
 | [], acc => ⟨by simp [Z0n], fun j o h => by simp at h⟩
 | o :: os, acc => by
   simp only [Z0n]
   obtain ⟨h1, h2⟩ := Z3M os (acc ++ [Vw acc o])
   simp only [List.length_append, List.length_singleton] at h1 h2
   have h0 : (Z0n os (acc ++ [Vw acc o])).take acc.length = acc := by
     have := congrArg (List.take acc.length) h1
     rw [List.take_take] at this
     simpa using this
   refine ⟨h0, fun j o' hj => ?_⟩
   cases j with
   | zero =>
     simp at hj; subst hj
     rw [Nat.add_zero, h0]
     have := congrArg (fun l : List Nat => l[acc.length]?) h1
     simpa [List.getElem?_take] using this
   | succ j =>
     have := h2 j o' (by simpa using hj)
     rw [show acc.length + (j + 1) = acc.length + 1 + j by omega]
     exact this
theorem Z3j {acc : List Nat} {o : Oper} {i : Nat} (h : (Vw acc o).testBit i = true) : ∃ e ∈ o.after, Region.binds .any e = true ∧ (e.on = i ∨ (acc.getD e.on 0).testBit i = true) := by
 unfold Vw at h
 rw [← Array.foldl_toList] at h
 have key : ∀ (es : List Edge) (s : Nat), (es.foldl (fun s e => if Region.binds .any e then s ||| 2 ^ e.on ||| acc.getD e.on 0 else s) s).testBit i = true →
     s.testBit i = true ∨ ∃ e ∈ es, Region.binds .any e = true ∧ (e.on = i ∨ (acc.getD e.on 0).testBit i = true) := by
   intro es
   induction es with
   | nil => intro s h; exact .inl h
   | cons e es ih =>
     intro s h
     simp only [List.foldl_cons] at h
     rcases ih _ h with h | ⟨e', he', h⟩
     · split at h
       · rename_i hb
         simp only [Nat.testBit_or, Bool.or_eq_true] at h
         rcases h with (h | h) | h
         · exact .inl h
         · refine .inr ⟨e, List.mem_cons_self .., hb, .inl ?_⟩
           rw [Nat.testBit_two_pow] at h
           simpa using h
         · exact .inr ⟨e, List.mem_cons_self .., hb, .inr h⟩
       · exact .inl h
     · exact .inr ⟨e', List.mem_cons_of_mem _ he', h⟩
 rcases key _ _ h with h | ⟨e, he, h⟩
 · simp at h
 · exact ⟨e, by simpa using he, h⟩
theorem Z5F {ops : Array Oper} {l : Array Bool} (hc : Closed .any ops l) {i : Nat} : ∀ (k : Nat), ((Z0n ops.toList []).getD k 0).testBit i = true → l.getD k false = true → l.getD i false = true := by
 intro k
 induction k using Nat.strongRecOn with
 | _ k ih =>
   intro h hk
   cases hg : (Z0n ops.toList [])[k]? with
   | none => rw [List.getD_eq_getElem?_getD, hg] at h; simp at h
   | some m =>
     have hlt : k < ops.size := by
       rcases Nat.lt_or_ge k ops.size with h' | h'
       · exact h'
       · rw [← hc.1] at h'
         simp [Array.getElem?_eq_none h'] at hk
     have ho : ops[k]? = some ops[k] := Array.getElem?_eq_getElem hlt
     have hm := (Z3M ops.toList []).2 k ops[k] (by simp)
     simp only [List.length_nil, Nat.zero_add] at hm
     rw [List.getD_eq_getElem?_getD, hm, Option.getD_some] at h
     obtain ⟨e, he, hb, h⟩ := Z3j h
     have hon := hc.2 k _ ho hk e he hb
     rcases h with rfl | h
     · exact hon
     · rw [List.getD_eq_getElem?_getD, List.getElem?_take] at h
       split at h
       · rename_i hlt'
         exact ih e.on hlt' (by rw [List.getD_eq_getElem?_getD]; exact h) hon
       · simp at h
def agree (w w' : World) : Prop := ∀ k, k < w.heap.size → w'.heap[k]? = w.heap[k]?
theorem agree.refl (w : World) : agree w w := fun _ _ => rfl
theorem agree.trans {a b c : World} (h : agree a b) (k : agree b c) : agree a c := fun n hn => by
 have h1 := h n hn
 have hlt : n < b.heap.size := by
   rw [Array.getElem?_eq_getElem hn] at h1
   exact (Array.getElem?_eq_some_iff.1 h1).1
 rw [k n hlt, h1]
section
variable {M : Mx} {η : Env} {w : World} {O : Hps} {nx : Nat}
theorem Z2q {C : Cx} : ∀ {O : Hps} {j : Nat}, lkpB (.loc j) (WQ O ++ C.S) = JT C O (.loc j)
 | [], j => by simp [WQ, JT, lkp]
 | (i, h) :: r, j => by
   have ih := Z2q (C := C) (O := r) (j := j)
   simp only [WQ, List.cons_append, lkpB, Za9, JT, lkp]
   cases e : Nat.beq j i
   · simp only [e]; rw [ih]; rfl
   · simp only [e]
theorem Z9i {C : Cx} {O : Hps} {b : Blk} : lkS (Z5E C O) b = JT C O b := by
 cases b with
 | glob g => rfl
 | loc j => exact Z2q
theorem HeapOK.read (H : HeapOK M η w O nx) {w' : World} (hag : agree w w') : HeapOK (shMx M O η w') η w' [] nx := by
 refine ⟨List.prefix_rfl, H.len, ⟨fun i h hi => by simp [lkp] at hi, fun i j h h' n hi => by simp [lkp] at hi⟩, FrW.refl _ _, fun b h hb => ?_⟩
 have hb' : JT M.C O b = some h := by rw [← Z9i]; exact hb
 have hsat := H.look hb'
 have hag' : ∀ k, feet η w b h k → w'.heap[k]? = w.heap[k]? := fun k f => hag _ (hsat.feet_lt f)
 have hs' := hsat.keep hag'
 exact ⟨hs', fun k f => ⟨hs'.feet_lt f, fun h => h⟩⟩
theorem HeapOK.blind (hl : η.length = nx) (w : World) : HeapOK (blMx M η w) η w [] nx :=
 ⟨List.prefix_rfl, hl, ⟨fun i h hi => by simp [lkp] at hi, fun i j h h' n hi => by simp [lkp] at hi⟩, FrW.refl _ _, fun b h hb => by cases b <;> simp [blMx, Z2o, lkS, lkpB, lkp] at hb⟩
theorem HeapOK.join (H : HeapOK M η w O nx) {η' : Env} {w' : World} {O2 : Hps} {nx2 : Nat} (H2 : HeapOK (shMx M O η w) η' w' O2 nx2) : HeapOK M η' w' (O2 ++ O) nx2 ∧ agree w w' := by
 have hag : agree w w' := fun k hk => H2.fr.block k hk (fun h => h)
 have hp : η <+: η' := H2.pre
 have old : ∀ {i : Nat} {h : Hp}, lkp i O = some h → HpSat η' w' true (.loc i) h ∧ ∀ k, feet η' w' (.loc i) h k → feet η w (.loc i) h k ∧ k < w.heap.size := by
   intro i h hi
   obtain ⟨hsat, hF⟩ := H.own.1 i h hi
   have hk : ∀ k, feet η w (.loc i) h k → w'.heap[k]? = w.heap[k]? := fun k f => hag _ (hsat.feet_lt f)
   refine ⟨(hsat.keep (w' := w') hk).mono hp, fun k f => ?_⟩
   have f' := H.stands hp hi hk f
   exact ⟨f', hsat.feet_lt f'⟩
 refine ⟨⟨H.pre.trans hp, H2.len, ⟨fun i h hi => ?_, fun i j h h' k hi hj hij f f' => ?_⟩, H.fr.trans H2.fr (fun n hn => hn.elim), H.sok⟩, hag⟩
 · rcases XN hi with hi | ⟨_, hi⟩
   · obtain ⟨h1, h2⟩ := H2.own.1 i h hi
     refine ⟨h1, fun k f => .inr ?_⟩
     rcases h2 k f with h3 | h3
     · exact h3.elim
     · exact Nat.le_trans H.fr.size h3
   · obtain ⟨h1, h2⟩ := old hi
     exact ⟨h1, fun k f => (H.own.1 i h hi).2 k (h2 k f).1⟩
 · rcases XN hi with hi | ⟨_, hi⟩
   · rcases XN hj with hj | ⟨_, hj⟩
     · exact H2.own.2 i j h h' k hi hj hij f f'
     · have h1 := ((old hj).2 k f').2
       rcases (H2.own.1 i h hi).2 k f with h3 | h3
       · exact h3.elim
       · have h3 : w.heap.size ≤ k := h3
         omega
   · rcases XN hj with hj | ⟨_, hj⟩
     · have h1 := ((old hi).2 k f).2
       rcases (H2.own.1 j h' hj).2 k f' with h3 | h3
       · exact h3.elim
       · have h3 : w.heap.size ≤ k := h3
         omega
     · exact H.own.2 i j h h' k hi hj hij ((old hi).2 k f).1 ((old hj).2 k f').1
theorem Z78 {v : SV} {K : Prop} (h : Z4u v K) : Det v ∧ K := by
 cases v with
 | agg cs =>
   simp only [Z4u] at h
   split at h
   · rename_i e; exact ⟨Det.of (by simpa only [detV] using e), h⟩
   · exact ⟨h.p, h.k⟩
 | tup cs =>
   simp only [Z4u] at h
   split at h
   · rename_i e; exact ⟨Det.of (by simpa only [detV] using e), h⟩
   · exact ⟨h.p, h.k⟩
 | _ => first | exact ⟨h.p, h.k⟩ | exact ⟨Det.of rfl, h⟩
theorem Z0X {P : Program} {C' : Cx} (hT : TabOK P C'.T) {N : World → Prop} {o : Oper} {a : Act} {fr : Fr} {nx N0 : Nat} {K : SV → Prop} (hf : FrOK η a fr)
   (hN : ∀ w', N w' → HeapOK ⟨P, C', w', fun _ => False, η⟩ η w' [] nx) (hw : N w) (h : Z9h N0 C' o fr nx K) :
   Vo N0 o.dst = true ∧ ∃ u v, (∀ w', N w' → (execOp a.eval o).run P w' = .ok (.value u) w' ∨ ((execOp a.eval o).run P w' = .ok .skip w' ∧ u = undef)) ∧ Den η v u ∧ K v := by
 unfold Z9h at h
 split at h
 · exact h.out.elim
 rename_i hd
 refine ⟨hd, ?_⟩
 split at h
 · rename_i x ho
   split at h
   case h_2 => exact h.out.elim
   rename_i v hv
   exact ⟨a.eval x, v, fun w' _ => .inl (by simp [execOp, ho]), Yc hf hv, h⟩
 · rename_i x ho
   split at h
   case h_2 => exact h.out.elim
   rename_i v hv
   exact ⟨a.eval x, v, fun w' _ => .inl (by simp [execOp, ho]), Yc hf hv, h⟩
 · split at h
   · exact h.out.elim
   rename_i hst
   obtain ⟨v, hok, h⟩ := Res.gv_ok h
   obtain ⟨hdet, h⟩ := Z78 h
   have one : ∀ w', N w' → ∃ u, ((execOp a.eval o).run P w' = .ok (.value u) w' ∨ ((execOp a.eval o).run P w' = .ok .skip w' ∧ u = undef)) ∧ Den η v u := by
     intro w' hw'
     have H := hN w' hw'
     obtain ⟨u, w'', η'', h1, h2, h3, h4, h5⟩ := Z4l (M := ⟨P, C', w', fun _ => False, η⟩) (w := w') (ρ := a.eval) ⟨H, hT, fun x sv hx => Yc hf hx⟩ o (hok [] nx)
     have he : η'' = η := (h2.eq_of_length (by rw [H.len, h3.len])).symm
     subst he
     have hww := h5 hst rfl
     subst hww
     exact ⟨u, h1, h4⟩
   obtain ⟨u, h1, h2⟩ := one w hw
   refine ⟨u, v, fun w' hw' => ?_, h2, h⟩
   obtain ⟨u', h3, h4⟩ := one w' hw'
   rw [hdet η u u' h2 h4]
   exact h3
end
def SS (ks : List Nat) (wc : World) (l : Array Bool) (w : World) : Prop := (∀ k ∈ ks, l.getD k false = false) → agree wc w
section
variable {M : Mx} {ops : Array Oper} {Q : Exit → Act → World → Prop}
theorem Xw {i m : Nat} {rest : Plan} (h : m ≠ 0) : ZB (.take i m rest) = ZB rest := by
 cases m with
 | zero => exact (h rfl).elim
 | succ m => rfl
theorem Z5G {i : Nat} {rest : Plan} : ZB (.take i 0 rest) = i :: ZB rest := rfl
theorem WR {l : Array Bool} {i : Nat} (h : l.getD i true = false) : l.getD i false = false := by
 rcases Nat.lt_or_ge i l.size with h' | h'
 · simp [h'] at h ⊢; exact h
 · simp [Array.getElem?_eq_none h'] at h
theorem UN {η : Env} {fr : Fr} {O : Hps} {nx : Nat} {a : Act} {w : World} (hm : Models M η fr O nx a w) {o : Oper} (hd : Vo M.C.N o.dst = true) {u : Value} {v : SV} (hv : Den η v u) {Kp : Fr → Prop} (hk : putK o.dst v fr Kp) :
   ∃ fr', Kp fr' ∧ Models M η fr' O nx (a.put o.dst u) w := hm.put hd List.prefix_rfl hm.heap hv hk
theorem VY (hQ : ∀ c a w, ¬ Q (.panic c) a w) (hs : Region.noSelect ops = true) {i n : Nat} {o : Oper} {l : Array Bool} {ks : List Nat} (ho : ops[i]? = some o) (hready : i ∈ Region.ready .any ops l) (hfree : Region.free .any ops l i = true) (hne : ∀ k ∈ ks, k ≠ i) (hc : Closed .any ops l)
   {N : World → Prop} {wc : World} (hN : ∀ l w, Closed .any ops l → l.getD i true = false → SS ks wc l w → N w) {a : Act} {w : World} {u : Value} (hy : YieldsN M.P ops N o u a) (hag : agree wc w)
   (h : wpH M.fence M.P .any ops Q (SS ks wc) n (l.setIfInBounds i true) (a.put o.dst u) w) : wpH M.fence M.P .any ops Q (SS ks wc) (n + 1) l a w := by
 refine ZaF M.all ho (Region.noSelect_spec hs) (fun c a w hq => (hQ _ _ _ hq).elim) hN (fun l' w' hc' hun hr hS hk => hS fun k hk' => ?_) n l a w hc (Region.free_spec ho hfree) hready hy (fun _ => hag) (fun _ => hag) h
 rw [getD_set_ne false (Ne.symm (hne k hk'))]; exact hk k hk'
theorem HeapOK.drawn {η : Env} {w : World} {O : Hps} {nx : Nat} (H : HeapOK M η w O nx) {n : Nat} (hn : w.drawn ≤ n) : HeapOK M η { w with drawn := n } O nx :=
 ⟨H.pre, H.len, H.own.still rfl, ⟨H.fr.os, H.fr.tape, H.fr.output, Nat.le_trans H.fr.drawn hn, H.fr.size, H.fr.block⟩, H.sok⟩
theorem Z5H {m : Nat} (h : Vx m = true) : m = 0 ∨ m = 3 := by
 unfold Vx at h
 simpa using h
theorem ZL {i m : Nat} {l : List Nat} {x : Nat} (h : x ∈ l) : x ∈ Z2p i m l := by
 cases m with
 | zero => exact List.mem_cons_of_mem _ h
 | succ m => exact h
theorem JG {i : Nat} {l : List Nat} : i ∈ Z2p i 0 l := List.mem_cons_self ..
theorem ZdV (hT : TabOK M.P M.C.T) {i m : Nat} (hmode : m = 0 ∨ m = 3) {fr : Fr} {O : Hps} {nx : Nat} {Kn : Fr → Hps → Nat → Prop} (h : oneD M ops.toList i m fr O nx Kn) {η : Env} {a : Act} {w : World} (hm : Models M η fr O nx a w) {R : Act → World → Prop}
   (hR : ∀ {fr : Fr} {O : Hps} {nx : Nat} {η : Env} {a : Act} {w' : World}, Kn fr O nx → Models M η fr O nx a w' → (m = 3 → agree w w') → R a w') : wpOpIn M.fence 0 M.P ops Q i R a w := by
 unfold oneD at h
 split at h
 · exact h.out.elim
 rename_i o ho
 have ho : ops[i]? = some o := by rw [Jz] at ho; simpa using ho
 have skip : ∀ {fr' : Fr}, Models M η fr' O nx a w → Region.wanted o (yielded ops a.tmps) ≠ true → (match Vo M.C.N o.dst with | true => putK o.dst YX fr' fun fr => Kn fr O nx | false => STOP "slot") → wpOpIn M.fence 0 M.P ops Q i R a w := by
   intro fr' hm' hw h
   split at h
   case h_2 => exact h.out.elim
   rename_i hd
   obtain ⟨fr2, h1, h2⟩ := UN hm' hd (VQ η) h
   unfold wpOpIn
   simp only [ho]
   rw [if_neg hw]; exact ⟨fun f _ => M.all f, hR h1 h2 fun _ => agree.refl w⟩
 have go : ∀ {fr' : Fr}, Models M η fr' O nx a w → Region.wanted o (yielded ops a.tmps) = true → (ZaG M m o fr' O nx fun v O nx => putK o.dst v fr' fun fr => Kn fr O nx) → wpOpIn M.fence 0 M.P ops Q i R a w := by
   intro fr' hm' hw h
   unfold wpOpIn
   simp only [ho]
   rw [if_pos hw]
   rcases hmode with rfl | rfl
   · have h : Z3i M o (Ug fr') O nx fun v O nx => putK o.dst v fr' fun fr => Kn fr O nx := h
     refine (WM hT hm' (fun x sv hx => Yc hm'.frame hx) h fun u v O' nx' η' w' hd hp hH hv hk => ?_)
     obtain ⟨fr2, h1, h2⟩ := hm'.put hd hp hH hv hk
     exact hR h1 h2 fun h => by cases h
   · have h : ADD M o fr' O nx fun v O nx => putK o.dst v fr' fun fr => Kn fr O nx := h
     have hm2 : Models (shMx M O η w) η fr' [] nx a w := ⟨hm'.heap.read (agree.refl w), hm'.size, hm'.nds, hm'.defers, hm'.ro, hm'.frame⟩
     refine (WM (M := shMx M O η w) hT hm2 (fun x sv hx => Yc hm'.frame hx) (h.out η w) fun u v O2 nx2 η' w' hd hp hH hv hk => ?_)
     obtain ⟨hJ, hag2⟩ := hm'.heap.join hH
     obtain ⟨fr2, h1, h2⟩ := hm'.put hd hp hJ hv hk
     exact hR h1 h2 fun _ => hag2
 split at h
 · rename_i hg
   exact go hm (VT hg) h
 · rename_i j want hg
   split at h
   · exact h.out.elim
   rename_i s hsl
   split at h
   · rename_i b hb
     have hbv := YF (hm.frame s _ hb)
     have hy := UL hsl hbv
     cases b with
     | true =>
       have h := h.t rfl
       have hm' : Models M η ((s, .bool true) :: fr) O nx a w := hm.know hb rfl rfl hbv
       cases want with
       | true => exact go hm' ((ZE hg).2 hy) h
       | false => exact skip hm' (fun hw => by rw [ZE hg, hy] at hw; cases hw) h
     | false =>
       have h := h.f rfl
       have hm' : Models M η ((s, .bool false) :: fr) O nx a w := hm.know hb rfl rfl hbv
       cases want with
       | false => exact go hm' ((ZE hg).2 hy) h
       | true => exact skip hm' (fun hw => by rw [ZE hg, hy] at hw; cases hw) h
   · rename_i hb
     have hbv := hm.frame s _ hb
     simp only [Den, DenL] at hbv
     obtain ⟨vs, hbv, rfl⟩ := hbv
     exact skip hm (fun hw => by rw [ZE hg] at hw; exact VS hsl (by rw [hbv]; simp) hw) h
   · exact h.out.elim
theorem arm (hT : TabOK M.P M.C.T) {fk t : Plan} {d : Nat} {fr : Fr} {O : Hps} {nx : Nat} {K : Fr → Hps → Nat → Prop} {η : Env} {a : Act} {w wc : World} {l : Array Bool} (hm : Models M η fr O nx a w) (hag : agree wc w) (hc : Closed .any ops l)
   {x m : Nat} (hmo : Vx m = true) (hx : x ∈ Region.ready .any ops l) (hxk : m = 0 → x ∈ ZB fk) (hsub : ∀ k ∈ ZB t, k ∈ ZB fk) (hd : t.depth = d)
   (ih : ∀ {fr : Fr} {O : Hps} {nx : Nat} {η : Env} {a : Act} {w wc : World}, runD M ops.toList t fr O nx K → Models M η fr O nx a w → agree wc w → wpH M.fence M.P .any ops Q (SS (ZB t) wc) t.depth (l.setIfInBounds x true) a w)
   (hrun : oneD M ops.toList x m fr O nx fun fr O nx => runD M ops.toList t fr O nx K) :
   wpOpIn M.fence 0 M.P ops Q x (fun a' w' => SS (ZB fk) wc (l.setIfInBounds x true) w' ∧ wpH M.fence M.P .any ops Q (SS (ZB fk) wc) d (l.setIfInBounds x true) a' w') a w := by
 have hin : x < l.size := by
   obtain ⟨h1, o, ho, _⟩ := mem_ready.1 hx
   rw [hc.1]; exact (Array.getElem?_eq_some_iff.1 ho).1
 have hset : (l.setIfInBounds x true).getD x false = true := by simp [hin]
 refine ZdV hT (Z5H hmo) hrun hm fun {fr O nx η a w'} hk hm' hag' => ?_
 rcases Z5H hmo with h0 | h3
 · have hno : ∀ l' w', Grows (l.setIfInBounds x true) l' → SS (ZB fk) wc l' w' := by
     intro l' w' hg hk
     have h1 := hk x (hxk h0)
     rw [hg x hset] at h1; cases h1
   refine ⟨hno _ _ (fun _ h => h), ?_⟩
   have := ih hk hm' (agree.refl _)
   rw [hd] at this
   exact WP (l0 := l.setIfInBounds x true) (fun l' w' hg _ => hno l' w' hg) _ _ _ _ (fun _ h => h) this
 · have hag2 : agree wc w' := hag.trans (hag' h3)
   refine ⟨fun _ => hag2, ?_⟩
   have := ih hk hm' hag2
   rw [hd] at this
   exact WP (l0 := l.setIfInBounds x true) (fun l' w'' hg hS hk => hS fun k hkt => hk k (hsub k hkt)) _ _ _ _ (fun _ h => h) this
theorem Xj (hT : TabOK M.P M.C.T) (hQ : ∀ c a w, ¬ Q (.panic c) a w) (hs : Region.noSelect ops = true) : ∀ (steps : Plan) {fr : Fr} {O : Hps} {nx : Nat} {K : Fr → Hps → Nat → Prop}, runD M ops.toList steps fr O nx K →
   ∀ {l : Array Bool}, Yj ops (Z0n ops.toList []) steps l = true → Closed .any ops l → ∀ {η : Env} {a : Act} {w : World}, Models M η fr O nx a w → (∀ η fr O nx a w, Models M η fr O nx a w → K fr O nx → Q .normal a w) →
   ∀ {wc : World}, agree wc w → wpH M.fence M.P .any ops Q (SS (ZB steps) wc) steps.depth l a w
 | .nil, fr, O, nx, K, h, l, hl, hc, η, a, w, hm, hq, wc, hag => by
   simp only [Yj, List.isEmpty_iff] at hl
   exact ⟨hl, hq η fr O nx a w hm h⟩
 | .take i m rest, fr, O, nx, K, h, l, hl, hc, η, a, w, hm, hq, wc, hag => by
   have IH := @Xj hT hQ hs rest
   unfold runD oneD at h
   split at h
   · exact h.out.elim
   rename_i o ho
   have ho : ops[i]? = some o := by rw [Jz] at ho; simpa using ho
   simp only [Yj, Bool.and_eq_true] at hl
   obtain ⟨hl1, hl2⟩ := hl
   have hready : i ∈ Region.ready .any ops l := by
     revert hl1
     split <;> intro hl1
     · rw [beq_iff_eq.1 hl1]; exact List.mem_singleton.2 rfl
     · simp only [Bool.and_eq_true] at hl1; simpa using hl1.1.1
     · simp only [Bool.and_eq_true] at hl1; simpa using hl1.1.1
     · rw [beq_iff_eq.1 hl1]; exact List.mem_singleton.2 rfl
   have hc' := hc.set hready
   have hin : i < l.size := by rw [hc.1]; exact (Array.getElem?_eq_some_iff.1 ho).1
   have hset : (l.setIfInBounds i true).getD i false = true := by simp [hin]
   have modes : ∀ {p : Prop}, (m = 0 → p) → (m = 1 → p) → (m = 2 → p) → (3 ≤ m → p) → p := by
     intro p h0 h1 h2 h3
     match m, h0, h1, h2, h3 with
     | 0, h0, _, _, _ => exact h0 rfl
     | 1, _, h1, _, _ => exact h1 rfl
     | 2, _, _, h2, _ => exact h2 rfl
     | m + 3, _, _, _, h3 => exact h3 (by omega)
   have alone : Region.ready .any ops l = [i] → ∀ {a : Act} {w : World}, agree wc w → wpOpIn M.fence 0 M.P ops Q i (fun a' w' => SS (ZB (.take i m rest)) wc (l.setIfInBounds i true) w' ∧ wpH M.fence M.P .any ops Q (SS (ZB (.take i m rest)) wc) rest.depth (l.setIfInBounds i true) a' w') a w →
       wpH M.fence M.P .any ops Q (SS (ZB (.take i m rest)) wc) (Plan.take i m rest).depth l a w := fun hr a w hag h => ZdU hr h
   have afterKill : m = 0 → ∀ {fr : Fr} {O : Hps} {nx : Nat} {η : Env} {a : Act} {w : World}, runD M ops.toList rest fr O nx K → Models M η fr O nx a w →
       SS (ZB (.take i m rest)) wc (l.setIfInBounds i true) w ∧ wpH M.fence M.P .any ops Q (SS (ZB (.take i m rest)) wc) rest.depth (l.setIfInBounds i true) a w := by
     intro h0 fr O nx η a w hrun hm
     subst h0
     rw [Z5G]
     have hno : ∀ l' w', Grows (l.setIfInBounds i true) l' → SS (i :: ZB rest) wc l' w' := by
       intro l' w' hg hk
       have h1 := hk i (List.mem_cons_self ..)
       rw [hg i hset] at h1; cases h1
     exact ⟨hno _ _ (fun _ h => h), WP (l0 := l.setIfInBounds i true) (fun l' w' hg _ => hno l' w' hg) _ _ _ _ (fun _ h => h) (IH hrun hl2 hc' hm hq (agree.refl w))⟩
   have afterElse : m ≠ 0 → ∀ {fr : Fr} {O : Hps} {nx : Nat} {η : Env} {a : Act} {w : World}, runD M ops.toList rest fr O nx K → Models M η fr O nx a w → agree wc w →
       SS (ZB (.take i m rest)) wc (l.setIfInBounds i true) w ∧ wpH M.fence M.P .any ops Q (SS (ZB (.take i m rest)) wc) rest.depth (l.setIfInBounds i true) a w := by
     intro h0 fr O nx η a w hrun hm hag
     rw [Xw h0]
     exact ⟨fun _ => hag, IH hrun hl2 hc' hm hq hag⟩
   have quiet1 : m = 1 → Region.free .any ops l i = true ∧ ∀ k ∈ ZB rest, k ≠ i := by
     intro h1; subst h1
     simp only [Bool.and_eq_true, List.all_eq_true, bne_iff_ne] at hl1
     exact ⟨hl1.1.2, hl1.2⟩
   have quiet2 : m = 2 → Region.free .any ops l i = true ∧ ∀ k ∈ ZB rest, k ≠ i ∧ ((Z0n ops.toList []).getD k 0).testBit i = true := by
     intro h1; subst h1
     simp only [Bool.and_eq_true, List.all_eq_true, bne_iff_ne] at hl1
     exact ⟨hl1.1.2, hl1.2⟩
   have alone0 : m = 0 → Region.ready .any ops l = [i] := by intro h1; subst h1; exact beq_iff_eq.1 hl1
   have alone3 : 3 ≤ m → Region.ready .any ops l = [i] := by
     intro h1
     match m, h1, hl1 with
     | m + 3, _, hl1 => exact beq_iff_eq.1 hl1
   have skip : ∀ {fr' : Fr}, Models M η fr' O nx a w → Region.wanted o (yielded ops a.tmps) ≠ true → (match Vo M.C.N o.dst with | true => putK o.dst YX fr' fun fr => runD M ops.toList rest fr O nx K | false => STOP "slot") →
       wpH M.fence M.P .any ops Q (SS (ZB (.take i m rest)) wc) (Plan.take i m rest).depth l a w := by
     intro fr' hm' hw h
     split at h
     case h_2 => exact h.out.elim
     rename_i hd
     obtain ⟨fr2, h1, h2⟩ := UN hm' hd (VQ η) h
     have hwf : Region.wanted o (yielded ops a.tmps) = false := by simpa using hw
     have op : ∀ {K' : Act → World → Prop}, K' (a.put o.dst undef) w → wpOpIn M.fence 0 M.P ops Q i K' a w := by
       intro K' hk
       unfold wpOpIn
       simp only [ho]
       rw [if_neg hw]; exact ⟨fun f _ => M.all f, hk⟩
     refine modes (fun h0 => alone (alone0 h0) hag (op (afterKill h0 h1 h2))) (fun h0 => ?_) (fun h0 => ?_) (fun h0 => alone (alone3 h0) hag (op (afterElse (by omega) h1 h2 hag)))
     · have hn : m ≠ 0 := by omega
       have := (afterElse hn h1 h2 hag).2
       rw [Xw hn] at this ⊢
       exact VY hQ hs ho hready (quiet1 h0).1 (quiet1 h0).2 hc (N := fun _ => True) (fun _ _ _ _ _ => trivial) (.inr ⟨hwf, rfl⟩) hag this
     · have hn : m ≠ 0 := by omega
       have := (afterElse hn h1 h2 hag).2
       rw [Xw hn] at this ⊢
       exact VY hQ hs ho hready (quiet2 h0).1 (fun k hk => ((quiet2 h0).2 k hk).1) hc (N := fun _ => True) (fun _ _ _ _ _ => trivial) (.inr ⟨hwf, rfl⟩) hag this
   have go : ∀ {fr' : Fr}, Models M η fr' O nx a w → Region.wanted o (yielded ops a.tmps) = true → (ZaG M m o fr' O nx fun v O nx => putK o.dst v fr' fun fr => runD M ops.toList rest fr O nx K) →
       wpH M.fence M.P .any ops Q (SS (ZB (.take i m rest)) wc) (Plan.take i m rest).depth l a w := by
     intro fr' hm' hw h
     have op : ∀ {K' : Act → World → Prop}, o.wpIn M.fence 0 M.P a w K' Q → wpOpIn M.fence 0 M.P ops Q i K' a w := by
       intro K' hk
       unfold wpOpIn
       simp only [ho]
       rw [if_pos hw]; exact hk
     refine modes (fun h0 => ?_) (fun h0 => ?_) (fun h0 => ?_) (fun h0 => ?_)
     · have h : Z3i M o (Ug fr') O nx fun v O nx => putK o.dst v fr' fun fr => runD M ops.toList rest fr O nx K := by subst h0; exact h
       refine alone (alone0 h0) hag (op (WM hT hm' (fun x sv hx => Yc hm'.frame hx) h fun u v O' nx' η' w' hd hp hH hv hk => ?_))
       obtain ⟨fr2, h1, h2⟩ := hm'.put hd hp hH hv hk
       exact afterKill h0 h1 h2
     · have h : Z9h M.C.N (Z2o M.C) o fr' nx fun v => putK o.dst v fr' fun fr => runD M ops.toList rest fr O nx K := by subst h0; exact h
       obtain ⟨hd, u, v, hy, hv, hk⟩ := Z0X (P := M.P) (C' := Z2o M.C) ⟨hT.und, hT.info, hT.zero, hT.zsh, hT.flat, hT.key⟩ (N := fun _ => True) (w := w) hm'.frame (fun w' _ => HeapOK.blind (M := M) hm'.heap.len w') trivial h
       obtain ⟨fr2, h1, h2⟩ := UN hm' hd hv hk
       have hn : m ≠ 0 := by omega
       have := (afterElse hn h1 h2 hag).2
       rw [Xw hn] at this ⊢
       exact VY hQ hs ho hready (quiet1 h0).1 (quiet1 h0).2 hc (N := fun _ => True) (fun _ _ _ _ _ => trivial) (.inl ⟨hw, fun w' h => hy w' h⟩) hag this
     · have h : Z9h M.C.N (Z5E M.C O) o fr' nx fun v => putK o.dst v fr' fun fr => runD M ops.toList rest fr O nx K := by subst h0; exact h
       obtain ⟨hd, u, v, hy, hv, hk⟩ := Z0X (P := M.P) (C' := Z5E M.C O) hT (N := agree w) hm'.frame (fun w' h => hm'.heap.read h) (agree.refl w) h
       obtain ⟨fr2, h1, h2⟩ := UN hm' hd hv hk
       have hn : m ≠ 0 := by omega
       have := IH h1 hl2 hc' h2 hq (agree.refl w)
       rw [Xw hn]
       refine WP (S' := SS (ZB rest) w) (l0 := l) (fun l' w' _ hS hk => hag.trans (hS hk)) _ _ _ _ (fun _ h => h) ?_
       refine VY hQ hs ho hready (quiet2 h0).1 (fun k hk => ((quiet2 h0).2 k hk).1) hc (N := agree w) (fun l' w' hcl hun hS => hS fun k hk => ?_) (.inl ⟨hw, fun w' h => hy w' h⟩) (agree.refl w) this
       cases hlk : l'.getD k false with
       | false => rfl
       | true =>
         have := Z5F hcl k ((quiet2 h0).2 k hk).2 hlk
         rw [WR hun] at this; cases this
     · have h : ADD M o fr' O nx fun v O nx => putK o.dst v fr' fun fr => runD M ops.toList rest fr O nx K := by
         match m, h0, h with
         | m + 3, _, h => exact h
       have hm2 : Models (shMx M O η w) η fr' [] nx a w := ⟨hm'.heap.read (agree.refl w), hm'.size, hm'.nds, hm'.defers, hm'.ro, hm'.frame⟩
       refine alone (alone3 h0) hag (op (WM (M := shMx M O η w) hT hm2 (fun x sv hx => Yc hm'.frame hx) (h.out η w) fun u v O2 nx2 η' w' hd hp hH hv hk => ?_))
       obtain ⟨hJ, hag2⟩ := hm'.heap.join hH
       obtain ⟨fr2, h1, h2⟩ := hm'.put hd hp hJ hv hk
       exact afterElse (by omega) h1 h2 (hag.trans hag2)
   split at h
   · rename_i hg
     exact go hm (VT hg) h
   · rename_i j want hg
     split at h
     · exact h.out.elim
     rename_i s hsl
     split at h
     · rename_i b hb
       have hbv := YF (hm.frame s _ hb)
       have hy := UL hsl hbv
       cases b with
       | true =>
         have h := h.t rfl
         have hm' : Models M η ((s, .bool true) :: fr) O nx a w := hm.know hb rfl rfl hbv
         cases want with
         | true => exact go hm' ((ZE hg).2 hy) h
         | false => exact skip hm' (fun hw => by rw [ZE hg, hy] at hw; cases hw) h
       | false =>
         have h := h.f rfl
         have hm' : Models M η ((s, .bool false) :: fr) O nx a w := hm.know hb rfl rfl hbv
         cases want with
         | false => exact go hm' ((ZE hg).2 hy) h
         | true => exact skip hm' (fun hw => by rw [ZE hg, hy] at hw; cases hw) h
     · rename_i hb
       have hbv := hm.frame s _ hb
       simp only [Den, DenL] at hbv
       obtain ⟨vs, hbv, rfl⟩ := hbv
       exact skip hm (fun hw => by rw [ZE hg] at hw; exact VS hsl (by rw [hbv]; simp) hw) h
     · exact h.out.elim
 | .fork i mi j mj p q, fr, O, nx, K, h, l, hl, hc, η, a, w, hm, hq, wc, hag => by
   simp only [Yj, Bool.and_eq_true, beq_iff_eq] at hl
   obtain ⟨⟨⟨⟨⟨hr, hmi⟩, hmj⟩, hdep⟩, hlp⟩, hlq⟩ := hl
   unfold runD at h
   have hi : i ∈ Region.ready .any ops l := by rw [hr]; simp
   have hj : j ∈ Region.ready .any ops l := by rw [hr]; simp
   refine ⟨fun h0 => (by rw [hr] at h0; cases h0), fun x hx => ?_⟩
   rw [hr] at hx
   rcases List.mem_cons.1 hx with rfl | hx
   · exact arm hT hm hag hc hmi hi (fun h0 => by subst h0; exact JG) (fun k hk => ZL (ZL (List.mem_append_left _ hk))) rfl (fun hk hm' hag => Xj hT hQ hs p hk hlp (hc.set hi) hm' hq hag) h.a
   · have hx := List.mem_singleton.1 hx
     subst hx
     exact arm hT hm hag hc hmj hj (fun h0 => by subst h0; exact ZL JG) (fun k hk => ZL (ZL (List.mem_append_right _ hk))) hdep.symm (fun hk hm' hag => Xj hT hQ hs q hk hlq (hc.set hj) hm' hq hag) h.b
 | .fork3 i mi j mj k mk p q r, fr, O, nx, K, h, l, hl, hc, η, a, w, hm, hq, wc, hag => by
   simp only [Yj, Bool.and_eq_true, beq_iff_eq] at hl
   obtain ⟨⟨⟨⟨⟨⟨⟨⟨hr, hmi⟩, hmj⟩, hmk⟩, hdep⟩, hdep2⟩, hlp⟩, hlq⟩, hlr⟩ := hl
   unfold runD at h
   have hi : i ∈ Region.ready .any ops l := by rw [hr]; simp
   have hj : j ∈ Region.ready .any ops l := by rw [hr]; simp
   have hk' : k ∈ Region.ready .any ops l := by rw [hr]; simp
   refine ⟨fun h0 => (by rw [hr] at h0; cases h0), fun x hx => ?_⟩
   rw [hr] at hx
   rcases List.mem_cons.1 hx with rfl | hx
   · exact arm hT hm hag hc hmi hi (fun h0 => by subst h0; exact JG) (fun k hk => ZL (ZL (ZL (List.mem_append_left _ hk)))) rfl (fun hk hm' hag => Xj hT hQ hs p hk hlp (hc.set hi) hm' hq hag) h.a
   · rcases List.mem_cons.1 hx with rfl | hx
     · exact arm hT hm hag hc hmj hj (fun h0 => by subst h0; exact ZL JG) (fun k hk => ZL (ZL (ZL (List.mem_append_right _ (List.mem_append_left _ hk))))) hdep.symm (fun hk hm' hag => Xj hT hQ hs q hk hlq (hc.set hj) hm' hq hag) h.b.a
     · have hx := List.mem_singleton.1 hx
       subst hx
       exact arm hT hm hag hc hmk hk' (fun h0 => by subst h0; exact ZL (ZL JG)) (fun k hk => ZL (ZL (ZL (List.mem_append_right _ (List.mem_append_right _ hk))))) hdep2.symm (fun hk hm' hag => Xj hT hQ hs r hk hlr (hc.set hk') hm' hq hag) h.b.b
 | .join p, fr, O, nx, K, h, l, hl, hc, η, a, w, hm, hq, wc, hag => by
   unfold runD at h
   obtain ⟨fr', he, h⟩ := h.out
   have hm' : Models M η fr' O nx a w := ⟨hm.heap, hm.size, hm.nds, (by rw [he]; exact hm.defers), hm.ro, fun t sv ht => hm.frame t sv (by rw [← he]; exact ht)⟩
   exact Xj hT hQ hs p h hl hc hm' hq hag
theorem DRAWN.of {M : Mx} (hT : TabOK M.P M.C.T) (hP : M.P.follows .mixedOrders = true) {id : Nat} {ops : Array Oper} {fr : Fr} {O : Hps} {nx : Nat} {Q : Post} (steps : Plan) (hord : Z4v ops steps = true)
   (h : runD M ops.toList steps fr O nx fun fr O nx => Q .normal fr O nx) : DRAWN M id ops fr O nx Q := by
 simp only [Z4v, Bool.and_eq_true, beq_iff_eq] at hord
 obtain ⟨⟨hs, hlen⟩, hord⟩ := hord
 refine ⟨fun η a w hm => wpIn_region_any hP (Z0W (S := SS (ZB steps) { w with drawn := w.drawn + 1 }) _ _ _ _ ?_)⟩
 have hm' : Models M η fr O nx a { w with drawn := w.drawn + 1 } := ⟨hm.heap.drawn (Nat.le_succ _), hm.size, hm.nds, hm.defers, hm.ro, hm.frame⟩
 have hc0 : Closed .any ops (Array.replicate ops.size false) := by
   refine ⟨by simp, fun j o hj hl => ?_⟩
   rcases Nat.lt_or_ge j ops.size with h' | h'
   · simp [h'] at hl
   · simp [h'] at hl
 have key := Xj (Q := Zai M Q) hT (fun c a w hq => hq) hs steps h hord hc0 hm' (fun η fr O nx a w hm hq => ⟨η, fr, O, nx, hm, hq⟩) (agree.refl _)
 rw [hlen] at key
 exact key
end
section
variable {σ : Nat → Nat} {k : Nat}
theorem UO (h : ∀ j, j < k → σ j = j) : ∀ {b : Blk}, Wa k b = true → renB σ b = b
 | .glob g, _ => rfl
 | .loc i, hb => by simp only [Wa, Nat.blt_eq] at hb; simp only [renB, h i hb]
mutual
theorem Vy (h : ∀ j, j < k → σ j = j) : ∀ {v : SV}, Y0 k v = true → ren σ v = v
 | .bool _, _ => rfl
 | .int _ _, _ => rfl
 | .str _, _ => rfl
 | .val _, _ => rfl
 | .any, _ => rfl
 | .nb _, _ => rfl
 | .dfs l, hb => by simp only [Y0] at hb; simp only [ren, YT h hb]
 | .yf b, hb => by simp only [Y0] at hb; simp only [ren, UO h hb]
 | .mp b, hb => by simp only [Y0] at hb; simp only [ren, UO h hb]
 | .ptr b _ _ _, hb => by simp only [Y0] at hb; simp only [ren, UO h hb]
 | .sl b _ _ _ _, hb => by simp only [Y0] at hb; simp only [ren, UO h hb]
 | .agg cs, hb => by simp only [Y0] at hb; simp only [ren, YT h hb]
 | .arr _ rs, hb => by simp only [Y0] at hb; simp only [ren, JH h hb]
 | .tup vs, hb => by simp only [Y0] at hb; simp only [ren, YT h hb]
 | .ifc _ v, hb => by simp only [Y0] at hb; simp only [ren, Vy h hb]
 | .fn _ a b, hb => by simp only [Y0, Bool.and_eq_true] at hb; simp only [ren, YT h hb.1, YT h hb.2]
theorem YT (h : ∀ j, j < k → σ j = j) : ∀ {vs : List SV}, Y9 k vs = true → renL σ vs = vs
 | [], _ => rfl
 | c :: cs, hb => by simp only [Y9, Bool.and_eq_true] at hb; simp only [renL, Vy h hb.1, YT h hb.2]
theorem JH (h : ∀ j, j < k → σ j = j) : ∀ {vs : List (List SV)}, Yn k vs = true → X5 σ vs = vs
 | [], _ => rfl
 | c :: cs, hb => by simp only [Yn, Bool.and_eq_true] at hb; simp only [X5, YT h hb.1, JH h hb.2]
end
theorem Z3N (h : ∀ j, j < k → σ j = j) : ∀ {fr : Fr}, Wb k fr = true → renF σ fr = fr
 | [], _ => rfl
 | (t, v) :: r, hb => by
   simp only [Wb, Bool.and_eq_true] at hb
   simp only [renF, Vy h hb.1, Z3N h hb.2]
theorem Z9m (h : ∀ j, j < k → σ j = j) : ∀ {c : DC}, Z0Q k c = true → renC σ c = c
 | .v s, hb => by simp only [Z0Q] at hb; simp only [renC, Vy h hb]
 | .kid _ rs, hb => by simp only [Z0Q] at hb; simp only [renC, JH h hb]
theorem Z2v (h : ∀ j, j < k → σ j = j) : ∀ {r : List DC}, Je k r = true → Z29 σ r = r
 | [], _ => rfl
 | c :: cs, hb => by simp only [Je, Bool.and_eq_true] at hb; simp only [Z29, Z9m h hb.1, Z2v h hb.2]
theorem Z0Y (h : ∀ j, j < k → σ j = j) : ∀ {r : List (List DC)}, YJ k r = true → J2 σ r = r
 | [], _ => rfl
 | c :: cs, hb => by simp only [YJ, Bool.and_eq_true] at hb; simp only [J2, Z2v h hb.1, Z0Y h hb.2]
theorem UP (h : ∀ j, j < k → σ j = j) : ∀ {hp : Hp}, Z3 k hp = true → renH σ hp = hp
 | .deep _ _ _, hb => by simp only [Z3] at hb; simp only [renH, Z0Y h hb]
 | .box _, hb => by simp only [Z3] at hb; simp only [renH, YT h hb]
 | .rows _ _, hb => by simp only [Z3] at hb; simp only [renH, JH h hb]
 | .siter _ _, _ => rfl
 | .tbl _, _ => rfl
 | .bld _ _ _, _ => rfl
 | .dfr, _ => rfl
 | .lp _ _ fr, hb => by simp only [Z3] at hb; simp only [renH, Z3N h hb]
 | .mp _, hb => by simp only [Z3] at hb; simp only [renH, JH h hb]
theorem Z3O (h : ∀ j, j < k → σ j = j) : ∀ {O : Hps}, Z7 k O = true → renO σ O = O
 | [], _ => rfl
 | (i, hp) :: r, hb => by
   simp only [Z7, Bool.and_eq_true, Nat.blt_eq] at hb
   simp only [renO, h i hb.1, UP h hb.2.1, Z3O h hb.2.2]
end
variable {M : Mx} {fr fr' : Fr} {O O' : Hps} {nx : Nat}
theorem ZaT {k i : Nat} (h : i < k) : (List.range k).getD i 0 = i := by simp [List.getD, h]
theorem Z7d {k nx j : Nat} (h : j < k) : ZS (List.range k) nx j = j := by
 simp only [ZS, List.length_range, if_pos h, ZaT h]
def hereO (O : Hps) : Hps → Prop
 | [] => True
 | (i, h) :: r => match lkp i O with
   | some g => g = h ∧ hereO O r
   | none => False
def hereS (C : Cx) (O : Hps) : Hps → Prop
 | [] => True
 | (i, h) :: r => match JT C O (.loc i) with
   | some g => g = h ∧ hereS C O r
   | none => False
theorem hereO.at {O : Hps} : ∀ {Oc : Hps}, hereO O Oc → ∀ p ∈ Oc, lkp p.1 O = some p.2
 | [], _, p, hp => by cases hp
 | (i, h) :: r, hs, p, hp => by
   simp only [hereO] at hs
   split at hs
   · rename_i g hg
     obtain ⟨rfl, hs⟩ := hs
     rcases List.mem_cons.1 hp with rfl | hp
     · exact hg
     · exact hereO.at hs p hp
   · exact hs.elim
theorem hereS.at {C : Cx} {O : Hps} : ∀ {Sc : Hps}, hereS C O Sc → ∀ p ∈ Sc, JT C O (.loc p.1) = some p.2
 | [], _, p, hp => by cases hp
 | (i, h) :: r, hs, p, hp => by
   simp only [hereS] at hs
   split at hs
   · rename_i g hg
     obtain ⟨rfl, hs⟩ := hs
     rcases List.mem_cons.1 hp with rfl | hp
     · exact hg
     · exact hereS.at hs p hp
   · exact hs.elim
theorem XR {k : Nat} : ∀ {O : Hps}, Z7 k O = true → ∀ p ∈ O, p.1 < k ∧ Z3 k p.2 = true
 | [], _, p, hp => by cases hp
 | (i, h) :: r, hb, p, hp => by
   simp only [Z7, Bool.and_eq_true, Nat.blt_eq] at hb
   rcases List.mem_cons.1 hp with rfl | hp
   · exact ⟨hb.1, hb.2.1⟩
   · exact XR hb.2.2 p hp
theorem YU {k : Nat} : ∀ {O : Hps}, Z7 k O = true → ∀ j ∈ Zo O, j < k
 | [], _, j, hj => by cases hj
 | (i, h) :: r, hb, j, hj => by
   simp only [Z7, Bool.and_eq_true, Nat.blt_eq] at hb
   rcases List.mem_cons.1 hj with rfl | hj
   · exact hb.1
   · exact YU hb.2.2 j hj
theorem Z8i {f : Nat → Nat} : ∀ {l : List Nat}, (∀ j ∈ l, f j = j) → l.map f = l
 | [], _ => rfl
 | x :: l, h => by simp only [List.map_cons, h x (List.mem_cons_self ..), Z8i fun j hj => h j (List.mem_cons_of_mem _ hj)]
theorem Z2w : ∀ {S : Hps} {p : Nat × Hp}, p ∈ S → p.1 ∈ Zo S
 | [], p, hp => by cases hp
 | (i, h) :: S, p, hp => by
   rcases List.mem_cons.1 hp with rfl | hp
   · exact List.mem_cons_self ..
   · exact List.mem_cons_of_mem _ (Z2w hp)
theorem CALL.here {f : FuncId} {args : List SV} {K : SV → Hps → Nat → Prop} {k : Nat} {Oc Sc : Hps} {Q : SV → Hps → Nat → Prop} (sp : Does M.P M.C.T f k args Oc Sc Q)
   (hk : Nat.ble k nx = true) (hb : Y9 k args = true) (hbO : Z7 k Oc = true) (hbS : Z7 k Sc = true) (hO : hereO O Oc) (hS : hereS M.C O Sc)
   (hd : (Zo Sc).all (fun j => !((Zo Oc).any (Nat.beq j))) = true)
   (hQ : ∀ r O' nx', Q r O' nx' → nx' = k ∧ Y0 k r = true ∧ Z7 k O' = true)
   (hK : ∀ r O', Q r O' k → K r (O' ++ X0 (Zo Oc) O) nx) : CALL M f args O nx K := by
 have hk := Nat.le_of_ble_eq_true hk
 have hσ : ∀ j, j < k → ZS (List.range k) nx j = j := fun j hj => Z7d hj
 have hnames : (Zo Oc).map (ZS (List.range k) nx) = Zo Oc := Z8i fun j hj => hσ j (YU hbO j hj)
 refine CALL.of (List.range k) sp (by simp) (fun i hi => by have := List.mem_range.1 hi; omega) (YT hσ hb).symm hb ?_ ?_ ?_ ?_
 · intro p hp
   obtain ⟨h1, h2⟩ := XR hbO p hp
   exact ⟨h1, by rw [hσ _ h1, UP hσ h2]; exact hO.at p hp, h2⟩
 · intro j hj j' hj' he
   rwa [hσ j (YU hbO j hj), hσ j' (YU hbO j' hj')] at he
 · intro p hp
   obtain ⟨h1, h2⟩ := XR hbS p hp
   refine ⟨h1, by rw [hσ _ h1, UP hσ h2]; exact hS.at p hp, h2, ?_⟩
   rw [hnames, hσ _ h1]
   intro hm
   have hj : p.1 ∈ Zo Sc := Z2w hp
   have := List.all_eq_true.1 hd _ hj
   simp only [Bool.not_eq_eq_eq_not, Bool.not_true] at this
   have h3 : (Zo Oc).any (Nat.beq p.1) = true := List.any_eq_true.2 ⟨p.1, hm, X9 _⟩
   rw [h3] at this; cases this
 · intro r O' nx' hq
   obtain ⟨rfl, h1, h2⟩ := hQ r O' nx' hq
   have := hK r O' hq
   rw [Vy hσ h1, Z3O hσ h2, hnames]
   simpa using this
def thereO (σ : Nat → Nat) (O : Hps) : Hps → Prop
 | [] => True
 | (i, h) :: r => match lkp (σ i) O with
   | some g => g = renH σ h ∧ thereO σ O r
   | none => False
def thereS (C : Cx) (σ : Nat → Nat) (O : Hps) : Hps → Prop
 | [] => True
 | (i, h) :: r => match JT C O (.loc (σ i)) with
   | some g => g = renH σ h ∧ thereS C σ O r
   | none => False
theorem thereO.at {σ : Nat → Nat} {O : Hps} : ∀ {Oc : Hps}, thereO σ O Oc → ∀ p ∈ Oc, lkp (σ p.1) O = some (renH σ p.2)
 | [], _, p, hp => by cases hp
 | (i, h) :: r, hs, p, hp => by
   simp only [thereO] at hs
   split at hs
   · rename_i g hg
     obtain ⟨rfl, hs⟩ := hs
     rcases List.mem_cons.1 hp with rfl | hp
     · exact hg
     · exact thereO.at hs p hp
   · exact hs.elim
theorem thereS.at {C : Cx} {σ : Nat → Nat} {O : Hps} : ∀ {Sc : Hps}, thereS C σ O Sc → ∀ p ∈ Sc, JT C O (.loc (σ p.1)) = some (renH σ p.2)
 | [], _, p, hp => by cases hp
 | (i, h) :: r, hs, p, hp => by
   simp only [thereS] at hs
   split at hs
   · rename_i g hg
     obtain ⟨rfl, hs⟩ := hs
     rcases List.mem_cons.1 hp with rfl | hp
     · exact hg
     · exact thereS.at hs p hp
   · exact hs.elim
theorem CALL.at {f : FuncId} {args argsc : List SV} {K : SV → Hps → Nat → Prop} {k : Nat} {Oc Sc : Hps} {Q : SV → Hps → Nat → Prop} (L : List Nat) (sp : Does M.P M.C.T f k argsc Oc Sc Q)
   (hL : L.length = k) (hLn : L.all (fun i => Nat.blt i nx) = true) (ha : args = renL (ZS L nx) argsc) (hb : Y9 k argsc = true) (hbO : Z7 k Oc = true) (hbS : Z7 k Sc = true) (hO : thereO (ZS L nx) O Oc) (hS : thereS M.C (ZS L nx) O Sc)
   (hinj : (Zo Oc).all (fun j => (Zo Oc).all fun j' => !(Nat.beq (ZS L nx j) (ZS L nx j')) || Nat.beq j j') = true)
   (hd : (Zo Sc).all (fun j => !((Zo Oc).any fun j' => Nat.beq (ZS L nx j) (ZS L nx j'))) = true)
   (hK : ∀ r O' nx', Q r O' nx' → K (ren (ZS L nx) r) (renO (ZS L nx) O' ++ X0 ((Zo Oc).map (ZS L nx)) O) (nx + (nx' - k))) : CALL M f args O nx K := by
 refine CALL.of L sp hL (fun i hi => by have := List.all_eq_true.1 hLn i hi; simpa [Nat.blt_eq] using this) ha hb (fun p hp => ?_) (fun j hj j' hj' he => ?_) (fun p hp => ?_) hK
 · obtain ⟨h1, h2⟩ := XR hbO p hp
   exact ⟨h1, hO.at p hp, h2⟩
 · have := List.all_eq_true.1 (List.all_eq_true.1 hinj j hj) j' hj'
   simp only [he, X9, Bool.not_true, Bool.false_or] at this
   exact beq_eq this
 · obtain ⟨h1, h2⟩ := XR hbS p hp
   refine ⟨h1, hS.at p hp, h2, fun hm => ?_⟩
   obtain ⟨j', hj', he⟩ := List.mem_map.1 hm
   have := List.all_eq_true.1 hd _ (Z2w hp)
   simp only [Bool.not_eq_eq_eq_not, Bool.not_true] at this
   have h3 : (Zo Oc).any (fun j' => Nat.beq (ZS L nx p.1) (ZS L nx j')) = true := List.any_eq_true.2 ⟨j', hj', by rw [he]; exact X9 _⟩
   rw [h3] at this; cases this
theorem FIN.at {k : Nat} {r : SV} {Q : SV → Hps → Nat → Prop} (hk : M.η0.length = k) (τ : List Nat) (rc : SV) (Oc : Hps) (hτ : τ.all (fun i => Nat.blt i nx) = true) (hr : r = ren (Ym k τ) rc) (hb : Y0 (k + τ.length) rc = true) (hbO : Z7 (k + τ.length) Oc = true)
   (hO : thereO (Ym k τ) O Oc) (hinj : (Zo Oc).all (fun j => (Zo Oc).all fun j' => !(Nat.beq (Ym k τ j) (Ym k τ j')) || Nat.beq j j') = true) (hQ : Q rc Oc (k + τ.length)) : FIN M O nx r Q := by
 refine FIN.keep hk τ (rc := rc) (Oc := Oc) (fun i hi => by have := List.all_eq_true.1 hτ i hi; simpa [Nat.blt_eq] using this) hr hb (fun p hp => ?_) (fun j hj j' hj' he => ?_) hQ
 · obtain ⟨h1, h2⟩ := XR hbO p hp
   exact ⟨h1, hO.at p hp, h2⟩
 · have := List.all_eq_true.1 (List.all_eq_true.1 hinj j hj) j' hj'
   simp only [he, X9, Bool.not_true, Bool.false_or] at this
   exact beq_eq this
theorem Z8j {G : Prop} {body : Code} {Q : Post} {n : Nat} {X : Type} (P : X → Prop) (frx : X → Fr) (Ox : X → Hps) (h1 : (∀ x, P x → LOOP M body (frx x) (Ox x) n Q) → G) (h2 : ∀ x, P x → LOOP M body (frx x) (Ox x) n Q) : G := h1 h2
theorem CALL.weak {f : FuncId} {args : List SV} {K : SV → Hps → Nat → Prop} {O1 : Hps} {n1 : Nat} (h : ∀ η w, HeapOK M η w O nx → ∃ η', η <+: η' ∧ HeapOK M η' w O1 n1) (hc : CALL M f args O1 n1 K) : CALL M f args O nx K := by
 refine ⟨fun η w vs H hd => ?_⟩
 obtain ⟨η1, hp, H1⟩ := h η w H
 refine (hc.out η1 w vs H1 (DenL.mono hp hd)).mono ?_
 rintro v w' ⟨r, O', nx', η', h1, h2⟩
 exact ⟨r, O', nx', η', hp.trans h1, h2⟩
def Z2x (nx es : Nat) : Nat → List SV → Option (List SV)
 | 0, .val (.slice none 0 0) :: r => some (.sl (.loc nx) 0 es 0 none :: r)
 | j + 1, c :: r => match Z2x nx es j r with | some r => some (c :: r) | none => none
 | _, _ => none
theorem Z5M {nx es : Nat} : ∀ {j : Nat} {row row' : List SV}, Z2x nx es j row = some row' → ∀ (i : Nat) (sv : SV), row'[i]? = some sv → row[i]? = some sv ∨ (row[i]? = some (SV.val (.slice none 0 0)) ∧ sv = SV.sl (.loc nx) 0 es 0 none)
 | 0, [], _, h => by simp [Z2x] at h
 | 0, c :: r, row', h => by
   unfold Z2x at h
   split at h
   · rename_i e1 e2
     injection e2 with e2 e3
     subst e2 e3
     injection h with h; subst h
     intro i sv hi
     cases i with
     | zero => simp at hi; subst hi; exact .inr ⟨rfl, rfl⟩
     | succ i => exact .inl (by simpa using hi)
   · simp_all
   · cases h
 | j + 1, [], _, h => by simp [Z2x] at h
 | j + 1, c :: r, row', h => by
   unfold Z2x at h
   split at h
   · rename_i r1 hr
     injection h with h; subst h
     intro i sv hi
     cases i with
     | zero => left; simpa using hi
     | succ i =>
       have := Z5M hr i sv (by simpa using hi)
       simpa using this
   · cases h
theorem HeapOK.nilCell {η : Env} {w : World} (H : HeapOK M η w O nx) {i j es : Nat} {row row' : List SV} (hi : lkp i O = some (.box row)) (hr : Z2x nx es j row = some row') :
   ∃ η', η <+: η' ∧ HeapOK M η' w ((nx, .rows es []) :: setK i (.box row') O) (nx + 1) := by
 have hpre : η <+: η ++ [none] := List.prefix_append _ _
 have hnew : (η ++ [none])[nx]? = some none := by rw [List.getElem?_append_right (by rw [H.len]; omega), H.len]; simp
 have hold : ∀ {i h}, lkp i O = some h → (η ++ [none])[i]? = η[i]? := fun {i h} hi => by
   rw [List.getElem?_append_left (by rw [H.len]; exact H.lt hi)]
 have hin : ∀ {a h}, lkp a (setK i (.box row') O) = some h → ∃ h0, lkp a O = some h0 ∧ HpSat (η ++ [none]) w true (.loc a) h ∧ ∀ n, feet (η ++ [none]) w (.loc a) h n → feet η w (.loc a) h0 n := by
   intro a h ha
   rw [Y5 _ _ _ _ (by rw [hi]; rfl)] at ha
   split at ha
   · rename_i e
     subst e
     injection ha with ha
     subst ha
     refine ⟨_, hi, ?_, fun n f => H.stands hpre hi (fun _ _ => rfl) (show feet (η ++ [none]) w (.loc _) (.box row) n from f)⟩
     have := (H.own.1 _ _ hi).1.mono hpre
     simp only [HpSat] at this ⊢
     obtain ⟨e, arr, T, fz, h1, h2, h3, h4⟩ := this
     refine ⟨e, arr, T, fz, h1, h2, h3, fun c sv hc => ?_⟩
     rcases Z5M hr c sv hc with hc' | ⟨hc', rfl⟩
     · exact h4 c sv hc'
     · obtain ⟨v, h5, h6, h7⟩ := h4 c _ hc'
       refine ⟨v, h5, h6, ?_⟩
       simp only [Den] at h7 ⊢
       exact .inl ⟨hnew, h7.1, trivial⟩
   · exact ⟨h, ha, (H.own.1 _ _ ha).1.mono hpre, fun n f => H.stands hpre ha (fun _ _ => rfl) f⟩
 refine ⟨η ++ [none], hpre, H.pre.trans hpre, by simp [H.len], ⟨fun a h ha => ?_, fun a b h h' n ha hb hab f f' => ?_⟩, H.fr, H.sok⟩
 · rw [Zi] at ha
   split at ha
   · rename_i e; subst e; injection ha with ha; subst ha
     exact ⟨.inl ⟨hnew, rfl⟩, fun n f => (feet.none (b := .loc _) hnew f).elim⟩
   · obtain ⟨h0, h1, h2, h3⟩ := hin ha
     exact ⟨h2, fun n f => (H.own.1 a h0 h1).2 n (h3 n f)⟩
 · rw [Zi] at ha hb
   split at ha
   · rename_i e1; subst e1; exact (feet.none (b := .loc _) hnew f).elim
   · split at hb
     · rename_i e2; subst e2; exact (feet.none (b := .loc _) hnew f').elim
     · obtain ⟨h0, h1, _, h3⟩ := hin ha
       obtain ⟨h0', h1', _, h3'⟩ := hin hb
       exact H.own.2 a b h0 h0' n h1 h1' hab (h3 n f) (h3' n f')
theorem CALL.nilCell {f : FuncId} {args : List SV} {K : SV → Hps → Nat → Prop} (i j es : Nat) {row row' : List SV} (hi : lkp i O = some (.box row)) (hr : Z2x nx es j row = some row') (hc : CALL M f args ((nx, .rows es []) :: setK i (.box row') O) (nx + 1) K) : CALL M f args O nx K :=
 CALL.weak (fun η w H => H.nilCell hi hr) hc
theorem FIN.here {k : Nat} {r rc : SV} {Oc : Hps} {Q : SV → Hps → Nat → Prop} (hk : M.η0.length = k) (hr : r = rc) (hb : Y0 k rc = true) (hbO : Z7 k Oc = true) (hO : hereO O Oc) (hQ : Q rc Oc k) : FIN M O nx r Q := by
 have hσ : ∀ j, j < k → Ym k [] j = j := fun j hj => by simp [Ym, hj]
 refine FIN.keep hk [] (rc := rc) (Oc := Oc) (fun i hi => by cases hi) (by rw [Vy hσ hb]; exact hr) hb ?_ ?_ hQ
 · intro p hp
   obtain ⟨h1, h2⟩ := XR hbO p hp
   exact ⟨h1, by rw [hσ _ h1, UP hσ h2]; exact hO.at p hp, h2⟩
 · intro j hj j' hj' he
   rwa [hσ j (YU hbO j hj), hσ j' (YU hbO j' hj')] at he
def Loose (k : Nat) : List SV → List SV → Prop
 | _, [] => True
 | [], _ :: _ => False
 | c :: cs, c' :: cs' => (c' = .any ∨ (c' = c ∧ Y0 k c = true)) ∧ Loose k cs cs'
theorem Loose.get {k : Nat} : ∀ {row row' : List SV}, Loose k row row' → ∀ (j : Nat) (sv : SV), row'[j]? = some sv → ∃ c, row[j]? = some c ∧ (sv = .any ∨ (sv = c ∧ Y0 k c = true))
 | _, [], _, j, sv, h => by simp at h
 | [], _ :: _, h, _, _, _ => h.elim
 | c :: cs, c' :: cs', h, 0, sv, hj => by simp at hj; subst hj; exact ⟨c, rfl, h.1⟩
 | c :: cs, c' :: cs', h, j + 1, sv, hj => by simp at hj; obtain ⟨d, h1, h2⟩ := Loose.get h.2 j sv hj; exact ⟨d, by simpa using h1, h2⟩
theorem FIN.loose {k : Nat} {r : SV} {Q : SV → Hps → Nat → Prop} (hk : M.η0.length = k) (i : Nat) (row' : List SV) {row : List SV} (hr : plain r = true) (hO : lkp i O = some (.box row)) (hi : Nat.blt i k = true) (hl : Loose k row row') (hQ : Q r [(i, .box row')] k) : FIN M O nx r Q := by
 refine ⟨fun η w v H hd => ⟨r, [(i, .box row')], k, M.η0, hQ, List.prefix_rfl, ?_, ?_⟩⟩
 · have hi : i < k := by simpa [Nat.blt_eq] using hi
   have hget : ∀ j, j < k → η[j]? = M.η0[j]? := fun j hj => by
     obtain ⟨t, ht⟩ := H.pre
     rw [← ht, List.getElem?_append_left (by omega)]
   have hb : Bwd η M.η0 id k := fun j x hj hx => by rw [← hget j hj]; exact hx
   have hsat : HpSat M.η0 w true (.loc i) (.box row') := by
     have := (H.own.1 i _ hO).1
     simp only [HpSat] at this ⊢
     obtain ⟨e, arr, T, fz, h1, h2, h3, h4⟩ := this
     refine ⟨e, arr, T, fz, by simp only [Env.get] at h1 ⊢; rw [← hget i hi]; exact h1, h2, h3, fun j sv hj => ?_⟩
     obtain ⟨c, h5, h6⟩ := hl.get j sv hj
     obtain ⟨u, h7, h8, h9⟩ := h4 j c h5
     refine ⟨u, h7, h8, ?_⟩
     rcases h6 with rfl | ⟨rfl, h6⟩
     · simp only [Den]
     · exact Den.unren hb h6 (by rw [Z2r (σ := id) (fun _ => rfl)]; exact h9)
   refine ⟨List.prefix_rfl, hk, ⟨fun j h hj => ?_, fun a b h h' n ha hb' hab => ?_⟩, H.fr, H.sok⟩
   · rw [Zi] at hj
     split at hj
     · rename_i e; subst e; injection hj with hj; subst hj
       exact ⟨hsat, fun n f => (H.own.1 _ _ hO).2 n ((show feet M.η0 w (.loc _) (.box row) n from f).mono H.pre)⟩
     · simp [lkp] at hj
   · rw [Zi] at ha hb'
     split at ha
     · split at hb'
       · rename_i e1 e2; exact (hab (e1.trans e2.symm)).elim
       · simp [lkp] at hb'
     · simp [lkp] at ha
 · have hb : Bwd η M.η0 (fun i => i) 0 := fun i x hi => by omega
   exact Den.unren hb (XK 0 hr) (by rw [J3 _ hr]; exact hd)
def anyN : Nat → List SV
 | 0 => []
 | n + 1 => .any :: anyN n
theorem Z8k {η η' : Env} : ∀ {cs : List SV} {vs : List Value}, DenL η cs vs → DenL η' (anyN cs.length) vs
 | [], vs, h => by simpa [DenL, anyN] using h
 | c :: cs, vs, h => by
   simp only [DenL, anyN, List.length_cons] at h ⊢
   obtain ⟨u, us, rfl, _, h⟩ := h
   exact ⟨u, us, rfl, by simp only [Den], Z8k h⟩
theorem FIN.anyA (n : Nat) {k : Nat} {r : SV} {cs vs : List SV} {Q : SV → Hps → Nat → Prop} (hk : M.η0.length = k) (hr : r = .tup (.agg cs :: vs)) (hn : W7 cs n = true) (hv : Yz vs = true) (hQ : Q (.tup (.agg (anyN n) :: vs)) [] k) : FIN M O nx r Q := by
 have hn : cs.length = n := by
   clear hr hQ
   induction n generalizing cs with
   | zero => cases cs with
     | nil => rfl
     | cons a l => simp [W7] at hn
   | succ n ih => cases cs with
     | nil => simp [W7] at hn
     | cons a l => simp only [W7] at hn; simp [ih hn]
 refine ⟨fun η w v H hd => ⟨.tup (.agg (anyN n) :: vs), [], k, M.η0, hQ, List.prefix_rfl, ⟨List.prefix_rfl, hk, ⟨fun i h hi => by simp [lkp] at hi, fun i j h h' n hi => by simp [lkp] at hi⟩, H.fr, H.sok⟩, ?_⟩⟩
 rw [hr] at hd
 simp only [Den, DenL] at hd ⊢
 obtain ⟨us, h1, u, us', h2, ⟨xs, h5, h6, h7⟩, h4⟩ := hd
 refine ⟨us, h1, u, us', h2, ⟨xs, h5, by rw [← hn]; exact Z8k h6, h7⟩, ?_⟩
 have hb : Bwd η M.η0 (fun i => i) 0 := fun i x hi => by omega
 exact DenL.unren hb (ZF 0 hv) (by rw [ZN _ hv]; exact h4)
class PlF {α : Type} (f : α → List SV) : Prop where
 h : ∀ x, Yz (f x) = true
class Pl (rs : List (List SV)) : Prop where
 h : Zz rs = true
class PlD (rs : List (List DC)) : Prop where
 h : Xp rs = true
instance {α : Type} {f : α → List SV} [p : PlF f] {l : List α} : Pl (l.map f) := ⟨Yi f p.h l⟩
instance : PlF bytesRow := ⟨fun _ => rfl⟩
theorem ZG {m i : Nat} {h : Hp} {O : Hps} (h1 : Nat.blt i m = true) (h2 : Z3 m h = true) (h3 : Z7 m O = true) : Z7 m ((i, h) :: O) = true := by simp only [Z7, h1, h2, h3, Bool.and_self]
theorem X1 {k : IntKind} {a b : Int} (h : a = b) : Hp.box [.int k a] = Hp.box [.int k b] := by rw [h]
theorem Jj {b : Blk} {r es n n' : Nat} {lim : Option Nat} (h : n = n') : Hp.box [.sl b r es n lim] = Hp.box [.sl b r es n' lim] := by rw [h]
section
variable {m es : Nat} {σ τ : Nat → Nat} {rs : List (List SV)} {ds : List (List DC)} {mp : Bool}
theorem Z5N [p : Pl rs] : Z3 m (.rows es rs) = true := Xi m (h := .rows es rs) p.h
theorem Z5O [p : Pl rs] : Z3 m (.mp rs) = true := Xi m (h := .mp rs) p.h
theorem Z2y [p : PlD ds] : Z3 m (.deep mp es ds) = true := Xi m (h := .deep mp es ds) p.h
theorem renR [p : Pl rs] : renH σ (.rows es rs) = .rows es rs := Zk σ (h := .rows es rs) p.h
theorem renM [p : Pl rs] : renH σ (.mp rs) = .mp rs := Zk σ (h := .mp rs) p.h
theorem renDp [p : PlD ds] : renH σ (.deep mp es ds) = .deep mp es ds := Zk σ (h := .deep mp es ds) p.h
theorem ZaU [p : Pl rs] : renH σ (.rows es rs) = renH τ (.rows es rs) := renR.trans renR.symm
theorem ZaV [p : Pl rs] : renH σ (.mp rs) = renH τ (.mp rs) := renM.trans renM.symm
theorem ZaW [p : PlD ds] : renH σ (.deep mp es ds) = renH τ (.deep mp es ds) := renDp.trans renDp.symm
end
section
variable {M : Mx} {fr fr' : Fr} {O O' : Hps} {nx : Nat}
theorem CALL.aA {f : FuncId} {args argsc : List SV} {K : SV → Hps → Nat → Prop} {k : Nat} {Oc Sc : Hps} {Q : SV → Hps → Nat → Prop} (L : List Nat) (sp : Does M.P M.C.T f k argsc Oc Sc Q)
   (hK : ∀ r O' nx', Q r O' nx' → K (ren (ZS L nx) r) (renO (ZS L nx) O' ++ X0 ((Zo Oc).map (ZS L nx)) O) (nx + (nx' - k)))
   (hL : L.length = k := by exact rfl) (hLn : L.all (fun i => Nat.blt i nx) = true := by exact rfl) (ha : args = renL (ZS L nx) argsc := by exact rfl) (hb : Y9 k argsc = true := by exact rfl)
   (hbO : Z7 k Oc = true := by (repeat' (first | (refine ZG rfl ?_ ?_) | exact Z5N | exact Z5O | exact Z2y | rfl))) (hbS : Z7 k Sc = true := by (repeat' (first | (refine ZG rfl ?_ ?_) | exact Z5N | exact Z5O | exact Z2y | rfl))) (hO : thereO (ZS L nx) O Oc := by (repeat' (first | exact trivial | (with_reducible rfl) | exact renR.symm | exact ZaU | exact renM.symm | exact ZaV | exact renDp.symm | exact ZaW | (exact Za Pl.h (by simp [ZK, List.take_of_length_le] <;> rfl)) | exact rfl | ((conv => whnf); refine ⟨?_, ?_⟩)))) (hS : thereS M.C (ZS L nx) O Sc := by (repeat' (first | exact trivial | (with_reducible rfl) | exact renR.symm | exact ZaU | exact renM.symm | exact ZaV | exact renDp.symm | exact ZaW | (exact Za Pl.h (by simp [ZK, List.take_of_length_le] <;> rfl)) | exact rfl | ((conv => whnf); refine ⟨?_, ?_⟩))))
   (hinj : (Zo Oc).all (fun j => (Zo Oc).all fun j' => !(Nat.beq (ZS L nx j) (ZS L nx j')) || Nat.beq j j') = true := by exact rfl)
   (hd : (Zo Sc).all (fun j => !((Zo Oc).any fun j' => Nat.beq (ZS L nx j) (ZS L nx j'))) = true := by exact rfl) : CALL M f args O nx K :=
 CALL.at L sp hL hLn ha hb hbO hbS hO hS hinj hd hK
theorem FIN.aA {k : Nat} {r : SV} {Q : SV → Hps → Nat → Prop} (hk : M.η0.length = k) (τ : List Nat) (rc : SV) (Oc : Hps) (hQ : Q rc Oc (k + τ.length)) (hτ : τ.all (fun i => Nat.blt i nx) = true := by exact rfl) (hr : r = ren (Ym k τ) rc := by exact rfl) (hb : Y0 (k + τ.length) rc = true := by exact rfl) (hbO : Z7 (k + τ.length) Oc = true := by (repeat' (first | (refine ZG rfl ?_ ?_) | exact Z5N | exact Z5O | exact Z2y | rfl)))
   (hO : thereO (Ym k τ) O Oc := by (repeat' (first | exact trivial | (with_reducible rfl) | exact renR.symm | exact ZaU | exact renM.symm | exact ZaV | exact renDp.symm | exact ZaW | (exact Za Pl.h (by simp [ZK, List.take_of_length_le] <;> rfl)) | exact rfl | ((conv => whnf); refine ⟨?_, ?_⟩)))) (hinj : (Zo Oc).all (fun j => (Zo Oc).all fun j' => !(Nat.beq (Ym k τ j) (Ym k τ j')) || Nat.beq j j') = true := by exact rfl) : FIN M O nx r Q :=
 FIN.at hk τ rc Oc hτ hr hb hbO hO hinj hQ
theorem GOES.cA {k m : Nat} (hk : M.η0.length = k) (hkm : Nat.ble k m = true := by exact rfl) (hmn : Nat.ble m nx = true := by exact rfl) (hbf : VZ m fr' = true := by exact rfl) (hbo : Z7 m O' = true := by (repeat' (first | (refine ZG rfl ?_ ?_) | exact Z5N | exact Z5O | exact Z2y | rfl)))
   (hf : cutK fr fr' := by (repeat' (first | (with_reducible rfl) | exact trivial | (exact Zu rfl (by first | omega | (simp (disch := omega) only [lnB, Z5, Z9] <;> omega) | (simp; done) | (simp <;> omega))) | (exact congrArg (SV.int _) (by first | omega | (simp (disch := omega) only [lnB, Z5, Z9] <;> omega) | (simp; done) | (simp <;> omega))) | (exact X1 (by first | omega | (simp (disch := omega) only [lnB, Z5, Z9] <;> omega) | (simp; done) | (simp <;> omega))) | (exact Jj (by first | omega | (simp (disch := omega) only [lnB, Z5, Z9] <;> omega) | (simp; done) | (simp <;> omega))) | exact renR | exact renM | exact renDp | (with_reducible assumption) | (exact congrArg (Hp.rows _) (by simp [List.take_of_length_le] <;> rfl)) | ((conv => whnf); refine ⟨?_, ?_⟩) | (simp; done) | rfl))) (hO : ZaL O O' := by (repeat' (first | (with_reducible rfl) | exact trivial | (exact Zu rfl (by first | omega | (simp (disch := omega) only [lnB, Z5, Z9] <;> omega) | (simp; done) | (simp <;> omega))) | (exact congrArg (SV.int _) (by first | omega | (simp (disch := omega) only [lnB, Z5, Z9] <;> omega) | (simp; done) | (simp <;> omega))) | (exact X1 (by first | omega | (simp (disch := omega) only [lnB, Z5, Z9] <;> omega) | (simp; done) | (simp <;> omega))) | (exact Jj (by first | omega | (simp (disch := omega) only [lnB, Z5, Z9] <;> omega) | (simp; done) | (simp <;> omega))) | exact renR | exact renM | exact renDp | (with_reducible assumption) | (exact congrArg (Hp.rows _) (by simp [List.take_of_length_le] <;> rfl)) | ((conv => whnf); refine ⟨?_, ?_⟩) | (simp; done) | rfl))) (hd : Z0S fr fr' = true := by exact rfl) (hro : Z0T M.C.ro id m = true := by exact rfl) : GOES M fr O nx fr' O' m := GOES.cutting hk hkm hmn hbf hbo hf hO hd hro
theorem GOES.kA {k : Nat} (hk : M.η0.length = k) (τ : List Nat) (hτ : τ.all (fun i => Nat.blt i nx) = true := by exact rfl)
   (hn : (Zo O').all (fun j => (Zo O').all fun j' => !(Nat.beq (Ym k τ j) (Ym k τ j')) || Nat.beq j j') = true := by exact rfl)
   (hbf : VZ (k + τ.length) fr' = true := by exact rfl) (hbo : Z7 (k + τ.length) O' = true := by (repeat' (first | (refine ZG rfl ?_ ?_) | exact Z5N | exact Z5O | exact Z2y | rfl))) (hf : subK (Ym k τ) fr fr' := by (repeat' (first | (with_reducible rfl) | exact trivial | exact renR.symm | exact ZaU | exact renM.symm | exact ZaV | exact renDp.symm | exact ZaW | (exact Zu rfl (by first | omega | (simp (disch := omega) only [lnB, Z5, Z9] <;> omega) | (simp; done) | (simp <;> omega))) | (exact congrArg (SV.int _) (by first | omega | (simp (disch := omega) only [lnB, Z5, Z9] <;> omega) | (simp; done) | (simp <;> omega))) | (exact X1 (by first | omega | (simp (disch := omega) only [lnB, Z5, Z9] <;> omega) | (simp; done) | (simp <;> omega))) | (exact Jj (by first | omega | (simp (disch := omega) only [lnB, Z5, Z9] <;> omega) | (simp; done) | (simp <;> omega))) | (with_reducible assumption) | (exact Za Pl.h (by simp [ZK, List.take_of_length_le] <;> rfl)) | ((conv => whnf); refine ⟨?_, ?_⟩) | (simp only [ren, renB]; done) | rfl))) (hO : ZaQ (Ym k τ) O O' := by (repeat' (first | (with_reducible rfl) | exact trivial | exact renR.symm | exact ZaU | exact renM.symm | exact ZaV | exact renDp.symm | exact ZaW | (exact Zu rfl (by first | omega | (simp (disch := omega) only [lnB, Z5, Z9] <;> omega) | (simp; done) | (simp <;> omega))) | (exact congrArg (SV.int _) (by first | omega | (simp (disch := omega) only [lnB, Z5, Z9] <;> omega) | (simp; done) | (simp <;> omega))) | (exact X1 (by first | omega | (simp (disch := omega) only [lnB, Z5, Z9] <;> omega) | (simp; done) | (simp <;> omega))) | (exact Jj (by first | omega | (simp (disch := omega) only [lnB, Z5, Z9] <;> omega) | (simp; done) | (simp <;> omega))) | (with_reducible assumption) | (exact Za Pl.h (by simp [ZK, List.take_of_length_le] <;> rfl)) | ((conv => whnf); refine ⟨?_, ?_⟩) | (simp only [ren, renB]; done) | rfl))) (hd : Z0S fr fr' = true := by exact rfl) (hro : Z0T M.C.ro (Ym k τ) (k + τ.length) = true := by exact rfl) : GOES M fr O nx fr' O' (k + τ.length) :=
 GOES.keeping hk τ hτ hn hbf hbo hf hO hd hro
end
theorem AU {P Q : Prop} (k : Q) (h : Q → P := by first | (with_reducible exact IF.tt) | (with_reducible exact IF.ff) | exact NEED.au | (with_reducible exact GET.at rfl) | (with_reducible exact GETG.at rfl)) : P := h k
theorem IW {J : Type} {b : Bool} {A B : J → Prop} {j : J} {p q : Prop} (x : p → A j) (y : q → B j)
   (hp : b = true → p := by (intro h; first | (simp (disch := omega) only [hsB, hsC, lnB, Z5, Z9, simprocAttr] at h; exact h) | (exact (show (0 : Nat) = 1 by simp (disch := omega) only [hsB, hsC, lnB, Z5, Z9, simprocAttr] at h)) | exact h))
   (hq : b = false → q := by (intro h; first | (simp (disch := omega) only [hsB, hsC, lnB, Z5, Z9, simprocAttr] at h; exact h) | (exact (show (0 : Nat) = 1 by simp (disch := omega) only [hsB, hsC, lnB, Z5, Z9, simprocAttr] at h)) | exact h)) : IF b A B j := ⟨fun h => x (hp h), fun h => y (hq h)⟩
theorem Ze4 {b : Blk} {r es len : Nat} {lim : Option Nat} (h : 0 < len) : Det (.sl b r es len lim) := by
 intro η u u' h1 h2
 simp only [Den] at h1 h2
 rcases h1 with ⟨_, _, h0⟩ | ⟨e, o, g1, rfl, g3, g4, g5⟩
 · omega
 rcases h2 with ⟨_, _, h0⟩ | ⟨e', o', k1, rfl, k3, k4, k5⟩
 · omega
 rw [g1] at k1
 injection k1 with k1
 injection k1 with k1
 subst k1
 rw [g5 (.inl (by omega)), k5 (.inl (by omega))]
theorem AD {P Q : Prop} (k : Q) (h : Q → P := by first | exact fun k => NEED.mk (Det.of rfl) k | exact fun k => NEED.mk (Ze4 (by omega)) k) : P := h k
def bitF (d i : Nat) : Bool := Nat.beq (Nat.land (Nat.shiftRight d i) 1) 1
theorem ZaX (d i : Nat) : bitF d i = d.testBit i := by
 have h : d.testBit i = decide ((d >>> i) % 2 = 1) := by rw [Nat.testBit_eq_decide_div_mod_eq, Nat.shiftRight_eq_div_pow]
 rw [h]
 have e : Nat.land (Nat.shiftRight d i) 1 = (d >>> i) % 2 := Nat.and_one_is_mod _
 unfold bitF
 rw [e, Bool.eq_iff_iff, decide_eq_true_iff, Nat.beq_eq]
def Z9n : List Edge → Nat → Nat
 | [], s => s
 | e :: r, s => match Region.binds .any e with
   | true => Z9n r (Nat.lor s (Nat.pow 2 e.on))
   | false => Z9n r s
def Z0Z (o : Oper) : Nat := Z9n o.after.toList 0
theorem Z0o : ∀ (r : List Edge) (s k : Nat), (Z9n r s).testBit k = true ↔ s.testBit k = true ∨ ∃ e ∈ r, Region.binds .any e = true ∧ e.on = k
 | [], s, k => by simp [Z9n]
 | e :: r, s, k => by
   unfold Z9n
   split
   · rename_i hb
     rw [Z0o r]
     have e1 : (Nat.lor s (Nat.pow 2 e.on)).testBit k = (s.testBit k || decide (e.on = k)) := by
       show (s ||| 2 ^ e.on).testBit k = _
       rw [Nat.testBit_or, Nat.testBit_two_pow]
     rw [e1, Bool.or_eq_true, decide_eq_true_iff]
     simp only [List.mem_cons, exists_eq_or_imp, hb, true_and, or_assoc]
   · rename_i hb
     rw [Z0o r]
     simp only [List.mem_cons, exists_eq_or_imp, hb, Bool.false_eq_true, false_and, false_or]
theorem Wv (o : Oper) (k : Nat) : (Z0Z o).testBit k = true ↔ ∃ e ∈ o.after, Region.binds .any e = true ∧ e.on = k := by
 unfold Z0Z; rw [Z0o]; simp
structure Rep (ops : Array Oper) (l : Array Bool) (d : Nat) : Prop where
 size : l.size = ops.size
 at' : ∀ j, l.getD j false = d.testBit j
theorem Rep.atT {ops : Array Oper} {l : Array Bool} {d j : Nat} (h : Rep ops l d) (hj : j < ops.size) : l.getD j true = d.testBit j := by
 rw [← h.at' j]; simp [Array.getD, h.size, hj]
theorem Rep.set {ops : Array Oper} {l : Array Bool} {d i : Nat} (h : Rep ops l d) (hi : i < ops.size) : Rep ops (l.setIfInBounds i true) (Nat.lor d (Nat.pow 2 i)) := by
 refine ⟨by simp [h.size], fun j => ?_⟩
 show _ = (d ||| 2 ^ i).testBit j
 rw [Nat.testBit_or, Nat.testBit_two_pow]
 by_cases hij : i = j
 · subst hij
   have := h.size
   simp [Array.getD, this, hi]
 · rw [getD_set_ne false hij, h.at' j]; simp [hij]
theorem Zcs {ops : Array Oper} {l : Array Bool} {d : Nat} (h : Rep ops l d) (o : Oper) : Nat.beq (Nat.land (Z0Z o) d) (Z0Z o) = o.after.all fun e => !Region.binds .any e || l.getD e.on false := by
 rw [Bool.eq_iff_iff, Nat.beq_eq, Array.all_eq_true_iff_forall_mem]
 constructor
 · intro he e hm
   rw [h.at' e.on]
   by_cases hb : Region.binds .any e = true
   · have h1 := (Wv o e.on).2 ⟨e, hm, hb, rfl⟩
     rw [← he] at h1
     have h2 : ((Z0Z o) &&& d).testBit e.on = true := h1
     rw [Nat.testBit_and, Bool.and_eq_true] at h2
     simp [h2.2]
   · simp [hb]
 · intro hall
   refine Nat.eq_of_testBit_eq fun k => ?_
   show ((Z0Z o) &&& d).testBit k = _
   rw [Nat.testBit_and]
   cases hk : (Z0Z o).testBit k with
   | false => rfl
   | true =>
     obtain ⟨e, hm, hb, rfl⟩ := (Wv o k).1 hk
     have := hall e hm
     rw [hb, h.at' e.on] at this
     simpa using this
abbrev Ent3 := Nat × Nat × Oper
def tabF : List Oper → Nat → List Ent3
 | [], _ => []
 | o :: r, n => (n, Z0Z o, o) :: tabF r (Nat.succ n)
def V1 (d : Nat) : List Ent3 → List Nat
 | [] => []
 | (i, nd, _) :: r => match bitF d i with
   | true => V1 d r
   | false => match Nat.beq (Nat.land nd d) nd with
     | true => i :: V1 d r
     | false => V1 d r
def Z4C (ops : Array Oper) (oi : Oper) (i d : Nat) : List Ent3 → Bool
 | [] => true
 | (j, nd, oj) :: r => match Nat.beq j i with
   | true => Z4C ops oi i d r
   | false => match bitF d j with
     | true => Z4C ops oi i d r
     | false => match bitF nd i with
       | true => Z4C ops oi i d r
       | false => match oi.apart ops oj with
         | true => Z4C ops oi i d r
         | false => false
theorem Z5P {ops : Array Oper} {l : Array Bool} {d : Nat} (h : Rep ops l d) : ∀ (r : List Oper) (n : Nat), n + r.length = ops.size → (∀ k, k < r.length → ops[n + k]? = r[k]?) →
   V1 d (tabF r n) = (List.range' n r.length).filter fun i => !l.getD i true && ((ops[i]?).map (·.after.all fun e => !Region.binds .any e || l.getD e.on false)).getD false
 | [], n, _, _ => rfl
 | o :: r, n, hn, hk => by
   have h0 : ops[n]? = some o := by have := hk 0 (by simp); simpa using this
   have hlt : n < ops.size := by simp at hn; omega
   have ih := Z5P h r (n + 1) (by simp at hn; omega) fun k hk' => by
     have := hk (k + 1) (by simp; omega)
     rw [List.getElem?_cons_succ] at this
     rw [← this]; congr 1; omega
   have e1 : (List.range' n (o :: r).length) = n :: List.range' (n + 1) r.length := by rw [List.length_cons, List.range'_succ]
   rw [e1, List.filter_cons, h0, ← ih]
   simp only [tabF, V1, ZaX, Zcs h o, h.atT hlt, Option.map_some, Option.getD_some]
   cases d.testBit n <;> cases (o.after.all fun e => !Region.binds .any e || l.getD e.on false) <;> simp
theorem U2 {ops : Array Oper} {l : Array Bool} {d : Nat} (h : Rep ops l d) : V1 d (tabF ops.toList 0) = Region.ready .any ops l := by
 rw [Z5P h ops.toList 0 (by simp) (fun k _ => by simp)]
 unfold Region.ready
 rw [List.range_eq_range']; simp
theorem Z3P {ops : Array Oper} {l : Array Bool} {d i : Nat} {oi : Oper} (h : Rep ops l d) : ∀ (r : List Oper) (n : Nat), n + r.length = ops.size → Z4C ops oi i d (tabF r n) = true →
   ∀ k (hk : k < r.length), (n + k == i || l.getD (n + k) true || r[k].after.any (fun e => Region.binds .any e && e.on == i) || oi.apart ops r[k]) = true
 | [], n, _, _, k, hk => by simp at hk
 | o :: r, n, hn, hf, k, hk => by
   have hlt : n < ops.size := by simp at hn; omega
   simp only [tabF, Z4C, ZaX] at hf
   have hstep : Z4C ops oi i d (tabF r (n + 1)) = true ∧ (n == i || l.getD n true || o.after.any (fun e => Region.binds .any e && e.on == i) || oi.apart ops o) = true := by
     split at hf
     · rename_i hb; exact ⟨hf, by simp [Nat.eq_of_beq_eq_true hb]⟩
     · split at hf
       · rename_i hb; exact ⟨hf, by rw [h.atT hlt, hb]; simp⟩
       · split at hf
         · rename_i hb
           refine ⟨hf, ?_⟩
           obtain ⟨e, hm, he, hon⟩ := (Wv o i).1 hb
           have : o.after.any (fun e => Region.binds .any e && e.on == i) = true := by rw [Array.any_eq_true']; exact ⟨e, hm, by simp [he, hon]⟩
           rw [this]; simp
         · split at hf
           · rename_i hb; exact ⟨hf, by rw [hb]; simp⟩
           · cases hf
   cases k with
   | zero => simpa using hstep.2
   | succ k =>
     have := Z3P h r (n + 1) (by simp at hn; omega) hstep.1 k (by simpa using hk)
     rw [show n + (k + 1) = n + 1 + k by omega]
     simpa using this
theorem Ze5 {ops : Array Oper} {l : Array Bool} {d i : Nat} {oi : Oper} (h : Rep ops l d) (hi : ops[i]? = some oi) (hf : Z4C ops oi i d (tabF ops.toList 0) = true) : Region.free .any ops l i = true := by
 unfold Region.free
 rw [hi]
 simp only
 rw [List.all_eq_true]
 intro j hj
 rw [List.mem_range] at hj
 have := Z3P h ops.toList 0 (by simp) hf j (by simpa using hj)
 rw [Nat.zero_add] at this
 have e : ops[j]? = some ops.toList[j] := by simp [hj]
 rw [e]
 simp only [Bool.or_eq_true] at this ⊢
 rcases this with ((h1 | h1) | h1) | h1
 · exact .inl (.inl h1)
 · exact .inl (.inr h1)
 · exact .inr (.inl h1)
 · exact .inr (.inr h1)
def Z8l (ops : Array Oper) (t : List Ent3) (i d : Nat) : Bool := match nth ops.toList i with | some oi => Z4C ops oi i d t | none => false
def one (i : Nat) : List Nat → Bool
 | [a] => Nat.beq a i
 | _ => false
def two (i j : Nat) : List Nat → Bool
 | [a, b] => match Nat.beq a i with | true => Nat.beq b j | false => false
 | _ => false
def Ze6 (i j k : Nat) : List Nat → Bool
 | [a, b, c] => match Nat.beq a i with | true => (match Nat.beq b j with | true => Nat.beq c k | false => false) | false => false
 | _ => false
theorem Zdr {i : Nat} {l : List Nat} (h : one i l = true) : l = [i] := by
 unfold one at h
 split at h
 · rw [Nat.eq_of_beq_eq_true h]
 · cases h
theorem Zf0 {i j : Nat} {l : List Nat} (h : two i j l = true) : l = [i, j] := by
 unfold two at h
 split at h
 · split at h
   · rename_i h1; rw [Nat.eq_of_beq_eq_true h1, Nat.eq_of_beq_eq_true h]
   · cases h
 · cases h
theorem Zct {i j k : Nat} {l : List Nat} (h : Ze6 i j k l = true) : l = [i, j, k] := by
 unfold Ze6 at h
 split at h
 · split at h
   · split at h
     · rename_i h1 _ h2; rw [Nat.eq_of_beq_eq_true h1, Nat.eq_of_beq_eq_true h2, Nat.eq_of_beq_eq_true h]
     · cases h
   · cases h
 · cases h
def J5 (ops : Array Oper) (ms : List Nat) (t : List Ent3) : Plan → Nat → Bool
 | .nil, d => (V1 d t).isEmpty
 | .take i m rest, d =>
   (match m with
    | 0 => one i (V1 d t)
    | 1 => (V1 d t).contains i && Z8l ops t i d && (ZB rest).all (fun k => k != i)
    | 2 => (V1 d t).contains i && Z8l ops t i d && (ZB rest).all (fun k => k != i && (ms.getD k 0).testBit i)
    | _ => one i (V1 d t)) &&
   J5 ops ms t rest (Nat.lor d (Nat.pow 2 i))
 | .fork i mi j mj a b, d => two i j (V1 d t) && Vx mi && Vx mj && a.depth == b.depth && J5 ops ms t a (Nat.lor d (Nat.pow 2 i)) && J5 ops ms t b (Nat.lor d (Nat.pow 2 j))
 | .fork3 i mi j mj k mk a b c, d => Ze6 i j k (V1 d t) && Vx mi && Vx mj && Vx mk && a.depth == b.depth && a.depth == c.depth && J5 ops ms t a (Nat.lor d (Nat.pow 2 i)) && J5 ops ms t b (Nat.lor d (Nat.pow 2 j)) && J5 ops ms t c (Nat.lor d (Nat.pow 2 k))
 | .join p, d => J5 ops ms t p d
theorem Jn {ops : Array Oper} {l : Array Bool} {i : Nat} (h : i ∈ Region.ready .any ops l) : i < ops.size := by
 unfold Region.ready at h
 exact List.mem_range.1 (List.mem_filter.1 h).1
theorem Z5Q {ops : Array Oper} {l : Array Bool} {d i : Nat} (h : Rep ops l d) (hi : i < ops.size) (hf : Z8l ops (tabF ops.toList 0) i d = true) : Region.free .any ops l i = true := by
 unfold Z8l at hf
 split at hf
 · rename_i oi ho
   refine Ze5 h ?_ hf
   rw [Jz] at ho
   simpa using ho
 · cases hf
theorem YN {ops : Array Oper} {ms : List Nat} : ∀ (p : Plan) (l : Array Bool) (d : Nat), Rep ops l d → J5 ops ms (tabF ops.toList 0) p d = true → Yj ops ms p l = true
 | .nil, l, d, h, hs => by rw [J5, U2 h] at hs; exact hs
 | .join p, l, d, h, hs => by rw [J5] at hs; rw [Yj]; exact YN p l d h hs
 | .fork i mi j mj a b, l, d, h, hs => by
   rw [J5, U2 h] at hs
   simp only [Bool.and_eq_true] at hs
   obtain ⟨⟨⟨⟨⟨h1, h2⟩, h3⟩, h4⟩, h5⟩, h6⟩ := hs
   have e := Zf0 h1
   have li := Jn (ops := ops) (l := l) (i := i) (by rw [e]; simp)
   have lj := Jn (ops := ops) (l := l) (i := j) (by rw [e]; simp)
   rw [Yj, e, h2, h3, h4, YN a _ _ (h.set li) h5, YN b _ _ (h.set lj) h6]
   simp
 | .fork3 i mi j mj k mk a b c, l, d, h, hs => by
   rw [J5, U2 h] at hs
   simp only [Bool.and_eq_true] at hs
   obtain ⟨⟨⟨⟨⟨⟨⟨⟨h1, h2⟩, h3⟩, h3'⟩, h4⟩, h4'⟩, h5⟩, h6⟩, h7⟩ := hs
   have e := Zct h1
   have li := Jn (ops := ops) (l := l) (i := i) (by rw [e]; simp)
   have lj := Jn (ops := ops) (l := l) (i := j) (by rw [e]; simp)
   have lk := Jn (ops := ops) (l := l) (i := k) (by rw [e]; simp)
   rw [Yj, e, h2, h3, h3', h4, h4', YN a _ _ (h.set li) h5, YN b _ _ (h.set lj) h6, YN c _ _ (h.set lk) h7]
   simp
 | .take i 0 rest, l, d, h, hs => by
   rw [J5, U2 h, Bool.and_eq_true] at hs
   obtain ⟨h1, h2⟩ := hs
   have e := Zdr h1
   have li := Jn (ops := ops) (l := l) (i := i) (by rw [e]; simp)
   rw [Yj, YN rest _ _ (h.set li) h2, e]; simp
 | .take i 1 rest, l, d, h, hs => by
   rw [J5, U2 h, Bool.and_eq_true] at hs
   obtain ⟨h1, h2⟩ := hs
   simp only [Bool.and_eq_true] at h1
   have li := Jn (ops := ops) (l := l) (i := i) (by simpa using h1.1.1)
   rw [Yj, YN rest _ _ (h.set li) h2, Bool.and_true]
   simp only [Bool.and_eq_true]
   exact ⟨⟨h1.1.1, Z5Q h li h1.1.2⟩, h1.2⟩
 | .take i 2 rest, l, d, h, hs => by
   rw [J5, U2 h, Bool.and_eq_true] at hs
   obtain ⟨h1, h2⟩ := hs
   simp only [Bool.and_eq_true] at h1
   have li := Jn (ops := ops) (l := l) (i := i) (by simpa using h1.1.1)
   rw [Yj, YN rest _ _ (h.set li) h2, Bool.and_true]
   simp only [Bool.and_eq_true]
   exact ⟨⟨h1.1.1, Z5Q h li h1.1.2⟩, h1.2⟩
 | .take i (m + 3) rest, l, d, h, hs => by
   have hs : (one i (V1 d (tabF ops.toList 0)) && J5 ops ms (tabF ops.toList 0) rest (Nat.lor d (Nat.pow 2 i))) = true := hs
   rw [U2 h, Bool.and_eq_true] at hs
   obtain ⟨h1, h2⟩ := hs
   have e := Zdr h1
   have li := Jn (ops := ops) (l := l) (i := i) (by rw [e]; simp)
   show ((Region.ready .any ops l == [i]) && Yj ops ms rest (l.setIfInBounds i true)) = true
   rw [YN rest _ _ (h.set li) h2, e]; simp
def ZaY (ops : Array Oper) (steps : Plan) : Bool :=
 Region.noSelect ops && steps.depth == ops.size && J5 ops (Z0n ops.toList []) (tabF ops.toList 0) steps 0
theorem rep0 (ops : Array Oper) : Rep ops (Array.replicate ops.size false) 0 := ⟨by simp, fun j => by simp [Array.getD]⟩
theorem ZaZ {ops : Array Oper} {steps : Plan} (h : ZaY ops steps = true) : Z4v ops steps = true := by
 unfold ZaY at h
 unfold Z4v
 rw [Bool.and_eq_true] at h ⊢
 exact ⟨h.1, YN _ _ _ (rep0 ops) h.2⟩
theorem DRAWN.ofF {M : Mx} (hT : TabOK M.P M.C.T) (hP : M.P.follows .mixedOrders = true) {id : Nat} {ops : Array Oper} {fr : Fr} {O : Hps} {nx : Nat} {Q : Post} (steps : Plan) (hord : ZaY ops steps = true)
   (h : runD M ops.toList steps fr O nx fun fr O nx => Q .normal fr O nx) : DRAWN M id ops fr O nx Q := DRAWN.of hT hP steps (ZaZ hord) h
theorem JOIN.to {M : Mx} {ops : List Oper} {p : Plan} {K : Fr → Hps → Nat → Prop} {f g : Fr} {O O' : Hps} {n n' : Nat} (r : runD M ops p g O' n' K) (hO : O = O') (hn : n = n') (h : ∀ t, lkp t g = lkp t f) : JOIN (fun fr => runD M ops p fr O n K) f := by
 subst hO hn; exact ⟨g, h, r⟩
theorem Z7e {t : Nat} : ∀ (g fr : Fr), lkp t (g ++ fr) = match lkp t g with | some v => some v | none => lkp t fr
 | [], fr => rfl
 | (d, v) :: g, fr => by
   rw [List.cons_append, Zi, Zi, Z7e g fr]
   by_cases h : t = d
   · rw [if_pos h, if_pos h]
   · rw [if_neg h, if_neg h]
theorem JOIN.to3 {M : Mx} {ops : List Oper} {p : Plan} {K : Fr → Hps → Nat → Prop} {fr g : Fr} {O O' : Hps} {n n' d e f : Nat} {x y z : SV} (r : runD M ops p (g ++ fr) O' n' K) (hO : O = O') (hn : n = n') (h : ∀ t, lkp t g = lkp t [(d, x), (e, y), (f, z)]) : JOIN (fun fr => runD M ops p fr O n K) ((d, x) :: (e, y) :: (f, z) :: fr) :=
 JOIN.to r hO hn fun t => by
   show _ = lkp t ([(d, x), (e, y), (f, z)] ++ fr)
   rw [Z7e, Z7e, h t]
theorem FORK.boxes {M : Mx} {ops : List Oper} {p : Plan} {fr : Fr} {O : Hps} {nx : Nat} {K : Fr → Hps → Nat → Prop} (g1 g2 : Fr) (o1 o2 : Hps) (n : Nat)
   (arms : runD M ops p (g1 ++ fr) (o1 ++ O) n K → runD M ops p (g2 ++ fr) (o2 ++ O) n K →
     FORK (oneD M ops 1 3 fr O nx fun fr O nx => runD M ops (.fork 2 3 3 3 (.take 3 3 (.take 4 0 (.take 5 0 (.join p)))) (.take 2 3 (.take 4 0 (.take 5 0 (.join p))))) fr O nx K)
     (FORK (oneD M ops 2 3 fr O nx fun fr O nx => runD M ops (.fork 1 3 3 3 (.take 3 3 (.take 4 0 (.take 5 0 (.join p)))) (.fork 1 3 4 0 (.take 4 0 (.take 5 0 (.join p))) (.take 1 2 (.take 5 0 (.join p))))) fr O nx K)
     (oneD M ops 3 3 fr O nx fun fr O nx => runD M ops (.fork 1 3 2 3 (.take 2 3 (.take 4 0 (.take 5 0 (.join p)))) (.fork 1 3 4 0 (.take 4 0 (.take 5 0 (.join p))) (.take 1 2 (.take 5 0 (.join p))))) fr O nx K)))
   (r1 : runD M ops p (g1 ++ fr) (o1 ++ O) n K) (r2 : runD M ops p (g2 ++ fr) (o2 ++ O) n K) :
     FORK (oneD M ops 1 3 fr O nx fun fr O nx => runD M ops (.fork 2 3 3 3 (.take 3 3 (.take 4 0 (.take 5 0 (.join p)))) (.take 2 3 (.take 4 0 (.take 5 0 (.join p))))) fr O nx K)
     (FORK (oneD M ops 2 3 fr O nx fun fr O nx => runD M ops (.fork 1 3 3 3 (.take 3 3 (.take 4 0 (.take 5 0 (.join p)))) (.fork 1 3 4 0 (.take 4 0 (.take 5 0 (.join p))) (.take 1 2 (.take 5 0 (.join p))))) fr O nx K)
     (oneD M ops 3 3 fr O nx fun fr O nx => runD M ops (.fork 1 3 2 3 (.take 2 3 (.take 4 0 (.take 5 0 (.join p)))) (.fork 1 3 4 0 (.take 4 0 (.take 5 0 (.join p))) (.take 1 2 (.take 5 0 (.join p))))) fr O nx K)) := arms r1 r2
theorem FORK.swap {M : Mx} {ops : List Oper} {p : Plan} {fr : Fr} {O : Hps} {nx : Nat} {K : Fr → Hps → Nat → Prop} (g : Fr) (a b : Nat) (x y : Hp)
   (arms : runD M ops p (g ++ fr) (setK b y (setK a x O)) nx K → FORK (oneD M ops 1 3 fr O nx fun fr O nx => runD M ops (.take 2 0 (.take 3 0 (.join p))) fr O nx K) (oneD M ops 2 0 fr O nx fun fr O nx => runD M ops (.take 1 2 (.take 3 0 (.join p))) fr O nx K))
   (r : runD M ops p (g ++ fr) (setK b y (setK a x O)) nx K) : FORK (oneD M ops 1 3 fr O nx fun fr O nx => runD M ops (.take 2 0 (.take 3 0 (.join p))) fr O nx K) (oneD M ops 2 0 fr O nx fun fr O nx => runD M ops (.take 1 2 (.take 3 0 (.join p))) fr O nx K) := arms r
end Go.Sx
namespace Go.Our
open Go.Sx
structure Tri {α : Type} (c : α → α → Int) : Prop where
 rng : ∀ a b, c a b = -1 ∨ c a b = 0 ∨ c a b = 1
 anti : ∀ a b, c b a = - c a b
 zero : ∀ a b, c a b = 0 ↔ a = b
 trans : ∀ a b d, c a b ≤ 0 → c b d ≤ 0 → c a d ≤ 0
def cmpI (a b : Int) : Int := if a < b then -1 else if a > b then 1 else 0
theorem triI : Tri cmpI where
 rng a b := by unfold cmpI; (repeat' split) <;> omega
 anti a b := by unfold cmpI; (repeat' split) <;> omega
 zero a b := by unfold cmpI; (repeat' split) <;> omega
 trans a b d := by unfold cmpI; (repeat' split) <;> omega
open Lib (compareBytes)
theorem Zds : ∀ a b, compareBytes a b = -1 ∨ compareBytes a b = 0 ∨ compareBytes a b = 1
 | [], [] => by simp [compareBytes]
 | [], _ :: _ => by simp [compareBytes]
 | _ :: _, [] => by simp [compareBytes]
 | a :: as_, b :: bs => by
   unfold compareBytes
   split
   · simp
   · split
     · simp
     · exact Zds as_ bs
theorem Zb0 : ∀ a b, compareBytes b a = - compareBytes a b
 | [], [] => by simp [compareBytes]
 | [], _ :: _ => by simp [compareBytes]
 | _ :: _, [] => by simp [compareBytes]
 | a :: as_, b :: bs => by
   unfold compareBytes
   simp only [UInt8.lt_iff_toNat_lt]
   by_cases h : a.toNat < b.toNat
   · have : ¬ b.toNat < a.toNat := by omega
     simp [h, this]
   · by_cases h' : b.toNat < a.toNat
     · simp [h, h']
     · simp only [h, h', if_false]; exact Zb0 as_ bs
theorem Zb1 : ∀ a b, compareBytes a b = 0 ↔ a = b
 | [], [] => by simp [compareBytes]
 | [], _ :: _ => by simp [compareBytes]
 | _ :: _, [] => by simp [compareBytes]
 | a :: as_, b :: bs => by
   unfold compareBytes
   simp only [UInt8.lt_iff_toNat_lt, List.cons.injEq, ← UInt8.toNat_inj]
   by_cases h : a.toNat < b.toNat
   · simp [h]; omega
   · by_cases h' : b.toNat < a.toNat
     · simp [h, h']; omega
     · have : a.toNat = b.toNat := by omega
       simp only [this, Nat.lt_irrefl, if_false, true_and]; exact Zb1 as_ bs
theorem Z8m : ∀ a b c, compareBytes a b ≤ 0 → compareBytes b c ≤ 0 → compareBytes a c ≤ 0
 | [], _, [] => by simp [compareBytes]
 | [], _, _ :: _ => by simp [compareBytes]
 | _ :: _, [], _ => by simp [compareBytes]
 | _ :: _, _ :: _, [] => by simp [compareBytes]
 | a :: as_, b :: bs, c :: cs => by
   unfold compareBytes
   simp only [UInt8.lt_iff_toNat_lt]
   have ih := Z8m as_ bs cs
   (repeat' split) <;> first | omega | (intro x y; first | exact ih x y | omega)
def cmpL (a b : List UInt8) : Int := compareBytes a b
theorem triL : Tri cmpL where
 rng a b := Zds _ _
 anti a b := Zb0 _ _
 zero a b := Zb1 _ _
 trans a b d := Z8m _ _ _
def XS {β γ : Type} (c : β → β → Int) (d : γ → γ → Int) (a b : β × γ) : Int := if c a.1 b.1 ≠ 0 then c a.1 b.1 else d a.2 b.2
theorem UQ {β γ : Type} {c : β → β → Int} {d : γ → γ → Int} (hc : Tri c) (hd : Tri d) : Tri (XS c d) where
 rng a b := by unfold XS; split <;> first | exact hc.rng _ _ | exact hd.rng _ _
 anti a b := by
   unfold XS
   rw [hc.anti a.1 b.1, hd.anti a.2 b.2]
   by_cases h : c a.1 b.1 = 0
   · simp [h]
   · have : ¬ - c a.1 b.1 = 0 := by omega
     simp [h, this]
 zero a b := by
   unfold XS
   by_cases h : c a.1 b.1 = 0
   · simp only [h, ne_eq, not_true_eq_false, if_false]
     rw [hd.zero]
     have hf := (hc.zero _ _).1 h
     exact ⟨fun hg => Prod.ext hf hg, fun e => by rw [e]⟩
   · simp only [ne_eq, h, not_false_eq_true, if_true, false_iff]
     intro e; subst e
     exact h ((hc.zero _ _).2 rfl)
 trans a b e := by
   unfold XS
   intro h1 h2
   have r1 := hc.rng a.1 b.1; have r2 := hc.rng b.1 e.1
   have t1 := hc.trans a.1 b.1 e.1
   by_cases x : c a.1 b.1 = 0
   · have ex := (hc.zero _ _).1 x
     simp only [x, ne_eq, not_true_eq_false, if_false] at h1
     rw [ex]
     by_cases y : c b.1 e.1 = 0
     · simp only [y, ne_eq, not_true_eq_false, if_false] at h2 ⊢
       exact hd.trans _ _ _ h1 h2
     · simp only [ne_eq, y, not_false_eq_true, if_true] at h2 ⊢
       exact h2
   · simp only [ne_eq, x, not_false_eq_true, if_true] at h1
     by_cases y : c b.1 e.1 = 0
     · have ey := (hc.zero _ _).1 y
       rw [← ey]
       simp only [ne_eq, x, not_false_eq_true, if_true]; exact h1
     · simp only [ne_eq, y, not_false_eq_true, if_true] at h2
       have hle := t1 h1 h2
       have hne : c a.1 e.1 ≠ 0 := by
         intro hz
         have e1 := (hc.zero _ _).1 hz
         rw [← e1] at h2 y
         have := hc.anti a.1 b.1
         omega
       simp only [ne_eq, hne, not_false_eq_true, if_true]; exact hle
theorem Zb2 {α β : Type} {c : β → β → Int} (hc : Tri c) (f : α → β) (hf : ∀ a b, f a = f b → a = b) : Tri (fun a b => c (f a) (f b)) where
 rng a b := hc.rng _ _
 anti a b := hc.anti _ _
 zero a b := by rw [hc.zero]; exact ⟨hf a b, fun e => by rw [e]⟩
 trans a b d := hc.trans _ _ _
theorem Z10 : ∀ a b : List UInt8, Op.bytesLess a b = decide (Lib.compareBytes a b < 0)
 | [], [] => by simp [Op.bytesLess, Lib.compareBytes]
 | [], _ :: _ => by simp [Op.bytesLess, Lib.compareBytes]
 | _ :: _, [] => by simp [Op.bytesLess, Lib.compareBytes]
 | a :: as_, b :: bs => by
   unfold Op.bytesLess Lib.compareBytes
   rw [Z10 as_ bs]
   simp only [UInt8.lt_iff_toNat_lt]
   have hbeq : (a == b) = decide (a.toNat = b.toNat) := by
     rw [Bool.eq_iff_iff]; simp [UInt8.toNat_inj]
   rw [hbeq]
   by_cases h : a.toNat < b.toNat
   · simp [h]
   · by_cases h' : b.toNat < a.toNat
     · have : ¬ a.toNat = b.toNat := by omega
       simp [h, h', this]
     · have : a.toNat = b.toNat := by omega
       simp [this]
theorem Z5R (a b : List UInt8) : Z95 a b = decide (cmpL a b < 0) := Z10 a b
def Tm.key (x : Tm) : Int × List UInt8 × List UInt8 × List UInt8 := (x.k, x.t, x.y, x.l)
def Ur (a b : Tm) : Int := XS cmpI (XS cmpL (XS cmpL cmpL)) a.key b.key
theorem triT : Tri Ur := Zb2 (UQ triI (UQ triL (UQ triL triL))) Tm.key (fun a b h => by
 cases a; cases b; simp [Tm.key] at h; simp [h])
def Qd.key (q : Qd) : Tm × Tm × Tm × Tm := (q.g, q.s, q.p, q.o)
def Zw (a b : Qd) : Int := XS Ur (XS Ur (XS Ur Ur)) a.key b.key
theorem triQ : Tri Zw := Zb2 (UQ triT (UQ triT (UQ triT triT))) Qd.key (fun a b h => by
 cases a; cases b; simp [Qd.key] at h; simp [h])
def orI : List Int → Int
 | [] => 0
 | x :: l => if x ≠ 0 then x else orI l
theorem Zdt (a b : Tm) : orI [cmpI a.k b.k, cmpL a.t b.t, cmpL a.y b.y, cmpL a.l b.l] = Ur a b := by
 simp only [orI, Ur, XS, Tm.key]
 (repeat' split) <;> simp_all
theorem Zdu (a b : Qd) : orI [Ur a.g b.g, Ur a.s b.s, Ur a.p b.p, Ur a.o b.o] = Zw a b := by
 simp only [orI, Zw, XS, Qd.key]
 (repeat' split) <;> simp_all
abbrev Qd.row (q : Qd) : List SV := [.int .i64 q.s.k, .str q.s.t, .str q.s.y, .str q.s.l, .int .i64 q.p.k, .str q.p.t, .str q.p.y, .str q.p.l, .int .i64 q.o.k, .str q.o.t, .str q.o.y, .str q.o.l, .int .i64 q.g.k, .str q.g.t, .str q.g.y, .str q.g.l]
def Zf (q : Qd) : List SV := q.row
def Zcu (x : Tm) : List SV := [.int .i64 x.k, .str x.t, .str x.y, .str x.l]
instance : PlF Zcu := ⟨fun _ => rfl⟩
theorem Tm.ext' {a b : Tm} (h : Zcu a = Zcu b) : a = b := by
 obtain ⟨_, _, _, _⟩ := a
 obtain ⟨_, _, _, _⟩ := b
 simp only [Zcu, List.cons.injEq, SV.int.injEq, SV.str.injEq, true_and, and_true] at h
 simp_all
def Jk : Qd := ⟨Zy, Zy, Zy, Zy⟩
theorem Zc (l : List Qd) : Zz (l.map Zf) = true := Yi _ (fun _ => rfl) l
instance : PlF Zf := ⟨fun _ => rfl⟩
theorem Z5S {l : List Qd} {i : Nat} (h : i < l.length) : (l.map Zf)[i]? = some (Zf l[i]) := by rw [List.getElem?_map, List.getElem?_eq_getElem h]; rfl
theorem Z5T {α : Type} (f : α → List SV) (l z : List α) : (((l ++ z).map f).drop 0).take l.length = l.map f := by
 rw [List.drop_zero, List.map_append, List.take_append_of_le_length (by simp), List.take_of_length_le (by simp)]
theorem U3 {α : Type} {f : α → List SV} {l : List α} {i j : Nat} (h : i < l.length) (hj : j = i) : (l.map f)[j]? = some (f l[i]) := by
 subst hj
 rw [List.getElem?_map, List.getElem?_eq_getElem h]; rfl
theorem Qd.ext' {a b : Qd} (h : Zf a = Zf b) : a = b := by
 obtain ⟨⟨_, _, _, _⟩, ⟨_, _, _, _⟩, ⟨_, _, _, _⟩, ⟨_, _, _, _⟩⟩ := a
 obtain ⟨⟨_, _, _, _⟩, ⟨_, _, _, _⟩, ⟨_, _, _, _⟩, ⟨_, _, _, _⟩⟩ := b
 simp only [Zf, Qd.row, List.cons.injEq, SV.int.injEq, SV.str.injEq, true_and, and_true] at h
 simp_all
def Xk (l : List Qd) (i : Nat) : Bool := if h : i < l.length then decide (¬ 0 ≤ Zw (l[i - 1]'(by omega)) l[i]) && Xk l (i + 1) else true
termination_by l.length - i
theorem Z5U {l : List Qd} {i : Nat} (h : l.length ≤ i) : Xk l i = true := by unfold Xk; rw [dif_neg (by omega)]
theorem Z4D {l : List Qd} {i : Nat} (h : i < l.length) : Xk l i = (decide (¬ 0 ≤ Zw (l[i - 1]'(by omega)) l[i]) && Xk l (i + 1)) := by
 conv => lhs; unfold Xk
 rw [dif_pos h]
structure KeyK (α : Type) [DecidableEq α] where
 ks : Bool × List CK
 enc : α → SV
 is : ∀ a b, Z18 ks (enc a) (enc b) = decide (a = b)
 ok : ∀ a, JU ks (enc a) = true
 pl : ∀ a, plain (enc a) = true
section
variable {α β : Type} [DecidableEq α] (K : KeyK α)
def Z1e (f : β → SV) (l : List (α × β)) : List (List SV) := l.map fun p => [K.enc p.1, f p.2]
def XI (es : Nat) (f : β → List (List SV)) (l : List (α × β)) : List (List DC) := l.map fun p => [.v (K.enc p.1), .kid es (f p.2)]
def ixA (a : α) : List (α × β) → Option (Nat × β)
 | [] => none
 | (k, v) :: r => if a = k then some (0, v) else (ixA a r).map fun p => (p.1 + 1, p.2)
def getA (a : α) : List (α × β) → Option β
 | [] => none
 | (k, v) :: r => if a = k then some v else getA a r
def setA (a : α) (v : β) : List (α × β) → List (α × β)
 | [] => [(a, v)]
 | (k, u) :: r => if a = k then (k, v) :: r else (k, u) :: setA a v r
theorem Z7f (a : α) : ∀ l : List (α × β), (ixA a l).map Prod.snd = getA a l
 | [] => rfl
 | (k, v) :: r => by
   unfold ixA getA
   split
   · rfl
   · rw [Option.map_map, ← Z7f a r]; rfl
theorem UR {a : α} {l : List (α × β)} (h : ixA a l = none) : getA a l = none := by rw [← Z7f, h]; rfl
theorem V2 {a : α} {l : List (α × β)} {i : Nat} {v : β} (h : ixA a l = some (i, v)) : getA a l = some v := by rw [← Z7f, h]; rfl
theorem US (a b : α) (v : β) : ∀ l : List (α × β), getA b (setA a v l) = if b = a then some v else getA b l
 | [] => by
   simp only [setA, getA]
 | (k, u) :: r => by
   unfold setA
   by_cases h : a = k
   · subst h
     rw [if_pos rfl]
     simp only [getA]
     by_cases e : b = a
     · rw [if_pos e, if_pos e]
     · rw [if_neg e, if_neg e, if_neg e]
   · rw [if_neg h]
     simp only [getA, US a b v r]
     by_cases e : b = k
     · subst e; rw [if_pos rfl, if_neg (fun e => h e.symm), if_pos rfl]
     · rw [if_neg e, if_neg e]
theorem Z0p (f : β → SV) (a : α) : ∀ (l : List (α × β)) (i : Nat), Vm K.ks (K.enc a) i (Z1e K f l) = (ixA a l).map fun p => (i + p.1, f p.2)
 | [], i => rfl
 | (k, v) :: r, i => by
   have ih := Z0p f a r (i + 1)
   simp only [Z1e, List.map_cons, Vm, K.is, ixA] at ih ⊢
   by_cases h : a = k
   · simp [h]
   · simp only [h, decide_false, if_false, ih, Option.map_map]
     congr 1
     funext p
     simp only [Function.comp, Prod.mk.injEq, and_true]
     omega
theorem Xc (f : β → SV) (l : List (α × β)) : Vn K.ks (Z1e K f l) := by
 intro r hr
 obtain ⟨p, _, rfl⟩ := List.mem_map.1 hr
 exact ⟨_, _, rfl, K.ok _⟩
theorem Z0q {a : α} {v : β} : ∀ {l : List (α × β)} {i : Nat} {u : β}, ixA a l = some (i, u) → setA a v l = l.modify i (fun p => (p.1, v))
 | [], _, _, h => by cases h
 | (k, w) :: r, i, u, h => by
   unfold ixA at h
   unfold setA
   split at h
   · rename_i e
     injection h with h; injection h with h1 h2; subst h1
     rw [if_pos e, List.modify_zero_cons]
   · rename_i e
     obtain ⟨⟨j, x⟩, hj, he⟩ := Option.map_eq_some_iff.1 h
     injection he with h1 h2
     subst h1
     rw [if_neg e, List.modify_succ_cons, Z0q hj]
theorem Z2z {a : α} {v : β} : ∀ {l : List (α × β)}, ixA a l = none → setA a v l = l ++ [(a, v)]
 | [], _ => rfl
 | (k, w) :: r, h => by
   unfold ixA at h
   unfold setA
   split at h
   · cases h
   · rename_i e
     rw [if_neg e, List.cons_append, Z2z (by simpa using h)]
theorem Z2A (f : β → SV) (a : α) (v : β) (l : List (α × β)) : setM K.ks (K.enc a) (f v) (Z1e K f l) = Z1e K f (setA a v l) := by
 unfold setM
 rw [Z0p]
 cases h : ixA a l with
 | none => simp only [Option.map_none]; rw [Z2z h]; simp [Z1e]
 | some p =>
   obtain ⟨i, u⟩ := p
   simp only [Option.map_some, Nat.zero_add]
   rw [Z0q h]
   unfold Z1e
   apply List.ext_getElem?
   intro j
   rw [List.getElem?_modify, List.getElem?_map, List.getElem?_map, List.getElem?_modify]
   by_cases e : i = j
   · subst e
     cases l[i]? <;> simp [putV]
   · cases l[j]? <;> simp [e]
theorem Zb3 (f : β → SV) (hf : ∀ b, plain (f b) = true) (l : List (α × β)) : Zz (Z1e K f l) = true := by
 unfold Z1e
 exact Yi _ (fun p => by simp only [Yz, K.pl, hf, Bool.and_self]) l
theorem Z2B (es : Nat) (f : β → List (List SV)) (a : α) : ∀ (l : List (α × β)) (i : Nat), findD K.ks (K.enc a) i (XI K es f l) = (ixA a l).map fun p => (i + p.1, .kid es (f p.2))
 | [], i => rfl
 | (k, v) :: r, i => by
   have ih := Z2B es f a r (i + 1)
   simp only [XI, List.map_cons, findD, Xr, K.is, ixA] at ih ⊢
   by_cases h : a = k
   · simp [h]
   · simp only [h, decide_false, if_false, ih, Option.map_map]
     congr 1
     funext p
     simp only [Function.comp, Prod.mk.injEq, and_true]
     omega
theorem Z5V (es : Nat) (f : β → List (List SV)) (l : List (α × β)) : Vn K.ks (Y8 (XI K es f l)) := by
 intro r hr
 unfold Y8 XI at hr
 rw [List.map_map] at hr
 obtain ⟨p, _, rfl⟩ := List.mem_map.1 hr
 exact ⟨_, _, rfl, K.ok _⟩
theorem Z4E {a : α} : ∀ {l : List (α × β)} {i : Nat} {u : β}, ixA a l = some (i, u) → l[i]? = some (a, u)
 | [], i, u, h => by cases h
 | (k, w) :: l, i, u, h => by
   unfold ixA at h
   split at h
   · rename_i e
     injection h with h; injection h with h1 h2; subst h1 h2 e
     rfl
   · obtain ⟨⟨j, x⟩, hj, he⟩ := Option.map_eq_some_iff.1 h
     injection he with h1 h2
     subst h1 h2
     simpa using Z4E hj
theorem Ze7 (es : Nat) (f : β → List (List SV)) (d : DC) {a : α} {v : β} {l : List (α × β)} {i j : Nat} {u : β} (h : ixA a l = some (i, u)) (hj : j = i) : ((XI K es f l).modify i (putD d)).modify j (putD (.kid es (f v))) = XI K es f (setA a v l) := by
 subst hj
 rw [Z0q h]
 unfold XI
 apply List.ext_getElem?
 intro k
 rw [List.getElem?_modify, List.getElem?_modify, List.getElem?_map, List.getElem?_map, List.getElem?_modify]
 by_cases e : j = k
 · subst e
   rw [Z4E h]; simp [putD]
 · cases l[k]? <;> simp [e]
theorem Zb4 (es : Nat) (f : β → List (List SV)) (d : DC) {a : α} {v : β} {l : List (α × β)} {j : Nat} (h : ixA a l = none) (hj : j = l.length) : (XI K es f l ++ [[.v (K.enc a), d]]).modify j (putD (.kid es (f v))) = XI K es f (setA a v l) := by
 subst hj
 rw [Z2z h]
 unfold XI
 apply List.ext_getElem?
 intro k
 rw [List.getElem?_modify, List.map_append]
 by_cases e : l.length = k
 · subst e
   simp [putD]
 · simp only [e, if_false]
   by_cases hk : k < l.length
   · rw [List.getElem?_append_left (by simpa using hk), List.getElem?_append_left (by simpa using hk)]; simp
   · rw [List.getElem?_eq_none (by simp; omega), List.getElem?_eq_none (by simp; omega)]; rfl
theorem Z8n (es : Nat) (f : β → List (List SV)) (hf : ∀ b, Zz (f b) = true) : ∀ l : List (α × β), Xp (XI K es f l) = true
 | [] => rfl
 | p :: l => by
   have ih := Z8n es f hf l
   unfold XI at ih ⊢
   simp only [List.map_cons, Xp, Wm, Z0G, K.pl, hf, ih, Bool.and_self]
end
section
variable {α β : Type} [DecidableEq α]
theorem FIND.A (K : KeyK α) (f : β → SV) (a : α) (l : List (α × β)) {J : Type} {A : Nat → SV → J → Prop} {B : J → Prop} {j : J} (hs : ∀ i v, ixA a l = some (i, v) → A (0 + i) (f v) j) (hn : ixA a l = none → B j) : FIND (Vm K.ks (K.enc a) 0 (Z1e K f l)) A B j := by
 refine FIND.mk (fun i v hf => ?_) (fun hf => ?_)
 · obtain ⟨⟨k, x⟩, hj, he⟩ := Option.map_eq_some_iff.1 ((Z0p K f a l 0).symm.trans hf)
   cases he
   exact hs _ _ hj
 · exact hn (Option.map_eq_none_iff.1 ((Z0p K f a l 0).symm.trans hf))
theorem FINDD.A (K : KeyK α) (es : Nat) (f : β → List (List SV)) (a : α) (l : List (α × β)) {J : Type} {A : Nat → DC → J → Prop} {B : J → Prop} {j : J} (hs : ∀ i v, ixA a l = some (i, v) → A (0 + i) (.kid es (f v)) j) (hn : ixA a l = none → B j) : FINDD (findD K.ks (K.enc a) 0 (XI K es f l)) A B j := by
 refine FINDD.mk (fun i v hf => ?_) (fun hf => ?_)
 · obtain ⟨⟨k, x⟩, hj, he⟩ := Option.map_eq_some_iff.1 ((Z2B K es f a l 0).symm.trans hf)
   cases he
   exact hs _ _ hj
 · exact hn (Option.map_eq_none_iff.1 ((Z2B K es f a l 0).symm.trans hf))
end
def KQ : KeyK Qd where
 ks := (true, [.int .i64, .str, .str, .str, .int .i64, .str, .str, .str, .int .i64, .str, .str, .str, .int .i64, .str, .str, .str])
 enc := Qd.sv
 is a b := by
   obtain ⟨⟨a1, a2, a3, a4⟩, ⟨a5, a6, a7, a8⟩, ⟨a9, b1, b2, b3⟩, ⟨b4, b5, b6, b7⟩⟩ := a
   obtain ⟨⟨c1, c2, c3, c4⟩, ⟨c5, c6, c7, c8⟩, ⟨c9, d1, d2, d3⟩, ⟨d4, d5, d6, d7⟩⟩ := b
   rw [Bool.eq_iff_iff]
   simp [Z18, VN, Y4, Zl, Qd.sv, Xq]
   simp only [and_assoc]
 ok a := by simp [JU, VN, Y4, Zl, Qd.sv, Xq]
 pl a := rfl
def KI : KeyK Int where
 ks := (false, [.int .i64])
 enc := .int .i64
 is a b := by rw [Bool.eq_iff_iff]; simp [Z18, VN, Y4, Zl, Xq]
 ok a := by simp [JU, VN, Y4, Zl, Xq]
 pl a := rfl
def Zr : List UInt8 → List (List UInt8)
 | [] => [[]]
 | c :: t => if c = 45 then [] :: Zr t else match Zr t with
   | h :: r => (c :: h) :: r
   | [] => [[c]]
theorem Z1v : ∀ s, Zr s ≠ []
 | [] => by simp [Zr]
 | c :: t => by
   unfold Zr
   split
   · simp
   · split <;> simp
theorem XT : ∀ s : List UInt8, (Zr s).length = s.count 45 + 1
 | [] => rfl
 | c :: t => by
   have ih := XT t
   unfold Zr
   split
   · rename_i h; subst h; simp [ih]
   · rename_i h
     split
     · rename_i h' r e
       rw [e] at ih
       simp at ih ⊢
       rw [List.count_cons_of_ne (by simpa using h)]; omega
     · rename_i e; exact (Z1v t e).elim
theorem Z3T : ∀ {s : List UInt8}, Lib.indexByte s 45 = -1 → Zr s = [s]
 | [], _ => rfl
 | c :: t, h => by
   unfold Lib.indexByte at h
   by_cases hc : c = 45
   · subst hc; simp at h
   · have hge := Lib.indexByte_ge t 45
     have : Lib.indexByte t 45 = -1 := by
       simp [hc] at h
       apply Classical.byContradiction
       intro hn
       have := h hn
       omega
     unfold Zr
     rw [if_neg hc, Z3T this]
theorem Z3U : ∀ {s : List UInt8} {m : Nat}, Lib.indexByte s 45 = m → m < s.length ∧ Zr s = s.take m :: Zr (s.drop (m + 1))
 | [], m, h => by unfold Lib.indexByte at h; omega
 | c :: t, m, h => by
   unfold Lib.indexByte at h
   by_cases hc : c = 45
   · subst hc
     simp at h
     obtain rfl : m = 0 := by omega
     simp [Zr]
   · have hge := Lib.indexByte_ge t 45
     simp [hc] at h
     split at h
     · omega
     · obtain ⟨k, rfl⟩ : ∃ k, m = k + 1 := ⟨m - 1, by omega⟩
       have ih := Z3U (s := t) (m := k) (by omega)
       refine ⟨by simp; omega, ?_⟩
       conv => lhs; unfold Zr
       rw [if_neg hc, ih.2]
       simp only [List.take_succ_cons, List.drop_succ_cons]
theorem WX (s : List UInt8) : (Zr s).length ≤ s.length + 1 := by
 rw [XT]; have := List.count_le_length (a := (45 : UInt8)) (l := s); omega
def Zb (s : List UInt8) : List SV := [.str s]
theorem Z1 (l : List (List UInt8)) : Zz (l.map Zb) = true := Yi _ (fun _ => rfl) l
instance : PlF Zb := ⟨fun _ => rfl⟩
def Z2K (d : List (List UInt8)) (k : Nat) : List (List SV) := d.map Zb ++ List.replicate k (Zb [])
theorem Z62 (d : List (List UInt8)) (k : Nat) : Zz (Z2K d k) = true := by
 unfold Z2K
 refine Vd (Z1 d) ?_
 induction k with
 | zero => rfl
 | succ k ih => rw [List.replicate_succ]; simp only [Zz, ih]; rfl
theorem Z8v {d : List (List UInt8)} {k i : Nat} (h : i = d.length) (hk : 0 < k) : (Z2K d k)[i]? = some (Zb []) := by
 subst h
 unfold Z2K
 rw [List.getElem?_append_right (by simp)]
 simp [List.getElem?_replicate, hk]
theorem Z8w {d : List (List UInt8)} {k i : Nat} {p : List UInt8} (h : i = d.length) (hk : 0 < k) : (Z2K d k).set i [.str p] = Z2K (d ++ [p]) (k - 1) := by
 subst h
 obtain ⟨j, rfl⟩ : ∃ j, k = j + 1 := ⟨k - 1, by omega⟩
 unfold Z2K
 rw [List.set_append_right _ _ (by simp)]
 simp [List.replicate_succ, Zb]
def X2 (s : List UInt8) : Bool := ZH s 1 1 false && !ZV s
def ZO (p : List UInt8 → Bool) : List (List UInt8) → Nat
 | [] => 0
 | s :: l => if p s = true then ZO p l + 1 else 0
theorem Vh (p : List UInt8 → Bool) : ∀ l, ZO p l ≤ l.length
 | [] => by simp [ZO]
 | s :: l => by
   have := Vh p l
   unfold ZO; split <;> simp <;> omega
abbrev Yk (least : Int) : List UInt8 → Bool := fun s => ZH s least 8 false
def extP : Nat → List (List UInt8) → List (List UInt8)
 | 0, l => l
 | _ + 1, [] => []
 | n + 1, s :: l => if ZH s 3 3 true = true then extP n l else s :: l
def Jh : List (List UInt8) → Option (List (List UInt8))
 | [] => none
 | s :: l => if ZH s 2 8 true = true then (if 3 < s.length then some l else some (extP 3 l)) else none
def XJ (p : List UInt8 → Bool) : List (List UInt8) → List (List UInt8)
 | [] => []
 | s :: l => if p s = true then l else s :: l
def Yo (seen : List (List UInt8)) : List (List UInt8) → Option (List (List UInt8) × List (List UInt8))
 | [] => some ([], seen)
 | s :: l => if XW s = true then (if Zd s ∈ seen then none else Yo (seen ++ [Zd s]) l) else some (s :: l, seen)
def ZW (seen : List (List UInt8)) : List (List UInt8) → Option (List (List UInt8))
 | [] => some []
 | s :: l => if X2 s = true then
       (if ZO (Yk 2) l = 0 ∨ Zd s ∈ seen then none else ZW (seen ++ [Zd s]) (l.drop (ZO (Yk 2) l)))
     else some (s :: l)
termination_by l => l.length
decreasing_by simp; omega
def X3 (l : List (List UInt8)) : Option (List (List UInt8)) :=
 match Yo [] (XJ YP (XJ (fun s => ZH s 4 4 true) l)) with
 | none => none
 | some (l, seen) => ZW seen l
def Z3V (p : List UInt8 → Bool) : List (List UInt8) → Bool
 | [] => false
 | s :: _ => p s
def Vi : List (List UInt8) → Bool
 | [] => true
 | s :: l => if ZV s = true then decide (ZO (Yk 1) l ≠ 0 ∧ ZO (Yk 1) l = l.length) else false
def tagP (l : List (List UInt8)) : Bool :=
 if Z3V ZV l = true then Vi l else
 match Jh l with
 | none => false
 | some l => match X3 l with
   | none => false
   | some l => Vi l
theorem Z0u : ∀ s : List UInt8, ((Zr s).map List.length).sum + (Zr s).length = s.length + 1
 | [] => rfl
 | c :: t => by
   have ih := Z0u t
   have hne := Z1v t
   unfold Zr
   split
   · simp only [List.map_cons, List.sum_cons, List.length_cons, List.length_nil]; omega
   · split
     · rename_i h r e
       rw [e] at ih
       simp only [List.map_cons, List.sum_cons, List.length_cons] at ih ⊢; omega
     · rename_i e; exact (hne e).elim
theorem Z63 : ∀ (u : List UInt8) (n : Nat), (∀ c ∈ u.take n, c ≠ 45) → u[n]? = some 45 → Zr u = u.take n :: Zr (u.drop (n + 1))
 | [], n, _, h => by simp at h
 | c :: t, 0, _, h => by
   have h : c = 45 := by simpa using h
   subst h
   conv => lhs; unfold Zr
   rw [if_pos rfl]; rfl
 | c :: t, n + 1, h, h2 => by
   have hc : c ≠ 45 := h c (by simp)
   have ih := Z63 t n (fun d hd => h d (by simp [hd])) (by simpa using h2)
   conv => lhs; unfold Zr
   rw [if_neg hc, ih]; rfl
theorem Z64 : ∀ (u : List UInt8), (∀ c ∈ u, c ≠ 45) → Zr u = [u]
 | [], _ => rfl
 | c :: t, h => by
   have hc : c ≠ 45 := h c (by simp)
   have ih := Z64 t (fun d hd => h d (by simp [hd]))
   unfold Zr
   rw [if_neg hc, ih]
theorem Z9r : JK true = JJ := by funext c; simp [JK]
def Z0v (least most : Int) (digits : Bool) (s : List UInt8) : Bool := decide (least ≤ s.length ∧ (s.length : Int) ≤ most) && (if digits = true then allB Xl s 0 else allB JJ s 0)
theorem Xz (least most : Int) (s : List UInt8) : Z0v least most false s = ZH s least most true := by
 unfold Z0v ZH; rw [Z9r, Bool.and_comm]; rfl
theorem Z9s {s : List UInt8} (h : s.length = 3) : allB Xl s 0 = (Xl (Z4 s 0) && Xl (Z4 s 1) && Xl (Z4 s 2)) := by
 rw [Jg (by omega), Jg (by omega), Jg (by omega), UX (by omega), Bool.and_true, Bool.and_assoc]; rfl
theorem XU (s : List UInt8) : YP s = (Z0v 2 2 false s || Z0v 3 3 true s) := by
 unfold YP
 rw [Xz]
 congr 1
 unfold Z0v
 by_cases h : s.length = 3
 · rw [if_pos rfl, Z9s h]; simp [h, Bool.and_assoc]
 · have : decide ((3 : Int) ≤ s.length ∧ (s.length : Int) ≤ 3) = false := decide_eq_false (by omega)
   rw [this]; simp [h]
theorem Z2L (s : List UInt8) : ZH s 2 8 true = (Z0v 2 3 false s || Z0v 4 8 false s) := by
 rw [Xz, Xz]; unfold ZH
 cases allB (JK true) s 0
 · simp
 · simp only [Bool.true_and]
   rw [Bool.eq_iff_iff]; simp; omega
theorem Yx (s : List UInt8) : ZV s = (Zd s == [120]) := by
 unfold ZV Zd
 rcases s with _ | ⟨a, _ | ⟨b, t⟩⟩
 · rfl
 · rw [Bool.eq_iff_iff]
   simp only [Bool.or_eq_true, beq_iff_eq, List.map_cons, List.map_nil, List.cons.injEq, and_true]
   unfold lowB
   constructor
   · rintro (rfl | rfl) <;> rfl
   · intro h
     split at h
     · rename_i h1
       right
       have h2 := congrArg UInt8.toNat h
       rw [UInt8.toNat_ofNat_of_lt' (by show a.toNat + 32 < 256; omega)] at h2
       have : a.toNat = 88 := by simpa using h2
       exact UInt8.toNat_inj.1 (by simpa using this)
     · exact .inl h
 · simp
def Ya : List UInt8 := [104, 116, 116, 112, 58, 47, 47, 119, 119, 119, 46, 119, 51, 46, 111, 114, 103, 47, 49, 57, 57, 57, 47, 48, 50, 47, 50, 50, 45, 114, 100, 102, 45, 115, 121, 110, 116, 97, 120, 45, 110, 115, 35, 108, 97, 110, 103, 83, 116, 114, 105, 110, 103]
def litM (t y l : List UInt8) : Int :=
 if 65536 < t.length then 2 else if 0 ≤ chk t 0 then 40 else if iriM y ≠ 0 then iriM y else
 if l ≠ [] ∧ 65536 < l.length then 2 else if l ≠ [] ∧ (¬ tagP (Zr l) = true ∨ Zd l ≠ l) then 61 else
 if (l ≠ [] ∧ ¬ y = Ya) ∨ (l = [] ∧ y = Ya) then 71 else 0
def VA (x : Tm) : Int :=
 if x.k = 1 ∨ x.k = 2 then (if x.y ≠ [] ∨ x.l ≠ [] then 70 else if x.k = 1 then iriM x.t else if 65536 < x.t.length then 2 else Z3R x.t)
 else if x.k = 3 then litM x.t x.y x.l else 70
def Zx (q : Qd) : Int :=
 if ¬ (q.s.k = 1 ∨ q.s.k = 2) then 70 else if VA q.s ≠ 0 then VA q.s else
 if ¬ q.p.k = 1 then 70 else if VA q.p ≠ 0 then VA q.p else
 if VA q.o ≠ 0 then VA q.o else
 if q.g = Zy then 0 else if ¬ (q.g.k = 1 ∨ q.g.k = 2) then 70 else VA q.g
theorem Z7l {x : Tm} (h : ¬ (x.k = 1 ∨ x.k = 2 ∨ x.k = 3)) : VA x = 70 := by
 unfold VA
 rw [if_neg (by omega), if_neg (by omega)]
theorem Z9t {c : UInt8} (h : 65 ≤ c.toNat ∧ c.toNat ≤ 90) : lowB c ≠ c := by
 unfold lowB
 rw [if_pos h]
 intro he
 have := congrArg UInt8.toNat he
 rw [UInt8.toNat_ofNat_of_lt' (by show c.toNat + 32 < 256; omega)] at this
 omega
theorem Z8x {s : List UInt8} {i : Nat} (h : i < s.length) : (Zd s)[i]? = some (lowB s[i]) := by
 unfold Zd; rw [List.getElem?_map, List.getElem?_eq_getElem h]; rfl
theorem ZcD {s : List UInt8} {i : Nat} (h : i < s.length) (hu : 65 ≤ Z4 s i ∧ Z4 s i ≤ 90) : Zd s ≠ s := by
 intro he
 have h1 := Z8x h
 rw [he, List.getElem?_eq_getElem h] at h1
 have hb : Z4 s i = (s[i].toNat : Int) := by unfold Z4; rw [Int.toNat_natCast, List.getD, List.getElem?_eq_getElem h]; rfl
 exact Z9t (by omega) (Option.some.inj h1).symm
theorem Z9u {s : List UInt8} (hu : ∀ i : Nat, i < s.length → ¬ (65 ≤ Z4 s i ∧ Z4 s i ≤ 90)) : Zd s = s := by
 apply List.ext_getElem?
 intro i
 by_cases h : i < s.length
 · rw [Z8x h, List.getElem?_eq_getElem h]
   have hb : Z4 s i = (s[i].toNat : Int) := by unfold Z4; rw [Int.toNat_natCast, List.getD, List.getElem?_eq_getElem h]; rfl
   have := hu i h
   rw [Z7k (by omega)]
 · rw [List.getElem?_eq_none (by unfold Zd; simp; omega), List.getElem?_eq_none (by omega)]
def typB : List UInt8 := [104, 116, 116, 112, 58, 47, 47, 119, 119, 119, 46, 119, 51, 46, 111, 114, 103, 47, 49, 57, 57, 57, 47, 48, 50, 47, 50, 50, 45, 114, 100, 102, 45, 115, 121, 110, 116, 97, 120, 45, 110, 115, 35, 116, 121, 112, 101]
def domB : List UInt8 := [104, 116, 116, 112, 58, 47, 47, 119, 119, 119, 46, 119, 51, 46, 111, 114, 103, 47, 50, 48, 48, 48, 47, 48, 49, 47, 114, 100, 102, 45, 115, 99, 104, 101, 109, 97, 35, 100, 111, 109, 97, 105, 110]
def ranB : List UInt8 := [104, 116, 116, 112, 58, 47, 47, 119, 119, 119, 46, 119, 51, 46, 111, 114, 103, 47, 50, 48, 48, 48, 47, 48, 49, 47, 114, 100, 102, 45, 115, 99, 104, 101, 109, 97, 35, 114, 97, 110, 103, 101]
def subP : List UInt8 := [104, 116, 116, 112, 58, 47, 47, 119, 119, 119, 46, 119, 51, 46, 111, 114, 103, 47, 50, 48, 48, 48, 47, 48, 49, 47, 114, 100, 102, 45, 115, 99, 104, 101, 109, 97, 35, 115, 117, 98, 80, 114, 111, 112, 101, 114, 116, 121, 79, 102]
def subC : List UInt8 := [104, 116, 116, 112, 58, 47, 47, 119, 119, 119, 46, 119, 51, 46, 111, 114, 103, 47, 50, 48, 48, 48, 47, 48, 49, 47, 114, 100, 102, 45, 115, 99, 104, 101, 109, 97, 35, 115, 117, 98, 67, 108, 97, 115, 115, 79, 102]
def rdfB : List UInt8 := [104, 116, 116, 112, 58, 47, 47, 119, 119, 119, 46, 119, 51, 46, 111, 114, 103, 47, 49, 57, 57, 57, 47, 48, 50, 47, 50, 50, 45, 114, 100, 102, 45, 115, 121, 110, 116, 97, 120, 45, 110, 115, 35]
def Z7m : List UInt8 := [104, 116, 116, 112, 58, 47, 47, 119, 119, 119, 46, 119, 51, 46, 111, 114, 103, 47, 50, 48, 48, 48, 47, 48, 49, 47, 114, 100, 102, 45, 115, 99, 104, 101, 109, 97, 35]
abbrev iriT (s : List UInt8) : Tm := ⟨1, s, [], []⟩
abbrev dr2 (a b : Qd) : Qd × Bool := (⟨b.s, iriT typB, a.o, a.g⟩, decide (a.p = iriT domB ∧ a.s = b.p))
abbrev dr3 (a b : Qd) : Qd × Bool := (⟨b.o, iriT typB, a.o, a.g⟩, decide (a.p = iriT ranB ∧ a.s = b.p))
abbrev chn (s : List UInt8) (a b : Qd) : Qd × Bool := (⟨a.s, a.p, b.o, a.g⟩, decide (a.p = iriT s ∧ b.p = a.p ∧ a.o = b.s))
abbrev dr7 (a b : Qd) : Qd × Bool := (⟨b.s, a.o, b.o, a.g⟩, decide (a.p = iriT subP ∧ a.s = b.p))
abbrev dr9 (a b : Qd) : Qd × Bool := (⟨b.s, iriT typB, a.o, a.g⟩, decide (a.p = iriT subC ∧ b.p = iriT typB ∧ b.o = a.s))
def ZA (n : Int) (a b : Qd) : Qd × Bool :=
 if n = 2 then dr2 a b else if n = 3 then dr3 a b else if n = 5 then chn subP a b else if n = 7 then dr7 a b else if n = 9 then dr9 a b else if n = 11 then chn subC a b else (Jk, false)
def Zm (n : Int) (a b : Qd) : Qd × Bool :=
 if Zx a = 0 ∧ Zx b = 0 ∧ a.g = b.g ∧ (ZA n a b).2 = true ∧ Zx (ZA n a b).1 = 0 then ((ZA n a b).1, true) else (Jk, false)
theorem Zf5 {s : List UInt8} (h : s.length ≤ 100) : TmSm (iriT s) := ⟨by show s.length ≤ _; omega, by simp, by simp⟩
theorem XX {n : Int} {a b : Qd} (ha : QdSm a) (hb : QdSm b) : QdSm (ZA n a b).1 := by
 obtain ⟨a1, a2, a3, a4⟩ := ha
 obtain ⟨b1, b2, b3, b4⟩ := hb
 have ht : TmSm (iriT typB) := Zf5 (by decide)
 have hz : TmSm Zy := ⟨by simp [Zy], by simp [Zy], by simp [Zy]⟩
 unfold ZA
 (repeat' split) <;> first | exact ⟨b1, ht, a3, a4⟩ | exact ⟨b3, ht, a3, a4⟩ | exact ⟨a1, a2, b3, a4⟩ | exact ⟨b1, a3, b3, a4⟩ | exact ⟨hz, hz, hz, hz⟩
theorem XV {x y : Tm} : x = y ↔ x.k = y.k ∧ x.t = y.t ∧ x.y = y.y ∧ x.l = y.l := by
 obtain ⟨a, b, c, d⟩ := x
 obtain ⟨e, f, g, h⟩ := y
 simp
theorem XA {n : Int} {a b : Qd} (h : ¬ (Zx a = 0 ∧ Zx b = 0 ∧ a.g = b.g ∧ (ZA n a b).2 = true ∧ Zx (ZA n a b).1 = 0)) : Zm n a b = (Jk, false) := if_neg h
theorem U4 {n : Int} {a b : Qd} (h : Zx a = 0 ∧ Zx b = 0 ∧ a.g = b.g ∧ (ZA n a b).2 = true ∧ Zx (ZA n a b).1 = 0) : Zm n a b = ((ZA n a b).1, true) := if_pos h
theorem Yy {n : Int} {a b : Qd} (h : ¬ (n = 2 ∨ n = 3 ∨ n = 5 ∨ n = 7 ∨ n = 9 ∨ n = 11)) : ZA n a b = (Jk, false) := by
 unfold ZA
 rw [if_neg (by omega), if_neg (by omega), if_neg (by omega), if_neg (by omega), if_neg (by omega), if_neg (by omega)]
structure St where
 r : Int
 a : Qd
 b : Qd
 q : Qd
 deriving DecidableEq
def St.row (s : St) : List SV := [.int .i64 s.r,
 .int .i64 s.a.s.k, .str s.a.s.t, .str s.a.s.y, .str s.a.s.l, .int .i64 s.a.p.k, .str s.a.p.t, .str s.a.p.y, .str s.a.p.l, .int .i64 s.a.o.k, .str s.a.o.t, .str s.a.o.y, .str s.a.o.l, .int .i64 s.a.g.k, .str s.a.g.t, .str s.a.g.y, .str s.a.g.l,
 .int .i64 s.b.s.k, .str s.b.s.t, .str s.b.s.y, .str s.b.s.l, .int .i64 s.b.p.k, .str s.b.p.t, .str s.b.p.y, .str s.b.p.l, .int .i64 s.b.o.k, .str s.b.o.t, .str s.b.o.y, .str s.b.o.l, .int .i64 s.b.g.k, .str s.b.g.t, .str s.b.g.y, .str s.b.g.l,
 .int .i64 s.q.s.k, .str s.q.s.t, .str s.q.s.y, .str s.q.s.l, .int .i64 s.q.p.k, .str s.q.p.t, .str s.q.p.y, .str s.q.p.l, .int .i64 s.q.o.k, .str s.q.o.t, .str s.q.o.y, .str s.q.o.l, .int .i64 s.q.g.k, .str s.q.g.t, .str s.q.g.y, .str s.q.g.l]
abbrev YK (s : St) : List SV := s.row
theorem Zv (l : List St) : Zz (l.map YK) = true := Yi _ (fun _ => rfl) l
instance : PlF YK := ⟨fun _ => rfl⟩
structure Wd where
 all : List Qd
 why : List St
 place : List (Qd × Int)
 at' : List (Qd × List Qd)
def Zbe (q : Qd) : Qd := ⟨q.g, Zy, q.p, Zy⟩
def Z65 (q : Qd) : Qd := ⟨q.g, q.s, q.p, Zy⟩
def Zbf (q : Qd) : Qd := ⟨q.g, Zy, q.p, q.o⟩
def atL (k : Qd) (l : List (Qd × List Qd)) : List Qd := (getA k l).getD []
def Z2M (k q : Qd) (l : List (Qd × List Qd)) : List (Qd × List Qd) := setA k (atL k l ++ [q]) l
def putM (w : Wd) (s : St) : Wd :=
 if (getA s.q w.place).isSome then w else ⟨w.all ++ [s.q], w.why ++ [s], setA s.q (w.all.length : Int) w.place, Z2M (Zbf s.q) s.q (Z2M (Z65 s.q) s.q (Z2M (Zbe s.q) s.q w.at'))⟩
def V3 : Wd := ⟨[], [], [], []⟩
def V4 (q : Qd) : St := ⟨0, Jk, Jk, q⟩
def ZR (l : List Qd) : Wd := l.foldl (fun w q => putM w (V4 q)) V3
abbrev intV (n : Int) : SV := .int .i64 n
abbrev qdsV (l : List Qd) : List (List SV) := l.map Zf
abbrev YQ (l : List (Qd × Int)) : List (List SV) := Z1e KQ intV l
abbrev atR (l : List (Qd × List Qd)) : List (List DC) := XI KQ 16 qdsV l
theorem ZT (l : List (Qd × Int)) : Zz (YQ l) = true := Zb3 KQ _ (fun _ => rfl) l
instance {l : List (Qd × Int)} : Pl (YQ l) := ⟨ZT l⟩
theorem Ut (l : List (Qd × List Qd)) : Xp (atR l) = true := Z8n KQ 16 _ (fun b => Yi _ (fun _ => rfl) b) l
instance {l : List (Qd × List Qd)} : PlD (atR l) := ⟨Ut l⟩
theorem ZcE {q k : Qd} {l : List Qd} {m : List (Qd × List Qd)} {i : Nat} (h : ixA k m = some (i, l)) {i1 i2 : Nat} {d : DC} {rows : List (List SV)} (h1 : i1 = i) (h2 : i2 = i) (hr : rows = qdsV (l ++ [q])) : ((atR m).modify i1 (putD d)).modify i2 (putD (.kid 16 rows)) = atR (Z2M k q m) := by
 subst h1 hr
 unfold Z2M atL
 rw [V2 h]
 exact Ze7 KQ 16 qdsV d h h2
theorem Zbg {q k : Qd} {m : List (Qd × List Qd)} (h : ixA k m = none) {i2 : Nat} {d : DC} {rows : List (List SV)} (h2 : i2 = (atR m).length) (hr : rows = qdsV [q]) : (atR m ++ [[.v (KQ.enc k), d]]).modify i2 (putD (.kid 16 rows)) = atR (Z2M k q m) := by
 subst hr
 unfold Z2M atL
 rw [UR h]
 exact Zb4 KQ 16 qdsV d h (by rw [h2]; simp [XI])
theorem Zbh (k q k' : Qd) (m : List (Qd × List Qd)) : atL k' (Z2M k q m) = if k' = k then atL k m ++ [q] else atL k' m := by
 unfold Z2M atL
 rw [US]
 split <;> rfl
theorem Zec (k q k' : Qd) (m : List (Qd × List Qd)) : (atL k' (Z2M k q m)).length ≤ (if k' = k then (atL k m).length + 1 else (atL k' m).length) := by
 rw [Zbh]; split <;> simp
def J6 (i : Nat) (q : Qd) : Qd := match i with | 0 => Zbe q | 1 => Z65 q | _ => Zbf q
def atN (q : Qd) (l : List (Qd × List Qd)) : Nat → List (Qd × List Qd)
 | 0 => l
 | i + 1 => Z2M (J6 i q) q (atN q l i)
theorem Z7n (q : Qd) (m : List (Qd × List Qd)) (n : Nat) (h : ∀ k, (atL k m).length ≤ n) : ∀ i k, (atL k (atN q m i)).length ≤ n + i
 | 0, k => h k
 | i + 1, k => by
   have h1 := Z7n q m n h i
   have := Zec (J6 i q) q k (atN q m i)
   unfold atN
   split at this
   · have := h1 (J6 i q); omega
   · have := h1 k; omega
structure WdOK (w : Wd) : Prop where
 len : w.why.length = w.all.length
 mem : ∀ q, q ∈ w.all ↔ (getA q w.place).isSome = true
 at3 : ∀ k, (atL k w.at').length ≤ 3 * w.all.length
theorem Uu : WdOK V3 := ⟨rfl, fun q => by simp [V3, getA], fun k => by simp [V3, atL, getA]⟩
theorem Z2N {w : Wd} {s : St} (h : (getA s.q w.place).isSome = true) : putM w s = w := by unfold putM; rw [if_pos h]
theorem Z3W {w : Wd} {s : St} (h : getA s.q w.place = none) : putM w s = ⟨w.all ++ [s.q], w.why ++ [s], setA s.q (w.all.length : Int) w.place, atN s.q w.at' 3⟩ := by unfold putM; rw [h]; rfl
theorem Z2O {w : Wd} (h : WdOK w) (s : St) : WdOK (putM w s) := by
 cases hg : getA s.q w.place with
 | some v => rw [Z2N (by rw [hg]; rfl)]; exact h
 | none =>
   rw [Z3W hg]
   refine ⟨by simp [h.len], fun q => ?_, fun k => ?_⟩
   · simp only [List.mem_append, List.mem_singleton, h.mem q, US]
     by_cases e : q = s.q
     · simp [e]
     · simp [e]
   · have := Z7n s.q w.at' _ h.at3 3 k
     simp only [List.length_append, List.length_singleton]; omega
theorem Z4J {w : Wd} (h : WdOK w) (s : St) (q : Qd) : q ∈ (putM w s).all ↔ q ∈ w.all ∨ q = s.q := by
 unfold putM
 split
 · rename_i hs
   constructor
   · exact .inl
   · rintro (h1 | rfl)
     · exact h1
     · exact (h.mem _).2 hs
 · simp
theorem Z7o (w : Wd) (s : St) : (putM w s).all.length ≤ w.all.length + 1 := by
 unfold putM
 split
 · omega
 · simp
theorem Z4K {α : Type} (f : α → St) : ∀ (l : List α) {w : Wd}, WdOK w → WdOK (l.foldl (fun w x => putM w (f x)) w) ∧ ∀ q, q ∈ (l.foldl (fun w x => putM w (f x)) w).all ↔ q ∈ w.all ∨ ∃ x ∈ l, q = (f x).q
 | [], w, h => ⟨h, fun q => by simp⟩
 | x :: l, w, h => by
   obtain ⟨h1, h2⟩ := Z4K f l (Z2O h (f x))
   refine ⟨h1, fun q => ?_⟩
   rw [List.foldl_cons, h2 q, Z4J h]
   simp only [List.mem_cons, exists_eq_or_imp, or_assoc]
theorem Z8y (l : List Qd) : WdOK (ZR l) := (Z4K V4 l Uu).1
theorem Z66 (l : List Qd) (q : Qd) : q ∈ (ZR l).all ↔ q ∈ l := by
 have := (Z4K V4 l Uu).2 q
 unfold ZR
 rw [this]
 simp [V3, V4]
theorem Z67 {α : Type} (f : α → St) : ∀ (l : List α) (w : Wd), (l.foldl (fun w x => putM w (f x)) w).all.length ≤ w.all.length + l.length
 | [], w => by simp
 | x :: l, w => by
   have := Z67 f l (putM w (f x))
   have := Z7o w (f x)
   simp only [List.foldl_cons, List.length_cons]; omega
theorem Z68 (l : List Qd) : (ZR l).all.length ≤ l.length := by
 have := Z67 V4 l V3
 unfold ZR
 simpa [V3] using this
theorem Zf6 {w : Wd} (h : WdOK w) {q : Qd} {x : Nat × Int} (hx : ixA q w.place = some x) : q ∈ w.all := (h.mem q).2 (by obtain ⟨i, v⟩ := x; rw [V2 hx]; rfl)
theorem Zbi {w : Wd} (h : WdOK w) {q : Qd} (hx : ixA q w.place = none) : q ∉ w.all := fun hm => by have := (h.mem q).1 hm; rw [UR hx] at this; cases this
def Z2P (known : List Qd) (s : St) : Bool := decide ((Zm s.r s.a s.b).2 = true ∧ (Zm s.r s.a s.b).1 = s.q ∧ s.a ∈ known ∧ s.b ∈ known)
theorem Zed {k : List Qd} {s : St} (h : ¬ ((Zm s.r s.a s.b).2 = true ∧ (Zm s.r s.a s.b).1 = s.q ∧ s.a ∈ k ∧ s.b ∈ k)) : Z2P k s = false := decide_eq_false h
theorem Z8z {k : List Qd} {s : St} (h : (Zm s.r s.a s.b).2 = true ∧ (Zm s.r s.a s.b).1 = s.q ∧ s.a ∈ k ∧ s.b ∈ k) : Z2P k s = true := decide_eq_true h
def V5 : List Qd → List St → Bool
 | _, [] => true
 | known, s :: l => Z2P known s && V5 (s.q :: known) l
theorem Z69 {k k' : List Qd} (h : ∀ q, q ∈ k ↔ q ∈ k') (s : St) : Z2P k s = Z2P k' s := by
 unfold Z2P; simp only [h]
theorem Z2Q : ∀ {l : List St} {k k' : List Qd}, (∀ q, q ∈ k ↔ q ∈ k') → V5 k l = V5 k' l
 | [], _, _, _ => rfl
 | s :: l, k, k', h => by
   unfold V5
   rw [Z69 h, Z2Q (l := l) (k := s.q :: k) (k' := s.q :: k') fun q => by simp [h q]]
def YY (l : List Qd) : List (Qd × Int) := l.foldl (fun m q => setA q 1 m) []
theorem UY (l : List Qd) (q : Qd) : YY (l ++ [q]) = setA q 1 (YY l) := by unfold YY; rw [List.foldl_append]; rfl
theorem Z3X (q : Qd) : ∀ (l : List Qd) (m : List (Qd × Int)), getA q (l.foldl (fun m q => setA q 1 m) m) = if q ∈ l then some 1 else getA q m
 | [], m => by simp
 | x :: l, m => by
   rw [List.foldl_cons, Z3X q l, US]
   by_cases h : q ∈ l
   · simp [h]
   · by_cases e : q = x
     · subst e; simp
     · simp [h, e]
theorem Z6a (q : Qd) (l : List Qd) : getA q (YY l) = if q ∈ l then some 1 else none := Z3X q l []
theorem Jt {q : Qd} {l : List Qd} {x : Nat × Int} (h : ixA q (YY l) = some x) : q ∈ l ∧ x.2 = 1 := by
 obtain ⟨i, v⟩ := x
 have h1 := V2 h
 rw [Z6a] at h1
 by_cases e : q ∈ l
 · rw [if_pos e] at h1; injection h1 with h1; exact ⟨e, h1.symm⟩
 · rw [if_neg e] at h1; cases h1
theorem Z0w {q : Qd} {l : List Qd} (h : ixA q (YY l) = none) : q ∉ l := fun e => by
 have h1 := UR h
 rw [Z6a, if_pos e] at h1; cases h1
theorem Zbj {l : List Qd} {sts : List St} {i : Nat} (h : i < sts.length) : V5 (l ++ (sts.take i).map St.q) (sts.drop i) = (Z2P (l ++ (sts.take i).map St.q) sts[i] && V5 (l ++ (sts.take (i + 1)).map St.q) (sts.drop (i + 1))) := by
 rw [List.drop_eq_getElem_cons h]
 conv => lhs; unfold V5
 rw [Z2Q (l := sts.drop (i + 1)) (k := sts[i].q :: (l ++ (sts.take i).map St.q)) (k' := l ++ (sts.take (i + 1)).map St.q) fun q => by
   rw [List.take_succ_eq_append_getElem h, List.map_append]
   simp [or_comm, or_assoc]]
end Go.Our
namespace Go.Sx
open Go
def Mx.at (M : Mx) (N : Nat) (ro : Option (Nat × Nat)) (η : Env) : Mx := ⟨M.P, ⟨M.C.T, N, M.C.S, ro⟩, M.w0, M.F, η⟩
def endI (M : Mx) (res : List ResultVar) (K : SV → Hps → Nat → Prop) : Post
 | .normal, fr, O, nx => Z4q fr O fun O => Z1d M.C fr O res fun vs => K (Z4p vs) O nx
 | .ret, fr, O, nx => Z4q fr O fun O => Z1d M.C fr O res fun vs => K (Z4p vs) O nx
 | .exit _, _, _, _ => STOP "exit"
def Zbp : List Nat → List SV → Fr → (Fr → Prop) → Prop
 | [], ags, fr, K => match ags with
   | [] => match Z75 (lkp DS fr) with
     | true => STOP "round"
     | false => K fr
   | _ :: _ => STOP "round"
 | p :: ps, ags, fr, K => match ags with
   | a :: ags => Zbp ps ags ((p, a) :: fr) K
   | [] => STOP "round"
def Zbq (j : Nat) (K : SV → Hps → Nat → Prop) : Post := fun e fr O nx => match lkp j O with
 | some h => match h with
   | .lp st li fr0 => match st with
     | .busy => match e with
       | .normal => Z3g j (.lp .ready li fr0) O fun O => K (.bool true) O nx
       | .ret => Z3g j (.lp (.left none) li fr0) O fun O => K (.bool false) O nx
       | .exit id => Z3g j (.lp (.left (some id)) li fr0) O fun O => K (.bool false) O nx
     | _ => STOP "record"
   | _ => STOP "record"
 | none => STOP "record"
def Zdx (M : Mx) (j : Nat) (body : Code) (K : SV → Hps → Nat → Prop) : Post := fun e fr O nx => match e with
 | .normal => match lkp j O with
   | some h => match h with
     | .lp st li fr0 => match st with
       | .ready => Z3g j (.lp .busy li fr0) O fun O => run M body fr O nx (Zbq j K)
       | _ => STOP "record"
     | _ => STOP "record"
   | none => STOP "record"
 | _ => STOP "assignment"
def noDS : Fr → (Fr → Prop) → Prop
 | [], K => K []
 | (t, v) :: r, K => match Nat.beq t DS with
   | true => noDS r K
   | false => noDS r fun r => K ((t, v) :: r)
def ZcF (fr : Fr) (d : Nat) (K : Fr → Prop) : Prop := match lkp DS fr with
 | some v => match v with
   | .dfs l => K ((DS, .dfs (.ptr (.loc d) 0 0 0 :: l)) :: fr)
   | _ => K ((DS, .dfs [.ptr (.loc d) 0 0 0]) :: fr)
 | none => K ((DS, .dfs [.ptr (.loc d) 0 0 0]) :: fr)
def Zbr (j : Nat) (frK : (Fr → Prop) → Prop) (Q : Post) : SV → Hps → Nat → Prop := fun _ O nx => match lkp j O with
 | some h => match h with
   | .lp st _ _ => match st with
     | .ready => Z3h j O fun O => frK fun fr => Q .normal fr O nx
     | .busy => STOP "record"
     | .left jump => match jump with
       | none => Z3h j O fun O => frK fun fr => Q .ret fr O nx
       | some id => Z3h j O fun O => frK fun fr => Q (.exit id) fr O nx
   | _ => STOP "record"
 | none => STOP "record"
section
variable {M : Mx} {η : Env} {w : World} {O : Hps} {nx : Nat}
theorem SOK.longer (h : SOK M) {η : Env} (hp : M.η0 <+: η) {N : Nat} {ro : Option (Nat × Nat)} : SOK (M.at N ro η) := by
 intro b hh hb
 have hb' : lkS M.C b = some hh := by cases b <;> exact hb
 obtain ⟨h1, h2⟩ := h b hh hb'
 obtain ⟨x, hx, _⟩ := h1.lt
 exact ⟨h1.mono hp, fun k f => h2 k (feet.less hp hx f)⟩
theorem HeapOK.at (H : HeapOK M η w O nx) {N : Nat} {ro : Option (Nat × Nat)} : HeapOK (M.at N ro η) η w O nx := ⟨List.prefix_rfl, H.len, H.own, H.fr, H.sok.longer H.pre⟩
theorem HeapOK.back {η0 : Env} {N : Nat} {ro : Option (Nat × Nat)} (H : HeapOK (M.at N ro η0) η w O nx) (hp : M.η0 <+: η0) (hs : SOK M) : HeapOK M η w O nx := ⟨hp.trans H.pre, H.len, H.own, H.fr, hs⟩
theorem Z6d (hT : TabOK M.P M.C.T) {g : FuncId} {fn : Func} {c : Code} (hf : M.P.funcs[g]? = some fn) (hb : fn.body = some c) (N : Nat) (hN : fn.ntmps = N) (hND : N ≤ DS) {args : List SV} (hlen : args.length ≤ N) {res : List ResultVar} (hres : fn.results = res.toArray)
   {K : SV → Hps → Nat → Prop} {vs : List Value} (H : HeapOK M η w O nx) (hd : DenL η args vs) (h : run (M.at N none η) c (Wt 0 args) O nx (endI (M.at N none η) res K))
   {R : Ending → World → Prop} (hR : ∀ v r w' O' nx' η', η <+: η' → HeapOK M η' w' O' nx' → Den η' r v → K r O' nx' → R (.returned v) w') : Calls M.P g ⟨vs⟩ w R := by
 have hl := ZQ hd
 refine callsIn_wide (n := 0) |>.1 (callsIn_of_wp_marks hf hb trivial ?_)
 have hm : Models (M.at N none η) η (Wt 0 args) O nx { tmps := ⟨vs⟩ ++ Array.replicate (fn.ntmps - (Array.mk vs).size) undef, defers := [] } w := by
   refine ⟨H.at, ?_, hND, Z88 (Nat.le_trans hlen hND), (fun l j h => by cases h), ?_⟩
   · simp only [Array.size_append, Array.size_replicate, hN, List.size_toArray]
     show vs.length + (N - vs.length) = N
     omega
   · intro t sv ht
     obtain ⟨v, _, h1, h2⟩ := Z4r hd ht
     have hlt := (List.getElem?_eq_some_iff.1 h1).1
     simp only [Nat.sub_zero] at h1 hlt
     rw [Array.getD_eq_getD_getElem?, Array.getElem?_append_left (by simpa using hlt)]
     have : (Array.mk vs)[t]? = some v := by simpa using h1
     rw [this]; exact h2
 refine Code.wpIn_mono ?_ (Y1 (M := M.at N none η) hT c h η _ w hm)
 have fin : ∀ {η1 : Env} {fr1 : Fr} {O1 : Hps} {nx1 : Nat} {a : Act} {w1 : World}, Models (M.at N none η) η1 fr1 O1 nx1 a w1 → (Z4q fr1 O1 fun O1 => Z1d (M.at N none η).C fr1 O1 res fun vs => K (Z4p vs) O1 nx1) →
     LeavesInM Fence.wide 0 M.P fn a.tmps R a.defers .returning w1 := by
   intro η1 fr1 O1 nx1 a w1 hm1 hr
   exact Z5C (M := M.at N none η) hT hres hm1 hr fun w2 O2 v r H2 hd2 hk => hR v r w2 O2 nx1 η1 H2.pre (H2.back H.pre H.sok) hd2 hk
 intro e a w hq
 cases e with
 | normal => obtain ⟨η1, fr1, O1, nx1, hm1, hq⟩ := hq; exact fin hm1 hq
 | ret => obtain ⟨η1, fr1, O1, nx1, hm1, hq⟩ := hq; exact fin hm1 hq
 | exit id => obtain ⟨η1, fr1, O1, nx1, hm1, hq⟩ := hq; exact hq.out.elim
 | goto l => exact hq.elim
 | panic ch => exact hq.elim
 | outgrown => exact hq.elim
def VB : List Nat → List Value → Array Value → Array Value
 | p :: ps, v :: vs, t => VB ps vs (t.setIfInBounds p v)
 | _, _, t => t
theorem Z6e : ∀ (ps : List Nat) (vs : List Value) (t : Array Value), ((ps.toArray.zip ⟨vs⟩).foldl (fun tmps (p : Nat × Value) => tmps.setIfInBounds p.1 p.2) t) = VB ps vs t := by
 intro ps vs t
 have h1 : (ps.toArray.zip ⟨vs⟩ : Array (Nat × Value)) = (ps.zip vs).toArray := by simp
 rw [h1, ← Array.foldl_toList]
 simp only
 induction ps generalizing vs t with
 | nil => simp [VB]
 | cons p ps ih =>
   cases vs with
   | nil => simp [VB]
   | cons v vs =>
     simp only [List.zip_cons_cons, List.foldl_cons, VB]
     exact ih vs (t.setIfInBounds p v) (by simp)
theorem Z2T : ∀ (ps : List Nat) (vs : List Value) (t : Array Value), (VB ps vs t).size = t.size
 | [], vs, t => by simp [VB]
 | p :: ps, [], t => by simp [VB]
 | p :: ps, v :: vs, t => by simp only [VB]; rw [Z2T ps vs]; simp
theorem Z8A {η : Env} : ∀ {ps : List Nat} {ags : List SV} {fr : Fr} {K : Fr → Prop} {vs : List Value} {t : Array Value}, Zbp ps ags fr K → DenL η ags vs → TmpsOK η t fr → (∀ p ∈ ps, p < t.size) → ∃ fr', K fr' ∧ Z75 (lkp DS fr') = false ∧ TmpsOK η (VB ps vs t) fr' ∧ vs.length = ps.length
 | [], ags, fr, K, vs, t, h, hd, ht, hp => by
   simp only [Zbp] at h
   split at h
   · split at h
     · exact h.out.elim
     · rename_i hn
       simp only [DenL] at hd
       subst hd
       exact ⟨fr, h, hn, ht, rfl⟩
   · exact h.out.elim
 | p :: ps, ags, fr, K, vs, t, h, hd, ht, hp => by
   simp only [Zbp] at h
   split at h
   · rename_i a ags
     simp only [DenL] at hd
     obtain ⟨u, us, rfl, h1, h2⟩ := hd
     have hpt := hp p (List.mem_cons_self ..)
     obtain ⟨fr', h3, h4, h5, h6⟩ := Z8A (t := t.setIfInBounds p u) h h2 (fun s sv hs => by
       rw [Zi] at hs
       split at hs
       · rename_i e; subst e; injection hs with hs; subst hs
         simpa [Array.getD_eq_getD_getElem?, Array.getElem?_setIfInBounds, hpt] using h1
       · rename_i e
         rw [Array.getD_eq_getD_getElem?, Array.getElem?_setIfInBounds, if_neg (Ne.symm e), ← Array.getD_eq_getD_getElem?]
         exact ht s sv hs) (fun q hq => by rw [Array.size_setIfInBounds]; exact hp q (List.mem_cons_of_mem _ hq))
     exact ⟨fr', h3, h4, h5, by simp [h6]⟩
   · exact h.out.elim
theorem HeapOK.record (H : HeapOK M η w O nx) {j : Nat} {st st' : LpS} {li : LpI} {fr0 : Fr} (hj : lkp j O = some (.lp st li fr0)) {e : Ent} (he : η[j]? = some (some e)) :
   ∃ r, w.heap[e.g]? = some (.loop r) ∧ r.state = st.state ∧ r.pending = st.jump ∧ ∀ r' : Loop, r'.state = st'.state → r'.pending = st'.jump → r'.params = r.params → r'.assign = r.assign → r'.body = r.body → r'.tmps = r.tmps → HeapOK M η (w.putObj e.g (.loop r')) (setK j (.lp st' li fr0) O) nx := by
 have hs := (H.own.1 j _ hj).1
 simp only [HpSat] at hs
 obtain ⟨e', r, h1, h2, h3, h4, h5, h6, h7, h8, h9, h10⟩ := hs
 have h1' : η[j]? = some (some e') := h1
 rw [he] at h1'
 injection h1' with h1'
 injection h1' with h1'
 subst h1'
 have hlt := (Array.getElem?_eq_some_iff.1 h3).1
 refine ⟨r, h3, h4, h5, fun r' q1 q2 q3 q4 q5 q6 => ?_⟩
 refine H.upd hj he (fun k hk => World.putObj_heap_other hk) World.putObj_size rfl rfl rfl ?_
 simp only [HpSat]
 exact ⟨e, r', h1, h2, World.putObj_heap_same hlt, q1, q2, by rw [q3]; exact h6, by rw [q4]; exact h7, by rw [q5]; exact h8, by rw [q6]; exact h9, by rw [q6]; exact h10⟩
theorem YIELD.of (hT : TabOK M.P M.C.T) {j : Nat} {li : LpI} {fr0 : Fr} {args : List SV} {K : SV → Hps → Nat → Prop} (hj : lkp j O = some (.lp .ready li fr0)) (hps : li.ps.all (fun p => Nat.blt p li.N) = true) (hND : Nat.ble li.N DS = true)
   (h : ∀ (η1 : Env) (l : Nat), η1.length = nx → Zbp li.ps args fr0 fun fr => run (M.at li.N (some (l, j)) η1) li.asg fr O nx (Zdx (M.at li.N (some (l, j)) η1) j li.body K)) : YIELD M j args O nx K := by
 refine ⟨fun η w vs e H hd he => ?_⟩
 obtain ⟨r, hr, hst, hpe, _⟩ := H.record (st' := .ready) hj he
 have hs := (H.own.1 j _ hj).1
 simp only [HpSat] at hs
 obtain ⟨e', r', h1, h2, h3, h4, h5, h6, h7, h8, h9, h10⟩ := hs
 have h1' : η[j]? = some (some e') := h1
 rw [he] at h1'
 injection h1' with h1'
 injection h1' with h1'
 subst h1'
 rw [hr] at h3
 injection h3 with h3
 injection h3 with h3
 subst h3
 obtain ⟨fr, hrun, hnd, htm, hlen⟩ := Z8A (h η e.g H.len) hd h10 (fun p hp => by rw [h9]; simpa [Nat.blt_eq] using List.all_eq_true.1 hps p hp)
 have hpr : r.params = li.ps.toArray := by rw [← h6]
 refine ⟨r.fn, _, r.assign, r.body, run_yield hr (by rw [hpr]; simpa using hlen), ?_⟩
 rw [h7, h8]
 have hfold : ((r.params.zip ⟨vs⟩).foldl (fun tmps (x : Nat × Value) => tmps.setIfInBounds x.1 x.2) r.tmps) = VB li.ps vs r.tmps := by rw [hpr]; exact Z6e li.ps vs r.tmps
 have hfold' : ((r.params.zip ⟨vs⟩).foldl (fun tmps x => match x with | (t, a) => tmps.setIfInBounds t a) r.tmps) = VB li.ps vs r.tmps := hfold
 rw [hfold']
 generalize hMr : M.at li.N (some (e.g, j)) η = Mr at hrun
 have hTr : TabOK Mr.P Mr.C.T := by subst hMr; exact hT
 have hPr : Mr.P = M.P := by subst hMr; rfl
 have hfr : Mr.fence = Fence.wide.inRound e.g := by subst hMr; rfl
 have hm : Models Mr η fr O nx { tmps := VB li.ps vs r.tmps, defers := [] } w := by
   subst hMr
   refine ⟨H.at, by rw [Z2T]; exact h9, Nat.le_of_ble_eq_true hND, (DfOK.no hnd).2 rfl, fun l' j' hl => ?_, htm⟩
   injection hl with hl
   injection hl with hl1 hl2
   subst hl1 hl2
   exact ⟨e, he, rfl⟩
 refine roundIn_of_wpIn trivial ?_
 rw [← hPr, ← hfr]
 refine Code.wpIn_mono ?_ (Y1 hTr li.asg hrun η _ w hm)
 intro ex a1 w1 hq
 cases ex with
 | exit id => obtain ⟨η1, fr1, O1, nx1, hm1, hq⟩ := hq; exact hq.out.elim
 | ret => obtain ⟨η1, fr1, O1, nx1, hm1, hq⟩ := hq; exact hq.out.elim
 | goto l => exact hq.elim
 | panic ch => exact hq.elim
 | outgrown => exact hq.elim
 | normal =>
   obtain ⟨η1, fr1, O1, nx1, hm1, hq⟩ := hq
   simp only [Zdx] at hq
   split at hq
   case h_2 => exact hq.out.elim
   rename_i hh hj1
   split at hq
   case h_2 => exact hq.out.elim
   rename_i st1 li1 fr01
   split at hq
   case h_2 => exact hq.out.elim
   rw [XZ] at hq
   obtain ⟨e1, he1, heg⟩ := hm1.ro e.g j (by subst hMr; rfl)
   obtain ⟨r1, hr1, hs1, hp1, hup1⟩ := hm1.heap.record (st' := .busy) hj1 he1
   rw [heg] at hr1 hup1
   refine ⟨_, run_beginRound hr1 hs1, ?_⟩
   have hm2 : Models Mr η1 fr1 (setK j (.lp .busy li1 fr01) O1) nx1 a1 (w1.putObj e.g (.loop { r1 with state := .busy })) := ⟨hup1 _ rfl hp1 rfl rfl rfl rfl, hm1.size, hm1.nds, hm1.defers, hm1.ro, hm1.frame⟩
   refine Code.wpIn_mono ?_ (Y1 hTr li.body hq η1 a1 _ hm2)
   have fin : ∀ {ex : Ex} {η2 : Env} {fr2 : Fr} {O2 : Hps} {nx2 : Nat} {a2 : Act} {w2 : World} (jump : Option Code), Models Mr η2 fr2 O2 nx2 a2 w2 → Zbq j K ex fr2 O2 nx2 → (match ex with | .normal => jump = none | .ret => jump = some .ret | .exit id => jump = some (.exit id)) →
       ∃ v w', (Instr.endRound e.g jump).run Mr.P w2 = .ok v w' ∧ ∃ v', Ending.returned v = .returned v' ∧ ∃ r O' nx' η', η <+: η' ∧ HeapOK M η' w' O' nx' ∧ Den η' r v' ∧ K r O' nx' := by
     intro ex η2 fr2 O2 nx2 a2 w2 jump hm2 hq hj'
     unfold Zbq at hq
     split at hq
     case h_2 => exact hq.out.elim
     rename_i hh hj2
     split at hq
     case h_2 => exact hq.out.elim
     rename_i st2 li2 fr02
     split at hq
     case h_2 => exact hq.out.elim
     obtain ⟨e2, he2, heg2⟩ := hm2.ro e.g j (by subst hMr; rfl)
     have hpre : η <+: η2 := by have := hm2.heap.pre; subst hMr; exact this
     have back : ∀ {w' : World} {O' : Hps}, HeapOK Mr η2 w' O' nx2 → HeapOK M η2 w' O' nx2 := fun h => by subst hMr; exact h.back H.pre H.sok
     cases ex with
     | normal =>
       simp only at hj'
       subst hj'
       simp only [XZ] at hq
       obtain ⟨r2, hr2, hs2, hp2, hup2⟩ := hm2.heap.record (st' := .ready) hj2 he2
       rw [heg2] at hr2 hup2
       exact ⟨_, _, run_endRound none hr2, _, rfl, .bool true, _, _, η2, hpre, back (hup2 _ rfl rfl rfl rfl rfl rfl), (by simp only [Den]; rfl), hq⟩
     | ret =>
       simp only at hj'
       subst hj'
       simp only [XZ] at hq
       obtain ⟨r2, hr2, hs2, hp2, hup2⟩ := hm2.heap.record (st' := .left none) hj2 he2
       rw [heg2] at hr2 hup2
       exact ⟨_, _, run_endRound (some .ret) hr2, _, rfl, .bool false, _, _, η2, hpre, back (hup2 _ rfl rfl rfl rfl rfl rfl), (by simp only [Den]; rfl), hq⟩
     | exit id =>
       simp only at hj'
       subst hj'
       simp only [XZ] at hq
       obtain ⟨r2, hr2, hs2, hp2, hup2⟩ := hm2.heap.record (st' := .left (some id)) hj2 he2
       rw [heg2] at hr2 hup2
       exact ⟨_, _, run_endRound (some (.exit id)) hr2, _, rfl, .bool false, _, _, η2, hpre, back (hup2 _ rfl rfl rfl rfl rfl rfl), (by simp only [Den]; rfl), hq⟩
   intro ex a2 w2 hq2
   cases ex with
   | normal => obtain ⟨η2, fr2, O2, nx2, hm2, hq2⟩ := hq2; exact fin none hm2 hq2 rfl
   | ret => obtain ⟨η2, fr2, O2, nx2, hm2, hq2⟩ := hq2; exact fin (some .ret) hm2 hq2 rfl
   | exit id => obtain ⟨η2, fr2, O2, nx2, hm2, hq2⟩ := hq2; exact fin (some (.exit id)) hm2 hq2 rfl
   | goto l => exact hq2.elim
   | panic ch => exact hq2.elim
   | outgrown => exact hq2.elim
theorem Z7r {K : Fr → Prop} : ∀ {fr : Fr}, noDS fr K → ∃ fr0, K fr0 ∧ lkp DS fr0 = none ∧ ∀ t v, lkp t fr0 = some v → lkp t fr = some v
 | [], h => ⟨[], h, rfl, fun t v h => h⟩
 | (d, u) :: r, h => by
   unfold noDS at h
   split at h
   · rename_i e
     have e := beq_eq e
     obtain ⟨fr0, h1, h0, h2⟩ := Z7r h
     refine ⟨fr0, h1, h0, fun t v ht => ?_⟩
     rw [Zi]
     split
     · rename_i e2
       rw [e2, e, h0] at ht; cases ht
     · exact h2 t v ht
   · rename_i e
     have e := J1 e
     obtain ⟨fr0, h1, h0, h2⟩ := Z7r h
     refine ⟨(d, u) :: fr0, h1, by rw [Zi, if_neg (Ne.symm e)]; exact h0, fun t v ht => ?_⟩
     rw [Zi] at ht ⊢
     split
     · rename_i e; rw [if_pos e] at ht; exact ht
     · rename_i e; rw [if_neg e] at ht; exact h2 t v ht
theorem Z9z (hT : TabOK M.P M.C.T) {gf g : FuncId} {fn : Func} {c : Code} {cap : List SV} (hcall : ∀ args w, (callFunc gf args).run M.P w = .ok (.enter g args) w) (hf : M.P.funcs[g]? = some fn) (hb : fn.body = some c) (N : Nat) (hN : fn.ntmps = N) (hND : N ≤ DS) (hlen : cap.length + 1 ≤ N) (hres : fn.results = #[])
   {f : Operand} {Q : Post} {a a' : Act} {η1 : Env} {w1 : World} {O1 : Hps} {n1 j l : Nat} (hev : ∃ vs, a.eval f = .func (.func gf) #[] ⟨vs⟩ ∧ DenL η1 cap vs) (H1 : HeapOK M η1 w1 O1 n1) (hj : η1[j]? = some (some ⟨l, 0, 0⟩)) {frK : (Fr → Prop) → Prop}
   (hfrK : ∀ {K : Fr → Prop}, frK K → ∃ fr', K fr' ∧ ∀ η' w' O' nx', η1 <+: η' → HeapOK M η' w' O' nx' → Models M η' fr' O' nx' a' w')
   (h : run (M.at N none η1) c (Wt 0 (.yf (.loc j) :: cap)) O1 n1 (endI (M.at N none η1) [] (Zbr j frK Q))) :
   ∃ (d : Deferred) (w1' : World) (f' : FuncId) (args : Array Value) (w2 : World), (resolve a.eval (rangeCall f l) 0).run M.P w1 = .ok d w1' ∧ (∀ f', Target.leads M.P w1' d.target d.args = some f' → M.fence.fn f') ∧ (invoke d.target d.args).run M.P w1' = .ok (.enter f' args) w2 ∧
     (M.fence.depth.isSome = true → 1 ≤ 0) ∧ CallsIn M.fence (0 - 1) M.P f' args w2 (rangePost M.fence 0 M.P l (Zai M Q) a') := by
 obtain ⟨vs, hv, hd⟩ := hev
 refine ⟨{ target := .fn (.func gf) ⟨vs⟩, args := #[.func (.yield l) #[] #[]] }, w1, g, #[.func (.yield l) #[] #[]] ++ ⟨vs⟩, w1, ?_, fun f' _ => M.all f', ?_, (fun h => by cases h), ?_⟩
 · simp only [resolve, hv]
   simp [go_sem]
 · simp [invoke, go_sem, hcall]
 · have hargs : (#[.func (.yield l) #[] #[]] ++ (⟨vs⟩ : Array Value)) = ⟨Value.func (.yield l) #[] #[] :: vs⟩ := by apply Array.ext'; simp
   rw [hargs]
   have hd1 : DenL η1 (.yf (.loc j) :: cap) (Value.func (.yield l) #[] #[] :: vs) := by
     simp only [DenL, Den]
     exact ⟨_, _, rfl, ⟨_, hj, rfl⟩, hd⟩
   refine callsIn_wide.2 (Z6d hT hf hb N hN hND (by simpa using hlen) (by simpa using hres) H1 hd1 h fun v r w' O' nx' η' hp H' hd' hk => ?_)
   unfold Zbr at hk
   split at hk
   case h_2 => exact hk.out.elim
   rename_i hh hj'
   split at hk
   case h_2 => exact hk.out.elim
   rename_i st li fr0
   have hje : η'[j]? = some (some ⟨l, 0, 0⟩) := Env.get_mono (b := .loc j) hp hj
   obtain ⟨r1, hr1, hs1, hp1, _⟩ := H'.record (st' := .ready) hj' hje
   obtain ⟨s1, p1, c1, c2, c3, c4, c5, c6⟩ := r1
   simp only at hr1 hs1 hp1
   subst hs1 hp1
   have hdrop : HeapOK M η' (w'.putObj l (.loop { state := .exhausted, pending := st.jump, fn := c1, tmps := c2, params := c3, assign := c4, body := c5, defers := c6 })) (delK j O') nx' := H'.drop hj' hje (fun k hk => World.putObj_heap_other hk) World.putObj_size rfl rfl rfl (Nat.le_refl _)
   split at hk
   · rw [J0] at hk
     obtain ⟨fr', h1, h2⟩ := hfrK hk
     exact ⟨_, _, run_endLoop hr1 (by simp [LpS.state]), ⟨η', fr', _, nx', h2 η' _ _ _ hp hdrop, h1⟩⟩
   · exact hk.out.elim
   · split at hk
     · rw [J0] at hk
       obtain ⟨fr', h1, h2⟩ := hfrK hk
       exact ⟨_, _, run_endLoop hr1 (by simp [LpS.state]), wpIn_ret ⟨η', fr', _, nx', h2 η' _ _ _ hp hdrop, h1⟩⟩
     · rw [J0] at hk
       obtain ⟨fr', h1, h2⟩ := hfrK hk
       exact ⟨_, _, run_endLoop hr1 (by simp [LpS.state]), wpIn_exit ⟨η', fr', _, nx', h2 η' _ _ _ hp hdrop, h1⟩⟩
theorem ZcG {fr : Fr} {d : Nat} {K : Fr → Prop} (h : ZcF fr d K) : ∃ l, K ((DS, .dfs (.ptr (.loc d) 0 0 0 :: l)) :: fr) ∧ ∀ {η : Env} {ds : List Deferred}, DfOK η ds (lkp DS fr) → DfL η l ds := by
 unfold ZcF at h
 split at h
 · rename_i v hv
   split at h
   · rename_i l
     exact ⟨l, h, fun hd => by rw [hv] at hd; exact hd⟩
   · rename_i hn
     refine ⟨[], h, fun hd => ?_⟩
     rw [hv] at hd
     have : Z75 (some v) = false := by cases v <;> first | rfl | exact (hn _ rfl).elim
     rw [DfOK.no this] at hd
     subst hd; rfl
 · rename_i hv
   refine ⟨[], h, fun hd => ?_⟩
   rw [hv] at hd
   have hd : _ = [] := hd
   subst hd; rfl
theorem RANGEF.of (hT : TabOK M.P M.C.T) {f : Operand} {ps : Array Tmp} {asg body : Code} {fr : Fr} {Q : Post} {gf g : FuncId} {cap : List SV} {fn : Func} {c : Code} (hcall : ∀ args w, (callFunc gf args).run M.P w = .ok (.enter g args) w) (hf : M.P.funcs[g]? = some fn) (hb : fn.body = some c) (N : Nat) (hN : fn.ntmps = N)
   (li : LpI) (hli : li = ⟨M.C.N, ps.toList, asg, body⟩) (hv : Ug fr f = some (.fn (.func gf) [] cap)) (hlen : Nat.ble (cap.length + 1) N = true) (hres : fn.results = #[]) (hro : M.C.ro = none)
   (h : noDS fr fun fr0 => ∀ η1 : Env, η1.length = nx + 2 → run (M.at N none η1) c (Wt 0 (.yf (.loc (nx + 1)) :: cap)) ((nx + 1, .lp .ready li fr0) :: (nx, .dfr) :: O) (nx + 2) (endI (M.at N none η1) [] (Zbr (nx + 1) (ZcF fr nx) Q))) (hND : Nat.ble N DS = true := by rfl) : RANGEF M f ps asg body fr O nx Q := by
 obtain ⟨fr0, h, _, hfr0⟩ := Z7r h
 refine ⟨fun η a w hm => wpIn_rangeFunc fun fnid _ => ?_⟩
 have hround : M.fence.round = none := by simp [Mx.fence, hro]
 rw [hround]
 obtain ⟨rec, hrec⟩ : ∃ rec : Loop, rec = { state := .ready, pending := none, fn := fnid, tmps := a.tmps, params := ps, assign := asg, body, defers := w.heap.size } := ⟨_, rfl⟩
 have hl := hm.heap.len
 obtain ⟨η1, hη1⟩ : ∃ η1 : Env, η1 = η ++ [some ⟨w.heap.size, 0, 0⟩] := ⟨_, rfl⟩
 have H1 : HeapOK M η1 (w.alloc (.deferred (some []))) ((nx, .dfr) :: O) (nx + 1) := by
   rw [hη1]
   refine hm.heap.alloc (w' := w.alloc (.deferred (some []))) (o := .deferred (some [])) (h := .dfr) rfl rfl rfl rfl 0 0 ?_
   simp only [HpSat]
   exact ⟨⟨w.heap.size, 0, 0⟩, by simp [Env.get, ← hl], rfl, World.alloc_heap_new w _⟩
 have hl1 := H1.len
 obtain ⟨η2, hη2⟩ : ∃ η2 : Env, η2 = η1 ++ [some ⟨w.heap.size + 1, 0, 0⟩] := ⟨_, rfl⟩
 have hsz : (w.alloc (.deferred (some []))).heap.size = w.heap.size + 1 := World.size_alloc _ _
 have hpre : η <+: η2 := by rw [hη2, hη1, List.append_assoc]; exact List.prefix_append _ _
 have hj2 : η2[nx + 1]? = some (some ⟨w.heap.size + 1, 0, 0⟩) := by rw [hη2, ← hl1]; simp
 have hd2 : η2[nx]? = some (some ⟨w.heap.size, 0, 0⟩) := by
   rw [hη2, List.getElem?_append_left (by omega), hη1, ← hl]; simp
 have H2 : HeapOK M η2 ((w.alloc (.deferred (some []))).alloc (.loop rec)) ((nx + 1, .lp .ready li fr0) :: (nx, .dfr) :: O) (nx + 2) := by
   have := H1.alloc (w' := (w.alloc (.deferred (some []))).alloc (.loop rec)) (o := .loop rec) (h := .lp .ready li fr0) rfl rfl rfl rfl 0 0 (by
     rw [hsz, ← hη2]
     simp only [HpSat]
     refine ⟨_, rec, hj2, rfl, by rw [← hsz]; exact World.alloc_heap_new _ _, ?_⟩
     subst hrec hli
     exact ⟨rfl, rfl, rfl, rfl, rfl, hm.size, fun t sv ht => (hm.frame t sv (hfr0 t sv ht)).mono hpre⟩)
   rw [hsz, ← hη2] at this
   exact this
 have hev : ∃ vs, a.eval f = .func (.func gf) #[] ⟨vs⟩ ∧ DenL η2 cap vs := by
   have := Yc hm.frame hv
   simp only [Den, DenL] at this
   obtain ⟨us, vs, h1, rfl, h3⟩ := this
   exact ⟨vs, h1, h3.mono hpre⟩
 obtain ⟨d, w1', f', args, w2, q1, q2, q3, q4, q5⟩ := Z9z (a' := { a with defers := [{ target := .collected w.heap.size, args := #[] }] ++ a.defers }) hT hcall hf hb N hN (Nat.le_of_ble_eq_true hND) (Nat.le_of_ble_eq_true hlen) hres hev H2 hj2 (frK := ZcF fr nx) (fun {K} hk => by
   obtain ⟨l, h1, h2⟩ := ZcG hk
   refine ⟨_, h1, fun η' w' O' nx' hp H' => ⟨H', hm.size, hm.nds, ?_, Ws (hpre.trans hp) hm.ro, fun t sv ht => ?_⟩⟩
   · rw [Zi, if_pos rfl]
     exact ⟨⟨w.heap.size, 0, 0⟩, a.defers, Env.get_mono (b := .loc nx) hp hd2, rfl, h2 (hm.defers.mono (hpre.trans hp))⟩
   · rw [Zi] at ht
     split at ht
     · injection ht with ht; subst ht; simp only [Den]
     · exact (hm.frame t sv ht).mono (hpre.trans hp)) (h η2 H2.len)
 refine ⟨w.heap.size + 1, [{ target := .collected w.heap.size, args := #[] }], _, d, w1', f', args, w2, run_enterLoop_outer _ _ _ _ _, ?_, q2, q3, q4, q5⟩
 rw [hrec] at q1
 exact q1
end
theorem FIN.weak {M : Mx} {O O1 : Hps} {nx n1 : Nat} {r r1 : SV} {Q : SV → Hps → Nat → Prop} (h : ∀ η w v, HeapOK M η w O nx → Den η r v → ∃ η', η <+: η' ∧ HeapOK M η' w O1 n1 ∧ Den η' r1 v) (hf : FIN M O1 n1 r1 Q) : FIN M O nx r Q :=
 ⟨fun η w v H hd => let ⟨η1, h1, h2, h3⟩ := h η w v H hd; hf.out η1 w v h2 h3⟩
theorem FIN.nil {M : Mx} {O : Hps} {nx : Nat} {Q : SV → Hps → Nat → Prop} (es : Nat) (hf : FIN M ((nx, .rows es []) :: O) (nx + 1) (.sl (.loc nx) 0 es 0 none) Q) : FIN M O nx (.val (.slice none 0 0)) Q := by
 refine FIN.weak (fun η w v H hd => ?_) hf
 have hnew : (η ++ [none])[nx]? = some none := by rw [List.getElem?_append_right (by rw [H.len]; omega), H.len]; simp
 refine ⟨η ++ [none], List.prefix_append _ _, H.push none (fun _ _ => rfl) (Nat.le_refl _) rfl rfl rfl (Nat.le_refl _) (.inl ⟨hnew, rfl⟩) (fun k f => (feet.none (b := .loc nx) hnew f).elim) (fun k f => (feet.none (b := .loc nx) hnew f).elim), ?_⟩
 simp only [Den] at hd ⊢
 exact .inl ⟨hnew, hd.1, trivial⟩
theorem FIN.nilCell {M : Mx} {O : Hps} {nx : Nat} {r : SV} {Q : SV → Hps → Nat → Prop} (i j es : Nat) {row row' : List SV} (hi : lkp i O = some (.box row)) (hr : Z2x nx es j row = some row') (hf : FIN M ((nx, .rows es []) :: setK i (.box row') O) (nx + 1) r Q) : FIN M O nx r Q :=
 FIN.weak (fun η w v H hd => let ⟨η', h1, h2⟩ := H.nilCell hi hr; ⟨η', h1, h2, Den.mono h1 hd⟩) hf
theorem FIN.nilT {M : Mx} {O : Hps} {nx : Nat} {Q : SV → Hps → Nat → Prop} (es : Nat) {vs : List SV} (hf : FIN M ((nx, .rows es []) :: O) (nx + 1) (.tup (.sl (.loc nx) 0 es 0 none :: vs)) Q) : FIN M O nx (.tup (.val (.slice none 0 0) :: vs)) Q := by
 refine FIN.weak (fun η w v H hd => ?_) hf
 have hnew : (η ++ [none])[nx]? = some none := by rw [List.getElem?_append_right (by rw [H.len]; omega), H.len]; simp
 refine ⟨η ++ [none], List.prefix_append _ _, H.push none (fun _ _ => rfl) (Nat.le_refl _) rfl rfl rfl (Nat.le_refl _) (.inl ⟨hnew, rfl⟩) (fun k f => (feet.none (b := .loc nx) hnew f).elim) (fun k f => (feet.none (b := .loc nx) hnew f).elim), ?_⟩
 simp only [Den, DenL] at hd ⊢
 obtain ⟨xs, h1, u, us, h2, h3, h4⟩ := hd
 exact ⟨xs, h1, u, us, h2, .inl ⟨hnew, h3.1, trivial⟩, h4.mono (List.prefix_append _ _)⟩
def Z8B : List Nat → Hps → (Hps → Prop) → Prop
 | [], _, K => K []
 | i :: is, O, K => match lkp i O with
   | some h => Z8B is O fun r => K ((i, h) :: r)
   | none => STOP "kept"
def Z9A : Hps → Hps → (Hps → Prop) → Prop
 | [], r, K => K r
 | (i, h) :: l, r, K => Z9A l r fun r => K ((i, h) :: r)
theorem Z3Y : ∀ {ts : List Nat} {O : Hps} {K : Hps → Prop}, Z8B ts O K → ∃ r, K r
 | [], O, K, h => ⟨_, h⟩
 | t :: ts, O, K, h => by
   simp only [Z8B] at h
   split at h
   · obtain ⟨r, hr⟩ := Z3Y h; exact ⟨_, hr⟩
   · exact h.out.elim
theorem Z6f : ∀ {l r : Hps} {K : Hps → Prop}, Z9A l r K ↔ K (l ++ r)
 | [], r, K => Iff.rfl
 | (t, v) :: l, r, K => by simp only [Z9A, List.cons_append, Z6f]
theorem Zt {m es : Nat} {rs : List (List SV)} (h : Zz rs = true) : Z3 m (.rows es rs) = true := by simp only [Z3, Z0 _ h]
theorem Zn {m es : Nat} {σ : Nat → Nat} {rs : List (List SV)} (h : Zz rs = true) : Z3 m (renH σ (.rows es rs)) = true := by rw [Zk _ (h := .rows es rs) h]; exact Zt h
section
variable {M : Mx} {fr : Fr} {O : Hps} {nx : Nat}
theorem LOOP.gok {body : Code} {Q : Post} (hT : TabOK M.P M.C.T) (ks ko : List Nat) {X : Type} (P : X → Prop) (chg : X → Fr) (Ox : X → Hps) (n0 : Nat) (μ : X → Nat) (x0 : X) (hP : P x0)
   (h : Z9l ks fr fun fr0 => Z8B ko O fun O0 => (appK (chg x0) fr0 fun fr' => Z9A (Ox x0) O0 fun O' => GOES M fr O nx fr' O' n0) ∧
     ∀ x, P x → appK (chg x) fr0 fun fr1 => Z9A (Ox x) O0 fun O1 => run M body fr1 O1 n0 fun e fr O nx => match e with
       | .normal => ∃ x', P x' ∧ μ x' < μ x ∧ appK (chg x') fr0 fun fr' => Z9A (Ox x') O0 fun O' => GOES M fr O nx fr' O' n0
       | e => Q e fr O nx) : LOOP M body fr O nx Q := by
 obtain ⟨fr0, h⟩ := Z2s h
 obtain ⟨O0, h1, h2⟩ := Z3Y h
 simp only [Z4z, Z6f] at h1 h2
 exact LOOP.inv hT P (fun x => (chg x ++ fr0, Ox x ++ O0, n0)) μ x0 hP h1 h2
theorem LOOP.nilCell {body : Code} {Q : Post} (i j es : Nat) {row row' : List SV} (hi : lkp i O = some (.box row)) (hr : Z2x nx es j row = some row') (k : LOOP M body fr ((nx, .rows es []) :: setK i (.box row') O) (nx + 1) Q) : LOOP M body fr O nx Q :=
 LOOP.goes ⟨fun η a w hm => let ⟨η', hp, H⟩ := hm.heap.nilCell hi hr; ⟨η', H, hm.size, hm.nds, hm.defers.mono hp, Ws hp hm.ro, fun t v ht => (hm.frame t v ht).mono hp⟩⟩ k
end
structure GHO (M : Mx) (O : Hps) (nx : Nat) (O1 : Hps) (n1 : Nat) : Prop where
 out : ∀ η w, HeapOK M η w O nx → ∃ η', η <+: η' ∧ HeapOK M η' w O1 n1
section
variable {M : Mx} {fr : Fr} {O O1 O2 : Hps} {nx n1 n2 : Nat}
theorem GHO.refl : GHO M O nx O nx := ⟨fun η w H => ⟨η, List.prefix_rfl, H⟩⟩
theorem GHO.trans (h : GHO M O nx O1 n1) (k : GHO M O1 n1 O2 n2) : GHO M O nx O2 n2 :=
 ⟨fun η w H => let ⟨η1, p1, H1⟩ := h.out η w H; let ⟨η2, p2, H2⟩ := k.out η1 w H1; ⟨η2, p1.trans p2, H2⟩⟩
theorem GHO.goes (h : GHO M O nx O1 n1) : GOES M fr O nx fr O1 n1 :=
 ⟨fun η a w hm => let ⟨η', hp, H⟩ := h.out η w hm.heap; ⟨η', H, hm.size, hm.nds, hm.defers.mono hp, Ws hp hm.ro, fun t v ht => (hm.frame t v ht).mono hp⟩⟩
theorem GHO.loop {body : Code} {Q : Post} (h : GHO M O nx O1 n1) (k : LOOP M body fr O1 n1 Q) : LOOP M body fr O nx Q := LOOP.goes h.goes k
theorem GHO.call {f : FuncId} {args : List SV} {K : SV → Hps → Nat → Prop} (h : GHO M O nx O1 n1) (k : CALL M f args O1 n1 K) : CALL M f args O nx K := CALL.weak h.out k
theorem GHO.drawn {id : Nat} {ops : Array Oper} {Q : Post} (h : GHO M O nx O1 n1) (k : DRAWN M id ops fr O1 n1 Q) : DRAWN M id ops fr O nx Q :=
 ⟨fun η a w hm => let ⟨η1, h1⟩ := (h.goes (fr := fr)).out η a w hm; k.out η1 a w h1⟩
theorem GHO.fin {r : SV} {Q : SV → Hps → Nat → Prop} (h : GHO M O nx O1 n1) (k : FIN M O1 n1 r Q) : FIN M O nx r Q :=
 ⟨fun η w v H hd => let ⟨η1, p1, H1⟩ := h.out η w H; k.out η1 w v H1 (hd.mono p1)⟩
theorem GHO.deep0 (i : Nat) (hi : lkp i O = some (.mp [])) : GHO M O nx (setK i (.deep true 2 []) O) nx := by
 refine ⟨fun η w H => ⟨η, List.prefix_rfl, ?_⟩⟩
 have hsat := (H.own.1 i _ hi).1
 simp only [HpSat] at hsat
 obtain ⟨e, es, h1, h2, h3, h4, h5⟩ := hsat
 have hk : ∀ a b x, YZ [] a b = some x → False := fun a b x h => by simp [YZ] at h
 refine H.updF hi h1 (fun _ _ => rfl) rfl rfl rfl rfl ?_ (Nat.le_refl _) fun m f => ?_
 · simp only [HpSat]
   refine ⟨⟨⟨e, es, h1, h2, h3, h4, h5⟩, trivial⟩, fun e' h6 => ?_⟩
   rw [h1] at h6; injection h6 with h6; injection h6 with h6; subst h6
   exact ⟨h2, fun o ho => ⟨fun a b es' rows h => (hk a b _ h).elim, fun a b a' b' x x' v v' k h => (hk a b _ h).elim⟩⟩
 · rcases f.of h1 with rfl | f
   · exact feet.own h1
   · simp only [kid] at f
     obtain ⟨o, a, b, x, v, _, h, _⟩ := f
     exact (hk a b _ h).elim
theorem GHO.nilCell (i j es : Nat) {row row' : List SV} (hi : lkp i O = some (.box row)) (hr : Z2x nx es j row = some row') : GHO M O nx ((nx, .rows es []) :: setK i (.box row') O) (nx + 1) := ⟨fun η w H => H.nilCell hi hr⟩
theorem GHO.putk (i r c k : Nat) {mp : Bool} {es es' n : Nat} {rs : List (List DC)} {row : List DC} {rows : List (List SV)} (hi : lkp i O = some (.deep mp es rs)) (hr : rs[r]? = some row) (hc : row[c]? = some (.v (.sl (.loc k) 0 es' n none)))
   (hk : lkp k O = some (.rows es' rows)) (hn : n ≤ rows.length) (hki : k ≠ i) : GHO M O nx (delK k (setK i (.deep mp es (setC rs r c (.kid es' (rows.take n)))) O)) nx := ⟨fun η w H => ⟨η, List.prefix_rfl, H.putk hi hr hc hk hn hki⟩⟩
theorem JL {m : Nat} {mp : Bool} {es : Nat} {rs : List (List DC)} (h : Xp rs = true) : Z3 m (.deep mp es rs) = true := Xi m (h := .deep mp es rs) h
theorem YR {m : Nat} {rs : List (List SV)} (h : Zz rs = true) : Z3 m (.mp rs) = true := Xi m (h := .mp rs) h
end
end Go.Sx
set_option linter.unusedSectionVars false
namespace Go.Our
section
variable {α : Type} {c : α → α → Int}
theorem Tri.lt_trans (h : Tri c) {x y z : α} (h1 : c x y < 0) (h2 : c y z ≤ 0) : c x z < 0 := by
 have h3 := h.trans x y z (by omega) h2
 rcases Int.lt_or_eq_of_le h3 with h4 | h4
 · exact h4
 · have e := (h.zero x z).1 h4
   subst e
   have := h.anti x y
   omega
theorem Tri.self (h : Tri c) (x : α) : c x x = 0 := (h.zero x x).2 rfl
theorem Tri.ne (h : Tri c) {x y : α} (hl : c x y < 0) : x ≠ y := fun e => by subst e; have := h.self x; omega
theorem Tri.gt (h : Tri c) {x y : α} (hl : ¬ c x y ≤ 0) : c y x < 0 := by have := h.anti x y; omega
def Rise (c : α → α → Int) (l : List α) : Prop := l.Pairwise fun a b => c a b < 0
theorem Z1y (h : Tri c) : ∀ {l m : List α}, Rise c l → Rise c m → (∀ x, x ∈ l ↔ x ∈ m) → l = m
 | [], [], _, _, _ => rfl
 | [], y :: m, _, _, he => by have := (he y).2 (by simp); simp at this
 | x :: l, [], _, _, he => by have := (he x).1 (by simp); simp at this
 | x :: l, y :: m, hl, hm, he => by
   have hl := List.pairwise_cons.1 hl
   have hm := List.pairwise_cons.1 hm
   have hxy : x = y := by
     rcases List.mem_cons.1 ((he x).1 (by simp)) with e | hx
     · exact e
     · rcases List.mem_cons.1 ((he y).2 (by simp)) with e | hy
       · exact e.symm
       · have h1 := hm.1 x hx
         have h2 := hl.1 y hy
         have := h.anti x y
         omega
   subst hxy
   congr 1
   refine Z1y h hl.2 hm.2 fun z => ⟨fun hz => ?_, fun hz => ?_⟩
   · rcases List.mem_cons.1 ((he z).1 (by simp [hz])) with e | h1
     · subst e; exact (h.ne (hl.1 _ hz) rfl).elim
     · exact h1
   · rcases List.mem_cons.1 ((he z).2 (by simp [hz])) with e | h1
     · subst e; exact (h.ne (hm.1 _ hz) rfl).elim
     · exact h1
end
section
variable {α : Type} [DecidableEq α] {c : α → α → Int}
def Yh : List α → List α
 | [] => []
 | [a] => [a]
 | a :: b :: l => if a = b then Yh (b :: l) else a :: Yh (b :: l)
theorem WB : ∀ (l : List α) (x : α), x ∈ Yh l ↔ x ∈ l
 | [], x => by simp [Yh]
 | [a], x => by simp [Yh]
 | a :: b :: l, x => by
   have ih := WB (b :: l) x
   unfold Yh
   split
   · rename_i e; subst e; rw [ih]; simp
   · rw [List.mem_cons, ih]; simp [List.mem_cons]
def leC (c : α → α → Int) (x y : α) : Bool := !(decide (c y x < 0))
theorem Z4W (h : Tri c) {x y : α} : leC c x y = true ↔ c x y ≤ 0 := by
 have := h.anti x y
 unfold leC
 simp only [Bool.not_eq_true', decide_eq_false_iff_not]
 omega
theorem Z14 (h : Tri c) : ∀ (l : List α), l.Pairwise (fun a b => c a b ≤ 0) → Rise c (Yh l)
 | [], _ => List.Pairwise.nil
 | [a], _ => by simp [Yh, Rise]
 | a :: b :: l, hp => by
   have hp' := List.pairwise_cons.1 hp
   have ih := Z14 h (b :: l) hp'.2
   unfold Yh
   split
   · exact ih
   · rename_i hne
     refine List.pairwise_cons.2 ⟨fun x hx => ?_, ih⟩
     rw [WB] at hx
     have hab : c a b < 0 := by
       have h1 := hp'.1 b (by simp)
       have h2 : c a b ≠ 0 := fun e => hne ((h.zero a b).1 e)
       omega
     rcases List.mem_cons.1 hx with rfl | hx
     · exact hab
     · exact h.lt_trans hab ((List.pairwise_cons.1 hp'.2).1 x hx)
def setL (c : α → α → Int) (l : List α) : List α := Yh (l.mergeSort (leC c))
theorem Vk (l : List α) (x : α) : x ∈ setL c l ↔ x ∈ l := by
 unfold setL
 rw [WB]
 exact List.mem_mergeSort
theorem Z02 (h : Tri c) (l : List α) : Rise c (setL c l) := by
 refine Z14 h _ ?_
 have := List.pairwise_mergeSort (le := leC c) (fun a b d h1 h2 => by rw [Z4W h] at *; exact h.trans a b d h1 h2) (fun a b => by
   have := h.anti a b
   rw [Bool.or_eq_true, Z4W h, Z4W h]; omega) l
 exact this.imp fun h1 => (Z4W h).1 h1
theorem Zfd (h : Tri c) {l m : List α} (hm : Rise c m) (he : ∀ x, x ∈ m ↔ x ∈ l) : m = setL c l := Z1y h hm (Z02 h l) fun x => (he x).trans (Vk l x).symm
theorem Z32 : ∀ (l : List α), (Yh l).length ≤ l.length
 | [] => by simp [Yh]
 | [a] => by simp [Yh]
 | a :: b :: l => by
   have ih := Z32 (b :: l)
   unfold Yh
   split
   · simp only [List.length_cons] at ih ⊢; omega
   · simp only [List.length_cons] at ih ⊢; omega
theorem Z4X (l : List α) : (setL c l).length ≤ l.length := by
 have := Z32 (l.mergeSort (leC c))
 rw [List.length_mergeSort] at this
 exact this
def UA (c : α → α → Int) (out : List α) (q : α) : List α := match out.getLast? with
 | none => [q]
 | some z => if c z q < 0 then out ++ [q] else out
def Yt (c : α → α → Int) (out : List α) : List α → List α → List α
 | [], [] => out
 | x :: a, [] => Yt c (UA c out x) a []
 | [], y :: b => Yt c (UA c out y) [] b
 | x :: a, y :: b => if c x y ≤ 0 then Yt c (UA c out x) a (y :: b) else Yt c (UA c out y) (x :: a) b
termination_by a b => a.length + b.length
theorem Z03 (h : Tri c) {out : List α} {q : α} (ho : Rise c out) (hq : ∀ x ∈ out, c x q ≤ 0) : Rise c (UA c out q) ∧ ∀ x, x ∈ UA c out q ↔ x ∈ out ∨ x = q := by
 unfold UA
 cases hg : out.getLast? with
 | none =>
   have : out = [] := List.getLast?_eq_none_iff.1 hg
   subst this
   exact ⟨by simp [Rise], by simp⟩
 | some z =>
   obtain ⟨pre, rfl⟩ := List.getLast?_eq_some_iff.1 hg
   simp only
   have ho' := List.pairwise_append.1 ho
   split
   · rename_i hz
     refine ⟨List.pairwise_append.2 ⟨ho, List.pairwise_singleton .., fun x hx y hy => ?_⟩, fun x => by simp only [List.mem_append, List.mem_singleton]⟩
     have hy := List.mem_singleton.1 hy
     subst hy
     rcases List.mem_append.1 hx with hx | hx
     · exact h.lt_trans (ho'.2.2 x hx z (by simp)) (by omega)
     · have := List.mem_singleton.1 hx; subst this; exact hz
   · rename_i hz
     have he : z = q := (h.zero z q).1 (by have := hq z (by simp); omega)
     subst he
     exact ⟨ho, fun x => by simp only [List.mem_append, List.mem_singleton]; grind⟩
theorem JS (h : Tri c) : ∀ (n : Nat) (out a b : List α), a.length + b.length = n → Rise c out → Rise c a → Rise c b → (∀ x ∈ out, ∀ y, y ∈ a ∨ y ∈ b → c x y ≤ 0) → Rise c (Yt c out a b) ∧ ∀ x, x ∈ Yt c out a b ↔ x ∈ out ∨ x ∈ a ∨ x ∈ b
 | n, out, [], [], hn, ho, ha, hb, hh => by unfold Yt; exact ⟨ho, by simp⟩
 | 0, out, x :: a, b, hn, _, _, _, _ => by simp at hn
 | 0, out, [], y :: b, hn, _, _, _, _ => by simp at hn
 | n + 1, out, x :: a, [], hn, ho, ha, hb, hh => by
   have ha' := List.pairwise_cons.1 ha
   obtain ⟨h1, h2⟩ := Z03 h ho (q := x) fun z hz => hh z hz x (by simp)
   obtain ⟨h3, h4⟩ := JS h n (UA c out x) a [] (by simp at hn ⊢; omega) h1 ha'.2 hb (fun z hz y hy => by
     rcases (h2 z).1 hz with hz | rfl
     · exact hh z hz y (by simpa using Or.inr (by simpa using hy))
     · have : y ∈ a := by simpa using hy
       have := ha'.1 y this; omega)
   unfold Yt
   refine ⟨h3, fun z => ?_⟩
   rw [h4, h2]
   simp only [List.mem_cons, List.not_mem_nil, or_false]
   grind
 | n + 1, out, [], y :: b, hn, ho, ha, hb, hh => by
   have hb' := List.pairwise_cons.1 hb
   obtain ⟨h1, h2⟩ := Z03 h ho (q := y) fun z hz => hh z hz y (by simp)
   obtain ⟨h3, h4⟩ := JS h n (UA c out y) [] b (by simp at hn ⊢; omega) h1 ha hb'.2 (fun z hz w hw => by
     have hw : w ∈ b := by simpa using hw
     rcases (h2 z).1 hz with hz | rfl
     · exact hh z hz w (by simp [hw])
     · have := hb'.1 w hw; omega)
   unfold Yt
   refine ⟨h3, fun z => ?_⟩
   rw [h4, h2]
   simp only [List.mem_cons, List.not_mem_nil, false_or]
   grind
 | n + 1, out, x :: a, y :: b, hn, ho, ha, hb, hh => by
   have ha' := List.pairwise_cons.1 ha
   have hb' := List.pairwise_cons.1 hb
   unfold Yt
   split
   · rename_i hxy
     obtain ⟨h1, h2⟩ := Z03 h ho (q := x) fun z hz => hh z hz x (by simp)
     obtain ⟨h3, h4⟩ := JS h n (UA c out x) a (y :: b) (by simp at hn ⊢; omega) h1 ha'.2 hb (fun z hz w hw => by
       rcases (h2 z).1 hz with hz | rfl
       · exact hh z hz w (by rcases hw with hw | hw <;> simp [hw] <;> simp at hw <;> simp [hw])
       · rcases hw with hw | hw
         · have := ha'.1 w hw; omega
         · rcases List.mem_cons.1 hw with rfl | hw
           · exact hxy
           · exact h.trans _ _ _ hxy (by have := hb'.1 w hw; omega))
     refine ⟨h3, fun z => ?_⟩
     rw [h4, h2]
     simp only [List.mem_cons]
     grind
   · rename_i hxy
     have hyx := h.gt hxy
     obtain ⟨h1, h2⟩ := Z03 h ho (q := y) fun z hz => hh z hz y (by simp)
     obtain ⟨h3, h4⟩ := JS h n (UA c out y) (x :: a) b (by simp at hn ⊢; omega) h1 ha hb'.2 (fun z hz w hw => by
       rcases (h2 z).1 hz with hz | rfl
       · exact hh z hz w (by rcases hw with hw | hw <;> simp [hw] <;> simp at hw <;> simp [hw])
       · rcases hw with hw | hw
         · rcases List.mem_cons.1 hw with rfl | hw
           · omega
           · exact h.trans _ x _ (by omega) (by have := ha'.1 w hw; omega)
         · have := hb'.1 w hw; omega)
     refine ⟨h3, fun z => ?_⟩
     rw [h4, h2]
     simp only [List.mem_cons]
     grind
end
end Go.Our
namespace Go.Our
section
variable {α : Type} {c : α → α → Int}
theorem Z8F : Rise c ([] : List α) := List.Pairwise.nil
def Xn (c : α → α → Int) (f b s : Bool) : List α → List α → List α
 | [], [] => []
 | x :: xs, [] => (if f then [x] else []) ++ Xn c f b s xs []
 | [], y :: ys => (if s then [y] else []) ++ Xn c f b s [] ys
 | x :: xs, y :: ys => if c x y < 0 then (if f then [x] else []) ++ Xn c f b s xs (y :: ys)
   else if c x y = 0 then (if b then [x] else []) ++ Xn c f b s xs ys
   else (if s then [y] else []) ++ Xn c f b s (x :: xs) ys
termination_by a b => a.length + b.length
def wanted (f b s p q : Prop) : Prop := (f ∧ p ∧ ¬ q) ∨ (b ∧ p ∧ q) ∨ (s ∧ ¬ p ∧ q)
theorem Z04 {P : Prop} [Decidable P] {x : α} {l : List α} (h : ∀ y ∈ l, c x y < 0) (hl : Rise c l) : Rise c ((if P then [x] else []) ++ l) := by
 split
 · exact List.pairwise_cons.2 ⟨h, hl⟩
 · exact hl
theorem Z33 {P : Prop} [Decidable P] {x z : α} {l : List α} : z ∈ (if P then [x] else []) ++ l ↔ (P ∧ z = x) ∨ z ∈ l := by
 split <;> simp [*]
theorem YS (h : Tri c) (f b s : Bool) : ∀ (n : Nat) (xs ys : List α), xs.length + ys.length ≤ n → Rise c xs → Rise c ys →
   Rise c (Xn c f b s xs ys) ∧ ∀ z, z ∈ Xn c f b s xs ys ↔ (f = true ∧ z ∈ xs ∧ ¬ z ∈ ys) ∨ (b = true ∧ z ∈ xs ∧ z ∈ ys) ∨ (s = true ∧ ¬ z ∈ xs ∧ z ∈ ys)
 | n, [], [], _, _, _ => by unfold Xn; simp [Z8F]
 | 0, x :: xs, ys, hn, _, _ => by simp at hn
 | 0, [], y :: ys, hn, _, _ => by simp at hn
 | n + 1, x :: xs, [], hn, hx, hy => by
   have hx' := List.pairwise_cons.1 hx
   obtain ⟨h1, h2⟩ := YS h f b s n xs [] (by simp at hn ⊢; omega) hx'.2 hy
   unfold Xn
   refine ⟨Z04 (fun y hm => ?_) h1, fun z => ?_⟩
   · rw [h2] at hm
     exact hx'.1 y (by simpa using (by simpa using hm : f = true ∧ y ∈ xs).2)
   · rw [Z33, h2]; simp; grind
 | n + 1, [], y :: ys, hn, hx, hy => by
   have hy' := List.pairwise_cons.1 hy
   obtain ⟨h1, h2⟩ := YS h f b s n [] ys (by simp at hn ⊢; omega) hx hy'.2
   unfold Xn
   refine ⟨Z04 (fun z hm => ?_) h1, fun z => ?_⟩
   · rw [h2] at hm
     exact hy'.1 z (by simpa using (by simpa using hm : s = true ∧ z ∈ ys).2)
   · rw [Z33, h2]; simp; grind
 | n + 1, x :: xs, y :: ys, hn, hx, hy => by
   have hx' := List.pairwise_cons.1 hx
   have hy' := List.pairwise_cons.1 hy
   unfold Xn
   split
   · rename_i hxy
     obtain ⟨h1, h2⟩ := YS h f b s n xs (y :: ys) (by simp at hn ⊢; omega) hx'.2 hy
     have hlow : ∀ z, z ∈ xs ∨ z ∈ y :: ys → c x z < 0 := fun z hz => by
       rcases hz with hz | hz
       · exact hx'.1 z hz
       · rcases List.mem_cons.1 hz with rfl | hz
         · exact hxy
         · exact h.lt_trans hxy (by have := hy'.1 z hz; omega)
     have hxn : ¬ x ∈ y :: ys := fun hm => by have := hlow x (.inr hm); have := h.self x; omega
     refine ⟨Z04 (fun z hm => hlow z (by rw [h2] at hm; grind)) h1, fun z => ?_⟩
     rw [Z33, h2]
     have hxx : ¬ x ∈ xs := fun hm => by have := hlow x (.inl hm); have := h.self x; omega
     by_cases e : z = x
     · subst e; simp only [hxn, hxx, List.mem_cons]; grind
     · grind
   · split
     · rename_i hxy he
       have he := (h.zero x y).1 he
       subst he
       obtain ⟨h1, h2⟩ := YS h f b s n xs ys (by simp at hn ⊢; omega) hx'.2 hy'.2
       have hlow : ∀ z, z ∈ xs ∨ z ∈ ys → c x z < 0 := fun z hz => by
         rcases hz with hz | hz
         · exact hx'.1 z hz
         · exact hy'.1 z hz
       refine ⟨Z04 (fun z hm => hlow z (by rw [h2] at hm; grind)) h1, fun z => ?_⟩
       rw [Z33, h2]
       have hxx : ¬ x ∈ xs := fun hm => by have := hlow x (.inl hm); have := h.self x; omega
       have hxy : ¬ x ∈ ys := fun hm => by have := hlow x (.inr hm); have := h.self x; omega
       by_cases e : z = x
       · subst e; simp only [hxx, hxy, List.mem_cons]; grind
       · grind
     · rename_i hxy hne
       have hyx : c y x < 0 := h.gt (by omega)
       obtain ⟨h1, h2⟩ := YS h f b s n (x :: xs) ys (by simp at hn ⊢; omega) hx hy'.2
       have hlow : ∀ z, z ∈ x :: xs ∨ z ∈ ys → c y z < 0 := fun z hz => by
         rcases hz with hz | hz
         · rcases List.mem_cons.1 hz with rfl | hz
           · exact hyx
           · exact h.lt_trans hyx (by have := hx'.1 z hz; omega)
         · exact hy'.1 z hz
       refine ⟨Z04 (fun z hm => hlow z (by rw [h2] at hm; grind)) h1, fun z => ?_⟩
       rw [Z33, h2]
       have hyn : ¬ y ∈ x :: xs := fun hm => by have := hlow y (.inl hm); have := h.self y; omega
       have hyy : ¬ y ∈ ys := fun hm => by have := hlow y (.inr hm); have := h.self y; omega
       by_cases e : z = y
       · subst e; simp only [hyn, hyy, List.mem_cons]; grind
       · grind
theorem Jv (f b s : Bool) : ∀ (n : Nat) (xs ys : List α), xs.length + ys.length ≤ n → (Xn c f b s xs ys).length ≤ xs.length + ys.length
 | n, [], [], hn => by unfold Xn; simp
 | 0, x :: xs, ys, hn => by simp at hn
 | 0, [], y :: ys, hn => by simp at hn
 | n + 1, x :: xs, [], hn => by
   have := Jv f b s n xs [] (by simp at hn ⊢; omega)
   unfold Xn; rw [List.length_append]; simp only [List.length_cons, List.length_nil] at *; split <;> simp <;> omega
 | n + 1, [], y :: ys, hn => by
   have := Jv f b s n [] ys (by simp at hn ⊢; omega)
   unfold Xn; rw [List.length_append]; simp only [List.length_cons, List.length_nil] at *; split <;> simp <;> omega
 | n + 1, x :: xs, y :: ys, hn => by
   have h1 := Jv f b s n xs (y :: ys) (by simp at hn ⊢; omega)
   have h2 := Jv f b s n xs ys (by simp at hn ⊢; omega)
   have h3 := Jv f b s n (x :: xs) ys (by simp at hn ⊢; omega)
   simp at hn
   unfold Xn; split
   · rw [List.length_append]; simp only [List.length_cons, List.length_nil] at *; split <;> simp <;> omega
   · split
     · rw [List.length_append]; simp only [List.length_cons, List.length_nil] at *; split <;> simp <;> omega
     · rw [List.length_append]; simp only [List.length_cons, List.length_nil] at *; split <;> simp <;> omega
end
section
variable {α : Type} [DecidableEq α] {c : α → α → Int}
theorem Za1 (h : Tri c) {xs ys l : List α} (hx : Rise c xs) (hy : Rise c ys) (hl : ∀ z, z ∈ l ↔ z ∈ xs ∨ z ∈ ys) : Yt c [] xs ys = setL c l := by
 obtain ⟨h1, h2⟩ := JS h _ [] xs ys rfl Z8F hx hy (by simp)
 exact Zfd h h1 fun z => by rw [h2, hl]; simp
def UB (c : α → α → Int) (l : List α) : List α := if l.length < 2 then l else Yt c [] (UB c (l.take (l.length / 2))) (UB c (l.drop (l.length / 2)))
termination_by l.length
decreasing_by
 · simp only [List.length_take]; omega
 · simp only [List.length_drop]; omega
theorem UC (h : Tri c) : ∀ (n : Nat) (l : List α), l.length ≤ n → UB c l = setL c l
 | 0, l, hn => by
   have : l = [] := List.length_eq_zero_iff.1 (by omega)
   subst this
   unfold UB
   simp [setL, Yh]
 | n + 1, l, hn => by
   unfold UB
   split
   · match l with
     | [] => simp [setL, Yh]
     | [x] => simp [setL, Yh]
     | x :: y :: l => simp at *; omega
   · rw [UC h n _ (by simp; omega), UC h n _ (by simp; omega)]
     refine Za1 h (Z02 h _) (Z02 h _) fun z => ?_
     rw [Vk, Vk, ← List.mem_append, List.take_append_drop]
def Z05 (c : α → α → Int) (inn : Bool) : List α → List α → List α
 | [], _ => []
 | x :: xs, ys => (if decide ((ys.dropWhile fun y => decide (c y x < 0)).head? = some x) = inn then [x] else []) ++ Z05 c inn xs (ys.dropWhile fun y => decide (c y x < 0))
theorem Uf (p : α → Bool) (z : α) (hz : p z = false) : ∀ {l : List α}, z ∈ l → z ∈ l.dropWhile p
 | [], h => by cases h
 | y :: l, h => by
   rw [List.dropWhile_cons]
   split
   · rename_i hy
     rcases List.mem_cons.1 h with rfl | h
     · rw [hz] at hy; cases hy
     · exact Uf p z hz h
   · exact h
theorem Z8G (h : Tri c) (inn : Bool) : ∀ {xs ys : List α}, Rise c xs → Rise c ys → Z05 c inn xs ys = xs.filter fun x => decide (decide (x ∈ ys) = inn)
 | [], ys, _, _ => rfl
 | x :: xs, ys, hx, hy => by
   have hx' := List.pairwise_cons.1 hx
   obtain ⟨d, hd⟩ : ∃ d, d = ys.dropWhile fun y => decide (c y x < 0) := ⟨_, rfl⟩
   have hdy : Rise c d := by rw [hd]; exact hy.sublist (List.dropWhile_sublist _)
   have hin : ∀ z, c x z ≤ 0 → (z ∈ d ↔ z ∈ ys) := fun z hz => by
     rw [hd]
     refine ⟨fun hm => (List.dropWhile_sublist _).subset hm, fun hm => Uf _ z ?_ hm⟩
     have := h.anti x z
     simp only [decide_eq_false_iff_not]; omega
   have hhead : decide (d.head? = some x) = decide (x ∈ ys) := by
     rw [Bool.eq_iff_iff, decide_eq_true_iff, decide_eq_true_iff, ← hin x (by have := h.self x; omega)]
     match d, hd, hdy with
     | [], _, _ => simp
     | y :: d, hd, hdy =>
       have hny : ¬ c y x < 0 := by
         have := List.head_dropWhile_not (l := ys) (fun y => decide (c y x < 0)) (by rw [← hd]; simp)
         simp only [← hd] at this
         exact of_decide_eq_false this
       simp only [List.head?_cons, Option.some.injEq, List.mem_cons]
       refine ⟨fun e => .inl e.symm, fun hm => ?_⟩
       rcases hm with e | hm
       · exact e.symm
       · exact (hny ((List.pairwise_cons.1 hdy).1 x hm)).elim
   unfold Z05
   rw [← hd, hhead, Z8G h inn hx'.2 hdy, List.filter_cons]
   have hf : (xs.filter fun z => decide (decide (z ∈ d) = inn)) = xs.filter fun z => decide (decide (z ∈ ys) = inn) := by
     refine List.filter_congr fun z hz => ?_
     have := hin z (by have := hx'.1 z hz; omega)
     simp only [this]
   rw [hf]
   by_cases hP : decide (x ∈ ys) = inn
   · rw [if_pos hP, if_pos (by simpa using hP)]; rfl
   · rw [if_neg hP, if_neg (by simpa using hP)]; rfl
theorem ZcP (h : Tri c) {xs ys : List α} (hx : Rise c xs) (hy : Rise c ys) : Xn c true false false xs ys = Z05 c false xs ys := by
 obtain ⟨h3, h4⟩ := YS h true false false _ xs ys (Nat.le_refl _) hx hy
 rw [Z8G h false hx hy]
 refine Z1y h h3 (hx.sublist List.filter_sublist) fun z => ?_
 rw [h4, List.mem_filter]; simp
def placeM (c : α → α → Int) (l : List α) (q : α) : Nat := (l.takeWhile fun x => decide (c x q < 0)).length
theorem Z4Y (l : List α) (q : α) : placeM c l q ≤ l.length := (List.takeWhile_sublist _).length_le
theorem ZcQ {l : List α} {q : α} {k : Nat} (hk : k < placeM c l q) : c (l[k]'(Nat.lt_of_lt_of_le hk (Z4Y l q))) q < 0 := by
 have h1 : (l.takeWhile fun x => decide (c x q < 0))[k] = l[k]'(Nat.lt_of_lt_of_le hk (Z4Y l q)) := by
   have h2 := List.takeWhile_prefix (l := l) (fun x => decide (c x q < 0))
   exact (List.IsPrefix.getElem h2 hk)
 have h3 := List.all_takeWhile (l := l) (p := fun x => decide (c x q < 0))
 have h4 := List.all_eq_true.1 h3 _ (List.getElem_mem hk)
 rw [h1] at h4
 simpa using h4
theorem ZcR {l : List α} {q : α} (hk : placeM c l q < l.length) : ¬ c l[placeM c l q] q < 0 := by
 have h1 : l = (l.takeWhile fun x => decide (c x q < 0)) ++ l.dropWhile fun x => decide (c x q < 0) := (List.takeWhile_append_dropWhile).symm
 have hne : l.dropWhile (fun x => decide (c x q < 0)) ≠ [] := by
   intro e
   have := congrArg List.length h1
   rw [e, List.append_nil] at this
   unfold placeM at hk; omega
 have h2 := List.head_dropWhile_not (l := l) (fun x => decide (c x q < 0)) hne
 have h3 : l[placeM c l q] = (l.dropWhile fun x => decide (c x q < 0)).head hne := by
   have h4 : l[placeM c l q]? = (l.dropWhile fun x => decide (c x q < 0)).head? := by
     have h5 : ∀ (a b m : List α), m = a ++ b → m[a.length]? = b.head? := fun a b m e => by
       subst e; rw [List.getElem?_append_right (Nat.le_refl _), Nat.sub_self, List.head?_eq_getElem?]
     exact h5 _ _ _ h1
   rw [List.getElem?_eq_getElem hk, List.head?_eq_some_head hne] at h4
   injection h4
 rw [h3]
 exact of_decide_eq_false h2
theorem Z1z (h : Tri c) {l : List α} {q : α} {i : Nat} (hi : i ≤ l.length) (h1 : ∀ k (hk : k < l.length), k < i → c l[k] q < 0) (h2 : ∀ k (hk : k < l.length), i ≤ k → ¬ c l[k] q < 0) : i = placeM c l q := by
 rcases Nat.lt_trichotomy i (placeM c l q) with hlt | he | hgt
 · exact (h2 i (Nat.lt_of_lt_of_le hlt (Z4Y l q)) (Nat.le_refl _) (ZcQ hlt)).elim
 · exact he
 · exact (ZcR (Nat.lt_of_lt_of_le hgt hi) (h1 _ _ hgt)).elim
theorem Z1A {l : List α} (hl : Rise c l) {i j : Nat} (hij : i < j) (hj : j < l.length) : c (l[i]'(by omega)) l[j] < 0 := List.pairwise_iff_getElem.1 hl i j (by omega) hj hij
theorem Z6y (h : Tri c) {l : List α} (hl : Rise c l) {q : α} {k m : Nat} (hk : k ≤ m) (hm : m < l.length) (hq : c l[m] q < 0) : c (l[k]'(by omega)) q < 0 := by
 rcases Nat.lt_or_eq_of_le hk with hk | rfl
 · exact h.lt_trans (Z1A hl hk hm) (by omega)
 · exact hq
theorem Z43 (h : Tri c) {l : List α} (hl : Rise c l) {q : α} {k m : Nat} (hk : m ≤ k) (hm : k < l.length) (hq : ¬ c (l[m]'(by omega)) q < 0) : ¬ c l[k] q < 0 := by
 intro hc
 exact hq (Z6y h hl hk hm hc)
def Z06 (c : α → α → Int) (l : List α) (q : α) : Bool := decide (l[placeM c l q]? = some q)
theorem Z07 (h : Tri c) {l : List α} (hl : Rise c l) (q : α) : Z06 c l q = decide (q ∈ l) := by
 unfold Z06
 rw [Bool.eq_iff_iff, decide_eq_true_iff, decide_eq_true_iff]
 refine ⟨fun e => List.mem_of_getElem? e, fun hm => ?_⟩
 obtain ⟨i, hi, rfl⟩ := List.mem_iff_getElem.1 hm
 have : i = placeM c l l[i] := Z1z h (by omega) (fun k hk hki => Z1A hl hki hi) (fun k hk hik hc => by
   rcases Nat.lt_or_eq_of_le hik with hik | rfl
   · have := Z1A hl hik hk
     have := h.anti l[i] l[k]
     omega
   · have := h.self l[i]; omega)
 rw [← this, List.getElem?_eq_getElem hi]
end
end Go.Our
namespace Go.Our
open Go.Sx
theorem Jo {n : Int} {a b : Qd} (h : (Zm n a b).2 = true) : Zx a = 0 ∧ Zx b = 0 ∧ a.g = b.g ∧ (ZA n a b).2 = true ∧ Zx (ZA n a b).1 = 0 ∧ (Zm n a b).1 = (ZA n a b).1 := by
 unfold Zm at h ⊢
 split at h
 · rename_i hc; rw [if_pos hc]; exact ⟨hc.1, hc.2.1, hc.2.2.1, hc.2.2.2.1, hc.2.2.2.2, rfl⟩
 · cases h
theorem VK {n : Int} {a b : Qd} (h : (Zm n a b).2 = true) : n = 2 ∨ n = 3 ∨ n = 5 ∨ n = 7 ∨ n = 9 ∨ n = 11 := by
 have := (Jo h).2.2.2.1
 by_cases hn : n = 2 ∨ n = 3 ∨ n = 5 ∨ n = 7 ∨ n = 9 ∨ n = 11
 · exact hn
 · rw [Yy hn] at this; cases this
inductive Der (l : List Qd) : Qd → Prop
 | base {q : Qd} (h : q ∈ l) : Der l q
 | step {n : Int} {a b : Qd} (ha : Der l a) (hb : Der l b) (h : (Zm n a b).2 = true) : Der l (Zm n a b).1
def Z7F (l : List Qd) : Prop := ∀ n a b, a ∈ l → b ∈ l → (Zm n a b).2 = true → (Zm n a b).1 ∈ l
theorem ZdA {l m : List Qd} (hc : Z7F m) (hs : ∀ q ∈ l, q ∈ m) {q : Qd} (h : Der l q) : q ∈ m := by
 induction h with
 | base h => exact hs _ h
 | step _ _ h iha ihb => exact hc _ _ _ iha ihb h
def IsCl (l : List Qd) (most : Int) : Option (List Qd) → Prop
 | some m => Rise Zw m ∧ (∀ q, q ∈ m ↔ Der l q) ∧ (m.length : Int) ≤ most
 | none => ∃ B : List Qd, B.Nodup ∧ (∀ q ∈ B, Der l q) ∧ most < (B.length : Int)
theorem VL {m : List Qd} (h : Rise Zw m) : m.Nodup := List.Pairwise.imp (fun hab e => by subst e; have := triQ.self (c := Zw) ‹Qd›; omega) h
theorem Z34 {α : Type} [DecidableEq α] : ∀ {l u : List α}, l.Nodup → (∀ x ∈ l, x ∈ u) → l.length ≤ u.length
 | [], u, _, _ => Nat.zero_le _
 | a :: l, u, hn, hs => by
   have ha := hs a (List.mem_cons_self ..)
   have hn' := List.nodup_cons.1 hn
   have := Z34 (u := u.erase a) hn'.2 (fun x hx => (List.mem_erase_of_ne (fun (e : x = a) => hn'.1 (by rw [← e]; exact hx))).2 (hs x (List.mem_cons_of_mem _ hx)))
   rw [List.length_erase_of_mem ha] at this
   have := List.length_pos_of_mem ha
   simp only [List.length_cons]
   omega
theorem Z6z {l : List Qd} {most : Int} : ∀ {r r' : Option (List Qd)}, IsCl l most r → IsCl l most r' → r = r'
 | some m, some m', ⟨h1, h2, _⟩, ⟨h3, h4, _⟩ => congrArg some (Z1y triQ h1 h3 fun q => (h2 q).trans (h4 q).symm)
 | some m, none, ⟨h1, h2, h3⟩, ⟨B, h4, h5, h6⟩ => by
   have := Z34 h4 (fun q hq => (h2 q).2 (h5 q hq))
   omega
 | none, some m, ⟨B, h4, h5, h6⟩, ⟨h1, h2, h3⟩ => by
   have := Z34 h4 (fun q hq => (h2 q).2 (h5 q hq))
   omega
 | none, none, _, _ => rfl
def XE (first : Bool) (q o : Qd) (n : Int) : Option St :=
 let a := if first then q else o
 let b := if first then o else q
 if (Zm n a b).2 then some ⟨n, a, b, (Zm n a b).1⟩ else none
def UD (first : Bool) (q : Qd) (others : List Qd) (ns : List Int) : List St := others.flatMap fun o => ns.filterMap (XE first q o)
def ZI {σ : Type} (T : σ → St → σ × Bool) : List St → σ → σ × Bool
 | [], s => (s, true)
 | c :: cs, s => if (T s c).2 then ZI T cs (T s c).1 else ((T s c).1, false)
abbrev Ask := Bool × Qd × List Int
def asks (q : Qd) : List Ask := [(true, ⟨q.g, Zy, q.s, Zy⟩, [2, 3, 7]), (true, ⟨q.g, q.o, q.p, Zy⟩, [5, 11]), (true, ⟨q.g, Zy, iriT typB, q.s⟩, [9]),
 (false, ⟨q.g, q.p, iriT domB, Zy⟩, [2]), (false, ⟨q.g, q.p, iriT ranB, Zy⟩, [3]), (false, ⟨q.g, q.p, iriT subP, Zy⟩, [7]),
 (false, ⟨q.g, Zy, q.p, q.s⟩, [5, 11]), (false, ⟨q.g, q.o, iriT subC, Zy⟩, [9])]
def askM {σ : Type} (T : σ → St → σ × Bool) (rd : σ → List (Qd × List Qd)) (q : Qd) (a : Ask) (s : σ) : σ × Bool := ZI T (UD a.1 q (atL a.2.1 (rd s)) a.2.2) s
def askL {σ : Type} (T : σ → St → σ × Bool) (rd : σ → List (Qd × List Qd)) (q : Qd) : List Ask → σ → σ × Bool
 | [], s => (s, true)
 | a :: as', s => if (askM T rd q a s).2 then askL T rd q as' (askM T rd q a s).1 else ((askM T rd q a s).1, false)
theorem UE {σ : Type} (T : σ → St → σ × Bool) : ∀ (c d : List St) (s : σ), ZI T (c ++ d) s = if (ZI T c s).2 then ZI T d (ZI T c s).1 else ((ZI T c s).1, false)
 | [], d, s => by simp [ZI]
 | x :: c, d, s => by
   simp only [List.cons_append, ZI]
   by_cases h : (T s x).2
   · simp only [h, if_true]; exact UE T c d _
   · simp only [h, Bool.false_eq_true, if_false]
theorem mem_cands {first : Bool} {q : Qd} {others : List Qd} {ns : List Int} {c : St} : c ∈ UD first q others ns ↔ ∃ o ∈ others, ∃ n ∈ ns, XE first q o n = some c := by
 simp only [UD, List.mem_flatMap, List.mem_filterMap]
theorem Zfe {n : Int} {q o : Qd} (h : (Zm n q o).2 = true) : ∃ a ∈ asks q, a.1 = true ∧ n ∈ a.2.2 ∧ ∃ k, k < 3 ∧ a.2.1 = J6 k o := by
 obtain ⟨_, _, hg, hd, _, _⟩ := Jo h
 rcases VK h with rfl | rfl | rfl | rfl | rfl | rfl
 · simp only [ZA, if_true, dr2, decide_eq_true_eq] at hd
   exact ⟨_, List.mem_cons_self .., rfl, by simp, 0, by omega, by simp [J6, Zbe, hg, hd.2]⟩
 · simp [ZA] at hd
   exact ⟨_, List.mem_cons_self .., rfl, by simp, 0, by omega, by simp [J6, Zbe, hg, hd.2]⟩
 · simp [ZA] at hd
   exact ⟨(true, ⟨q.g, q.o, q.p, Zy⟩, [5, 11]), by simp [asks], rfl, by simp, 1, by omega, by simp [J6, Z65, hg, hd.2.1, hd.2.2]⟩
 · simp [ZA] at hd
   exact ⟨_, List.mem_cons_self .., rfl, by simp, 0, by omega, by simp [J6, Zbe, hg, hd.2]⟩
 · simp [ZA] at hd
   exact ⟨(true, ⟨q.g, Zy, iriT typB, q.s⟩, [9]), by simp [asks], rfl, by simp, 2, by omega, by simp [J6, Zbf, hg, hd.2.1, hd.2.2]⟩
 · simp [ZA] at hd
   exact ⟨(true, ⟨q.g, q.o, q.p, Zy⟩, [5, 11]), by simp [asks], rfl, by simp, 1, by omega, by simp [J6, Z65, hg, hd.2.1, hd.2.2]⟩
theorem Zff {n : Int} {q o : Qd} (h : (Zm n o q).2 = true) : ∃ a ∈ asks q, a.1 = false ∧ n ∈ a.2.2 ∧ ∃ k, k < 3 ∧ a.2.1 = J6 k o := by
 obtain ⟨_, _, hg, hd, _, _⟩ := Jo h
 rcases VK h with rfl | rfl | rfl | rfl | rfl | rfl
 · simp [ZA] at hd
   exact ⟨(false, ⟨q.g, q.p, iriT domB, Zy⟩, [2]), by simp [asks], rfl, by simp, 1, by omega, by simp [J6, Z65, hg, hd.1, hd.2]⟩
 · simp [ZA] at hd
   exact ⟨(false, ⟨q.g, q.p, iriT ranB, Zy⟩, [3]), by simp [asks], rfl, by simp, 1, by omega, by simp [J6, Z65, hg, hd.1, hd.2]⟩
 · simp [ZA] at hd
   exact ⟨(false, ⟨q.g, Zy, q.p, q.s⟩, [5, 11]), by simp [asks], rfl, by simp, 2, by omega, by simp [J6, Zbf, hg, hd.2.1, hd.2.2]⟩
 · simp [ZA] at hd
   exact ⟨(false, ⟨q.g, q.p, iriT subP, Zy⟩, [7]), by simp [asks], rfl, by simp, 1, by omega, by simp [J6, Z65, hg, hd.1, hd.2]⟩
 · simp [ZA] at hd
   exact ⟨(false, ⟨q.g, q.o, iriT subC, Zy⟩, [9]), by simp [asks], rfl, by simp, 1, by omega, by simp [J6, Z65, hg, hd.1, hd.2.2]⟩
 · simp [ZA] at hd
   exact ⟨(false, ⟨q.g, Zy, q.p, q.s⟩, [5, 11]), by simp [asks], rfl, by simp, 2, by omega, by simp [J6, Zbf, hg, hd.2.1, hd.2.2]⟩
structure AtOK (w : Wd) : Prop where
 sub : ∀ k o, o ∈ atL k w.at' → o ∈ w.all
 all : ∀ o ∈ w.all, ∀ k, k < 3 → o ∈ atL (J6 k o) w.at'
 nodup : w.all.Nodup
theorem Z4Z (q : Qd) (m : List (Qd × List Qd)) (k o : Qd) : ∀ i, o ∈ atL k (atN q m i) ↔ o ∈ atL k m ∨ (o = q ∧ ∃ j, j < i ∧ k = J6 j q)
 | 0 => by simp [atN]
 | i + 1 => by
   unfold atN
   rw [Zbh]
   have ih := fun k => Z4Z q m k o i
   by_cases e : k = J6 i q
   · subst e
     rw [if_pos rfl, List.mem_append, ih, List.mem_singleton]
     constructor
     · rintro ((h | ⟨h1, j, h2, h3⟩) | rfl)
       · exact .inl h
       · exact .inr ⟨h1, j, by omega, h3⟩
       · exact .inr ⟨rfl, i, by omega, rfl⟩
     · rintro (h | ⟨h1, j, h2, h3⟩)
       · exact .inl (.inl h)
       · exact .inr h1
   · rw [if_neg e, ih]
     constructor
     · rintro (h | ⟨h1, j, h2, h3⟩)
       · exact .inl h
       · exact .inr ⟨h1, j, by omega, h3⟩
     · rintro (h | ⟨h1, j, h2, h3⟩)
       · exact .inl h
       · refine .inr ⟨h1, j, ?_, h3⟩
         rcases Nat.lt_or_eq_of_le (Nat.le_of_lt_succ h2) with h | rfl
         · exact h
         · exact (e h3).elim
theorem Za2 : AtOK V3 := ⟨(fun k o h => by simp [V3, atL, getA] at h), (fun o h => by cases h), List.nodup_nil⟩
theorem Z8H {w : Wd} (hw : WdOK w) (h : AtOK w) (s : St) : AtOK (putM w s) := by
 cases hg : getA s.q w.place with
 | some v => rw [Z2N (by rw [hg]; rfl)]; exact h
 | none =>
   have hni : s.q ∉ w.all := fun hm => by have := (hw.mem _).1 hm; rw [hg] at this; cases this
   rw [Z3W hg]
   refine ⟨fun k o ho => ?_, fun o ho k hk => ?_, ?_⟩
   · rcases (Z4Z s.q w.at' k o 3).1 ho with h1 | ⟨rfl, _⟩
     · exact List.mem_append_left _ (h.sub k o h1)
     · exact List.mem_append_right _ (List.mem_singleton.2 rfl)
   · rw [Z4Z]
     rcases List.mem_append.1 ho with h1 | h1
     · exact .inl (h.all o h1 k hk)
     · exact .inr ⟨List.mem_singleton.1 h1, k, hk, by rw [List.mem_singleton.1 h1]⟩
   · rw [List.nodup_append]
     exact ⟨h.nodup, by simp, fun a ha b hb e => by rw [List.mem_singleton.1 hb] at e; exact hni (e ▸ ha)⟩
theorem W4 (w : Wd) (s : St) : w.all <+: (putM w s).all := by
 unfold putM; split
 · exact List.prefix_rfl
 · exact List.prefix_append _ _
theorem Z8I {α : Type} (f : α → St) : ∀ (l : List α) {w : Wd}, WdOK w → AtOK w → AtOK (l.foldl (fun w x => putM w (f x)) w)
 | [], w, _, h => h
 | x :: l, w, hw, h => Z8I f l (Z2O hw (f x)) (Z8H hw h (f x))
theorem ZcS (l : List Qd) : AtOK (ZR l) := Z8I V4 l Uu Za2
def Zh (most : Int) (w : Wd) (s : St) : Wd × Bool := (putM w s, decide (((putM w s).all.length : Int) ≤ most))
def SOK (known : List Qd) (s : St) : Prop := s.a ∈ known ∧ s.b ∈ known ∧ (Zm s.r s.a s.b).2 = true ∧ (Zm s.r s.a s.b).1 = s.q
theorem SOK.mono {k k' : List Qd} {s : St} (h : SOK k s) (hs : ∀ q ∈ k, q ∈ k') : SOK k' s := ⟨hs _ h.1, hs _ h.2.1, h.2.2⟩
structure WhyI (l : List Qd) (w : Wd) : Prop where
 here : ∀ (i : Nat) q, w.all[i]? = some q → getA q w.place = some (i : Int)
 why : ∀ (i : Nat) s, w.why[i]? = some s → w.all[i]? = some s.q ∧ (s.q ∈ l ∨ SOK (w.all.take i) s)
theorem ZbC {l : List Qd} {w : Wd} (h : WdOK w) (hw : WhyI l w) {s : St} (hs : s.q ∈ l ∨ SOK w.all s) : WhyI l (putM w s) := by
 cases hg : getA s.q w.place with
 | some v => rw [Z2N (by rw [hg]; rfl)]; exact hw
 | none =>
   have hn : s.q ∉ w.all := fun hm => by have := (h.mem _).1 hm; rw [hg] at this; cases this
   rw [Z3W hg]
   refine ⟨fun i q hi => ?_, fun i t hi => ?_⟩
   · dsimp only at hi ⊢
     rw [US]
     rcases Nat.lt_trichotomy i w.all.length with h1 | h1 | h1
     · rw [List.getElem?_append_left h1] at hi
       rw [if_neg (fun (e : q = s.q) => hn (e ▸ List.mem_of_getElem? hi))]
       exact hw.here i q hi
     · subst h1
       rw [List.getElem?_append_right (Nat.le_refl _), Nat.sub_self] at hi
       rw [if_pos (by simpa using hi.symm)]
     · rw [List.getElem?_eq_none (by simp; omega)] at hi; cases hi
   · dsimp only at hi ⊢
     have hl := h.len
     rcases Nat.lt_trichotomy i w.all.length with h1 | h1 | h1
     · rw [List.getElem?_append_left (by omega)] at hi
       rw [List.getElem?_append_left h1, List.take_append_of_le_length (by omega)]
       exact hw.why i t hi
     · subst h1
       rw [List.getElem?_append_right (by omega), hl, Nat.sub_self] at hi
       obtain rfl : s = t := by simpa using hi
       rw [List.getElem?_append_right (Nat.le_refl _), Nat.sub_self, List.take_append_of_le_length (Nat.le_refl _), List.take_length]
       exact ⟨rfl, hs⟩
     · rw [List.getElem?_eq_none (by simp; omega)] at hi; cases hi
theorem Z8J {l : List Qd} : ∀ (m : List Qd) {w : Wd}, WdOK w → WhyI l w → (∀ q ∈ m, q ∈ l) → WhyI l (m.foldl (fun w x => putM w (V4 x)) w)
 | [], _, _, hw, _ => hw
 | q :: m, w, h, hw, hm => Z8J m (Z2O h _) (ZbC h hw (.inl (hm q (List.mem_cons_self ..)))) fun x hx => hm x (List.mem_cons_of_mem _ hx)
theorem ZbD (l : List Qd) : WhyI l (ZR l) := Z8J l Uu ⟨fun i q h => by simp [V3] at h, fun i s h => by simp [V3] at h⟩ fun _ h => h
structure CInv (l : List Qd) (w : Wd) : Prop where
 ok : WdOK w
 spots : AtOK w
 sub : ∀ q ∈ l, q ∈ w.all
 der : ∀ q ∈ w.all, Der l q
 why : WhyI l w
 pre : (ZR l).all <+: w.all
theorem ZbE (l : List Qd) : CInv l (ZR l) := ⟨Z8y l, ZcS l, fun q h => (Z66 l q).2 h, fun q h => .base ((Z66 l q).1 h), ZbD l, List.prefix_rfl⟩
theorem Zej {l : List Qd} {w : Wd} (h : CInv l w) {s : St} (hs : SOK w.all s) : CInv l (putM w s) :=
 ⟨Z2O h.ok s, Z8H h.ok h.spots s, fun q hq => (Z4J h.ok s q).2 (.inl (h.sub q hq)), fun q hq => ((Z4J h.ok s q).1 hq).elim (h.der q) fun e => by rw [e, ← hs.2.2.2]; exact .step (h.der _ hs.1) (h.der _ hs.2.1) hs.2.2.1, ZbC h.ok h.why (.inr hs), h.pre.trans (W4 w s)⟩
theorem Z5v (w : Wd) (s : St) (k o : Qd) (h : o ∈ atL k w.at') : o ∈ atL k (putM w s).at' := by
 cases hg : getA s.q w.place with
 | some v => rw [Z2N (by rw [hg]; rfl)]; exact h
 | none => rw [Z3W hg]; exact (Z4Z s.q w.at' k o 3).2 (.inl h)
structure Grown (l : List Qd) (most : Int) (w : Wd) (r : Wd × Bool) : Prop where
 inv : CInv l r.1
 pre : w.all <+: r.1.all
 spots : ∀ k o, o ∈ atL k w.at' → o ∈ atL k r.1.at'
 less : r.2 = false → most < (r.1.all.length : Int)
 upto : (w.all.length : Int) ≤ most → (r.1.all.length : Int) ≤ most + 1
 yes : r.2 = true → (w.all.length : Int) ≤ most → (r.1.all.length : Int) ≤ most
theorem Grown.refl {l : List Qd} {most : Int} {w : Wd} (h : CInv l w) : Grown l most w (w, true) := ⟨h, List.prefix_rfl, fun _ _ h => h, (fun h => by cases h), (fun h => by show (w.all.length : Int) ≤ most + 1; omega), fun _ h => h⟩
theorem Z7G {l : List Qd} {most : Int} : ∀ {c : List St} {w : Wd}, CInv l w → (∀ s ∈ c, SOK w.all s) → (w.all.length : Int) ≤ most → Grown l most w (ZI (Zh most) c w) ∧ ((ZI (Zh most) c w).2 = true → ∀ s ∈ c, s.q ∈ (ZI (Zh most) c w).1.all)
 | [], w, h, _, _ => ⟨Grown.refl h, fun _ s hs => by cases hs⟩
 | s :: c, w, h, hs, hm => by
   have hp := Zej h (hs s (List.mem_cons_self ..))
   have hl := Z7o w s
   unfold ZI
   by_cases hb : ((putM w s).all.length : Int) ≤ most
   · have : (Zh most w s).2 = true := decide_eq_true hb
     rw [if_pos this]
     obtain ⟨g, hg⟩ := Z7G (c := c) hp (fun t hs' => (hs t (List.mem_cons_of_mem _ hs')).mono fun q hq => (W4 w s).subset hq) hb
     refine ⟨⟨g.inv, (W4 w s).trans g.pre, fun k o ho => g.spots k o (Z5v w s k o ho), g.less, fun _ => g.upto hb, fun h1 _ => g.yes h1 hb⟩, fun ht x hx => ?_⟩
     rcases List.mem_cons.1 hx with rfl | hx
     · exact g.pre.subset ((Z4J h.ok _ _).2 (.inr rfl))
     · exact hg ht x hx
   · have : ¬ (Zh most w s).2 = true := by simp [Zh, hb]
     rw [if_neg this]
     refine ⟨⟨hp, W4 w s, fun k o ho => Z5v w s k o ho, fun _ => ?_, fun _ => ?_, fun h1 => by cases h1⟩, fun h1 => by cases h1⟩
     · show most < ((putM w s).all.length : Int); omega
     · show ((putM w s).all.length : Int) ≤ most + 1; omega
theorem Z8K {l : List Qd} {w : Wd} (h : CInv l w) {q : Qd} (hq : q ∈ w.all) (a : Ask) : ∀ s ∈ UD a.1 q (atL a.2.1 w.at') a.2.2, SOK w.all s := by
 intro s hs
 obtain ⟨o, ho, n, hn, hst⟩ := mem_cands.1 hs
 have hoa := h.spots.sub _ _ ho
 unfold XE at hst
 cases hf : a.1
 · rw [hf] at hst
   simp only [Bool.false_eq_true, if_false] at hst
   split at hst
   · rename_i hd; injection hst with hst; subst hst; exact ⟨hoa, hq, hd, rfl⟩
   · cases hst
 · rw [hf] at hst
   simp only [if_true] at hst
   split at hst
   · rename_i hd; injection hst with hst; subst hst; exact ⟨hq, hoa, hd, rfl⟩
   · cases hst
theorem Z8L {l : List Qd} {most : Int} {q : Qd} : ∀ {as' : List Ask} {w : Wd}, CInv l w → q ∈ w.all → (w.all.length : Int) ≤ most → Grown l most w (askL (Zh most) Wd.at' q as' w) ∧
   ((askL (Zh most) Wd.at' q as' w).2 = true → ∀ a ∈ as', ∀ o ∈ atL a.2.1 w.at', ∀ n ∈ a.2.2, ∀ s, XE a.1 q o n = some s → s.q ∈ (askL (Zh most) Wd.at' q as' w).1.all)
 | [], w, h, _, _ => ⟨Grown.refl h, fun _ a ha => by cases ha⟩
 | a :: as', w, h, hq, hm => by
   obtain ⟨g, hg⟩ := Z7G (c := UD a.1 q (atL a.2.1 w.at') a.2.2) h (Z8K h hq a) hm
   unfold askL
   have e : askM (Zh most) Wd.at' q a w = ZI (Zh most) (UD a.1 q (atL a.2.1 w.at') a.2.2) w := rfl
   rw [e]
   by_cases hb : (ZI (Zh most) (UD a.1 q (atL a.2.1 w.at') a.2.2) w).2 = true
   · rw [if_pos hb]
     obtain ⟨g2, hg2⟩ := Z8L (as' := as') g.inv (g.pre.subset hq) (g.yes hb hm)
     refine ⟨⟨g2.inv, g.pre.trans g2.pre, fun k o ho => g2.spots k o (g.spots k o ho), g2.less, fun _ => g2.upto (g.yes hb hm), fun h1 _ => g2.yes h1 (g.yes hb hm)⟩, fun ht x hx o ho n hn s hs => ?_⟩
     rcases List.mem_cons.1 hx with rfl | hx
     · exact g2.pre.subset (hg hb s (mem_cands.2 ⟨o, ho, n, hn, hs⟩))
     · exact hg2 ht x hx o (g.spots _ _ ho) n hn s hs
   · rw [if_neg hb]
     refine ⟨⟨g.inv, g.pre, g.spots, fun _ => g.less (by simpa using hb), g.upto, fun h1 => by cases h1⟩, fun h1 => by cases h1⟩
def JV (most : Int) (q : Qd) (w : Wd) : Wd × Bool := askL (Zh most) Wd.at' q (asks q) w
def Z44 (i : Nat) (w : Wd) : Prop := ∀ a ∈ w.all.take i, ∀ b ∈ w.all.take i, ∀ n, (Zm n a b).2 = true → (Zm n a b).1 ∈ w.all
theorem ZbF {l : List Qd} {most : Int} {w : Wd} {i : Nat} (hi : i < w.all.length) (h : CInv l w) (hm : (w.all.length : Int) ≤ most) (hd : Z44 i w) :
   Grown l most w (JV most w.all[i] w) ∧ ((((JV most w.all[i] w).1.all.length : Nat) : Int) ≤ most → Z44 (i + 1) (JV most w.all[i] w).1) := by
 have hq : w.all[i] ∈ w.all := List.getElem_mem _
 obtain ⟨g, hg⟩ := Z8L (as' := asks w.all[i]) h hq hm
 refine ⟨g, fun hle => ?_⟩
 have ht : (JV most w.all[i] w).2 = true := by
   cases hb : (JV most w.all[i] w).2 with
   | true => rfl
   | false => have := g.less hb; unfold JV at hle; omega
 have hg := hg ht
 have htk : (JV most w.all[i] w).1.all.take (i + 1) = w.all.take i ++ [w.all[i]] := by
   obtain ⟨t, ht⟩ := g.pre
   unfold JV
   rw [← ht, List.take_append_of_le_length (by omega), List.take_succ_eq_append_getElem hi]
 intro a ha b hb n hdr
 rw [htk] at ha hb
 rcases List.mem_append.1 ha with ha | ha
 · rcases List.mem_append.1 hb with hb | hb
   · exact g.pre.subset (hd a ha b hb n hdr)
   · have hb := List.mem_singleton.1 hb
     subst hb
     obtain ⟨k, hk, h1, h2, j, hj, h3⟩ := Zff hdr
     exact hg k hk a (h3 ▸ h.spots.all a (List.mem_of_mem_take ha) j hj) n h2 ⟨n, a, w.all[i], (Zm n a w.all[i]).1⟩ (by simp [XE, h1, hdr])
 · have ha := List.mem_singleton.1 ha
   subst ha
   have hbm : b ∈ w.all := by
     rcases List.mem_append.1 hb with hb | hb
     · exact List.mem_of_mem_take hb
     · exact List.mem_singleton.1 hb ▸ hq
   obtain ⟨k, hk, h1, h2, j, hj, h3⟩ := Zfe hdr
   exact hg k hk b (h3 ▸ h.spots.all b hbm j hj) n h2 ⟨n, w.all[i], b, (Zm n w.all[i] b).1⟩ (by simp [XE, h1, hdr])
def runW (most : Int) (w : Wd) : Nat → Wd
 | 0 => w
 | i + 1 => match (runW most w i).all[i]? with
   | some q => (JV most q (runW most w i)).1
   | none => runW most w i
abbrev More (most : Int) (i : Nat) (w : Wd) : Prop := i < w.all.length ∧ (w.all.length : Int) ≤ most
def Z7H (most : Int) (w : Wd) (n : Nat) (v : Wd) : Prop := v = runW most w n ∧ ∀ j, j < n → More most j (runW most w j)
theorem Xa (most : Int) (w : Wd) : Z7H most w 0 w := ⟨rfl, fun j h => by omega⟩
theorem ZcT {most : Int} {w v : Wd} {i : Nat} (h : Z7H most w i v) (hi : i < v.all.length) (hm : (v.all.length : Int) ≤ most) : Z7H most w (i + 1) (JV most v.all[i] v).1 := by
 obtain ⟨rfl, h⟩ := h
 refine ⟨by simp only [runW, List.getElem?_eq_getElem hi], fun j hj => ?_⟩
 rcases Nat.lt_or_eq_of_le (Nat.le_of_lt_succ hj) with h1 | rfl
 · exact h j h1
 · exact ⟨hi, hm⟩
theorem Zek {most : Int} {w v v' : Wd} {n n' : Nat} (h : Z7H most w n v) (h' : Z7H most w n' v') (e : ¬ More most n v) (e' : ¬ More most n' v') : v = v' := by
 rcases Nat.lt_trichotomy n n' with h1 | h1 | h1
 · exact (e (h.1 ▸ h'.2 n h1)).elim
 · subst h1; exact h.1.trans h'.1.symm
 · exact (e' (h'.1 ▸ h.2 n' h1)).elim
theorem ZcU {w : Wd} (h : Z44 w.all.length w) : Z7F w.all := fun n a b ha hb hd => h a (by rw [List.take_length]; exact ha) b (by rw [List.take_length]; exact hb) n hd
def Z8M (most : Int) (w : Wd) : Option (List Qd) := if (w.all.length : Int) ≤ most then some (setL Zw w.all) else none
theorem Z6A {l : List Qd} {most : Int} {w : Wd} (h : CInv l w) (hd : (w.all.length : Int) ≤ most → Z44 w.all.length w) : IsCl l most (Z8M most w) := by
 unfold Z8M
 by_cases hb : (w.all.length : Int) ≤ most
 · rw [if_pos hb]
   refine ⟨Z02 triQ _, fun q => ?_, ?_⟩
   · rw [Vk]
     exact ⟨h.der q, ZdA (ZcU (hd hb)) h.sub⟩
   · have := Z4X (c := Zw) w.all; omega
 · rw [if_neg hb]
   exact ⟨w.all, h.spots.nodup, h.der, by omega⟩
def rulesL : List Int := [2, 3, 5, 7, 9, 11]
def Z35 (q : Qd) : Bool := decide (q.p = iriT domB ∨ q.p = iriT ranB ∨ q.p = iriT subP ∨ q.p = iriT subC)
theorem Z36 {n : Int} {a b : Qd} (h : (Zm n a b).2 = true) : Z35 a = true ∧ n ∈ rulesL := by
 obtain ⟨_, _, _, hd, _, _⟩ := Jo h
 refine ⟨decide_eq_true ?_, by rcases VK h with rfl | rfl | rfl | rfl | rfl | rfl <;> decide⟩
 rcases VK h with rfl | rfl | rfl | rfl | rfl | rfl <;> simp [ZA] at hd <;> simp [hd.1]
structure DrIn (l out : List Qd) : Prop where
 nodup : out.Nodup
 new : ∀ r ∈ out, r ∉ l
 drawn : ∀ r ∈ out, ∃ n a b, a ∈ l ∧ b ∈ l ∧ (Zm n a b).2 = true ∧ r = (Zm n a b).1
def InP (l out : List Qd) (a b : Qd) (ns : List Int) : Prop := ∀ n ∈ ns, (Zm n a b).2 = true → (Zm n a b).1 ∈ l ++ out
structure DrawsOf (l out : List Qd) : Prop extends DrIn l out where
 all : ∀ a ∈ l, ∀ b ∈ l, ∀ n, (Zm n a b).2 = true → (Zm n a b).1 ∈ l ++ out
theorem ZcV (l : List Qd) : DrIn l [] := ⟨List.nodup_nil, (fun r h => by cases h), fun r h => by cases h⟩
theorem ZbG {l out : List Qd} (h : DrIn l out) {n : Int} {a b : Qd} (ha : a ∈ l) (hb : b ∈ l) (hd : (Zm n a b).2 = true) (hn : (Zm n a b).1 ∉ l ++ out) : DrIn l (out ++ [(Zm n a b).1]) := by
 rw [List.mem_append, not_or] at hn
 refine ⟨?_, fun r hr => ?_, fun r hr => ?_⟩
 · rw [List.nodup_append]
   exact ⟨h.nodup, by simp, fun x hx y hy e => by rw [List.mem_singleton.1 hy] at e; exact hn.2 (e ▸ hx)⟩
 · rcases List.mem_append.1 hr with hr | hr
   · exact h.new r hr
   · rw [List.mem_singleton.1 hr]; exact hn.1
 · rcases List.mem_append.1 hr with hr | hr
   · exact h.drawn r hr
   · exact ⟨n, a, b, ha, hb, hd, List.mem_singleton.1 hr⟩
theorem Z50 {l out out' : List Qd} (h : ∀ r ∈ out, r ∈ out') {a b : Qd} {ns : List Int} (hp : InP l out a b ns) : InP l out' a b ns := fun n hn hd =>
 (List.mem_append.1 (hp n hn hd)).elim (fun h1 => List.mem_append_left _ h1) fun h1 => List.mem_append_right _ (h _ h1)
theorem ZcW (l out : List Qd) (a b : Qd) (ns : List Int) : InP l out a b (ns.take 0) := fun n hn => by simp at hn
theorem Z8N {l out : List Qd} {a b : Qd} {ns : List Int} {n : Nat} (hn : n < ns.length) (h : InP l out a b (ns.take n)) (h1 : (Zm ns[n] a b).2 = true → (Zm ns[n] a b).1 ∈ l ++ out) : InP l out a b (ns.take (n + 1)) := by
 intro m hm hd
 rw [List.take_succ_eq_append_getElem hn] at hm
 rcases List.mem_append.1 hm with hm | hm
 · exact h m hm hd
 · rw [List.mem_singleton.1 hm] at hd ⊢; exact h1 hd
theorem ZbH {l out : List Qd} {a b : Qd} (h : InP l out a b rulesL) : ∀ n, (Zm n a b).2 = true → (Zm n a b).1 ∈ l ++ out := fun n hd => h n (Z36 hd).2 hd
theorem Zfg {l out : List Qd} {a : Qd} (h : Z35 a = false) (b : Qd) : InP l out a b rulesL := fun n _ hd => by have := (Z36 hd).1; rw [h] at this; cases this
theorem U9 {α : Type} {l : List α} {i : Nat} (h : i < l.length) {x : α} : x ∈ l.take (i + 1) ↔ x ∈ l.take i ∨ x = l[i] := by
 rw [List.take_succ_eq_append_getElem h, List.mem_append, List.mem_singleton]
def Z1j (q t : Qd) : List Qd := [⟨q.s, iriT typB, t.o, q.g⟩, ⟨q.o, iriT typB, t.o, q.g⟩, ⟨q.s, q.p, t.o, q.g⟩, ⟨q.s, t.o, q.o, q.g⟩]
theorem Za3 {n : Int} {a b : Qd} (h : (Zm n a b).2 = true) : (Zm n a b).1 ∈ Z1j b a ∨ (Zm n a b).1 ∈ Z1j a b := by
 obtain ⟨_, _, hg, hd, _, he⟩ := Jo h
 rw [he]
 rcases VK h with rfl | rfl | rfl | rfl | rfl | rfl
 · exact .inl (by simp [ZA, Z1j, hg])
 · exact .inl (by simp [ZA, Z1j, hg])
 · exact .inr (by simp [ZA, Z1j])
 · exact .inl (by simp [ZA, Z1j, hg])
 · exact .inl (by simp [ZA, Z1j, hg])
 · exact .inr (by simp [ZA, Z1j])
def ObIn (base l : List Qd) : Prop := ∀ q ∈ l, ∃ t ∈ base, q.o = t.o
theorem ZbI (l : List Qd) : ObIn l l := fun q h => ⟨q, h, rfl⟩
theorem ZbJ {q t t' : Qd} (h : t.o = t'.o) : Z1j q t = Z1j q t' := by simp [Z1j, h]
theorem WC {α β : Type} (f : α → List β) (k : Nat) (h : ∀ x, (f x).length = k) : ∀ l : List α, (l.flatMap f).length = l.length * k
 | [] => by simp
 | x :: l => by rw [List.flatMap_cons, List.length_append, h, WC f k h l, List.length_cons, Nat.succ_mul]; omega
theorem Z8O {base l out : List Qd} (h : DrIn l out) (ho : ObIn base l) : out.length ≤ l.length * (base.length * 4) := by
 have hs := Z34 h.nodup (u := l.flatMap fun q => base.flatMap fun t => Z1j q t) fun r hr => by
   obtain ⟨n, a, b, ha, hb, hd, rfl⟩ := h.drawn r hr
   rcases Za3 hd with h1 | h1
   · obtain ⟨t, ht, e⟩ := ho a ha
     exact List.mem_flatMap.2 ⟨b, hb, List.mem_flatMap.2 ⟨t, ht, ZbJ e ▸ h1⟩⟩
   · obtain ⟨t, ht, e⟩ := ho b hb
     exact List.mem_flatMap.2 ⟨a, ha, List.mem_flatMap.2 ⟨t, ht, ZbJ e ▸ h1⟩⟩
 rwa [WC _ (base.length * 4) (fun q => WC _ 4 (fun t => rfl) base)] at hs
theorem Zel {n : Int} {a b : Qd} (h : (Zm n a b).2 = true) : (Zm n a b).1.o = a.o ∨ (Zm n a b).1.o = b.o := by
 obtain ⟨_, _, hg, hd, _, he⟩ := Jo h
 rw [he]
 rcases VK h with rfl | rfl | rfl | rfl | rfl | rfl <;> simp [ZA]
theorem Zem {base l out : List Qd} (h : DrIn l out) (ho : ObIn base l) : ObIn base (setL Zw (l ++ out)) := by
 intro q hq
 rw [Vk] at hq
 rcases List.mem_append.1 hq with hq | hq
 · exact ho q hq
 · obtain ⟨n, a, b, ha, hb, hd, rfl⟩ := h.drawn q hq
   rcases Zel hd with e | e
   · rw [e]; exact ho a ha
   · rw [e]; exact ho b hb
structure RInv (l m : List Qd) : Prop where
 rise : Rise Zw m
 sub : ∀ q ∈ l, q ∈ m
 der : ∀ q ∈ m, Der l q
 ob : ObIn l m
theorem Z37 {l : List Qd} (h : Rise Zw l) : RInv l l := ⟨h, fun _ h => h, fun _ h => .base h, ZbI l⟩
theorem Z6B {l m out : List Qd} (h : RInv l m) (hd : DrIn m out) : RInv l (setL Zw (m ++ out)) := by
 refine ⟨Z02 triQ _, fun q hq => ?_, fun q hq => ?_, Zem hd h.ob⟩
 · rw [Vk]; exact List.mem_append_left _ (h.sub q hq)
 · rw [Vk] at hq
   rcases List.mem_append.1 hq with hq | hq
   · exact h.der q hq
   · obtain ⟨n, a, b, ha, hb, hdr, rfl⟩ := hd.drawn q hq
     exact .step (h.der a ha) (h.der b hb) hdr
theorem ZcX {l m out : List Qd} (h : RInv l m) (hd : DrIn m out) (hne : out ≠ []) : m.length < (setL Zw (m ++ out)).length := by
 cases out with
 | nil => exact (hne rfl).elim
 | cons r out =>
   have : (r :: m).Nodup := List.nodup_cons.2 ⟨hd.new r (List.mem_cons_self ..), VL h.rise⟩
   have := Z34 this (u := setL Zw (m ++ r :: out)) fun q hq => by
     rw [Vk]
     rcases List.mem_cons.1 hq with rfl | hq
     · exact List.mem_append_right _ (List.mem_cons_self ..)
     · exact List.mem_append_left _ hq
   simp only [List.length_cons] at this
   omega
theorem Z8P {l m : List Qd} {most : Int} (h : RInv l m) (hd : DrawsOf m []) (hm : (m.length : Int) ≤ most) : IsCl l most (some m) := by
 have hc : Z7F m := fun n a b ha hb hdr => by simpa using hd.all a ha b hb n hdr
 exact ⟨h.rise, fun q => ⟨h.der q, ZdA hc h.sub⟩, hm⟩
theorem Z6C {l m : List Qd} {most : Int} (h : RInv l m) (hm : most < (m.length : Int)) : IsCl l most none := ⟨m, VL h.rise, h.der, hm⟩
theorem W5 {σ : Type} {T : σ → St → σ × Bool} {c : List St} {s : σ} (h : (ZI T c s).2 = false) (d : List St) : ZI T (c ++ d) s = ZI T c s := by
 rw [UE, h]
 simp only [Bool.false_eq_true, if_false]
 rw [← h]
theorem W6 {σ : Type} {T : σ → St → σ × Bool} {c : List St} {s : σ} (h : (ZI T c s).2 = true) (x : St) : ZI T (c ++ [x]) s = T (ZI T c s).1 x := by
 rw [UE, h]
 simp only [if_true, ZI]
 split
 · rename_i hb; rw [← hb]
 · rename_i hb
   have : (T (ZI T c s).1 x).2 = false := by simpa using hb
   rw [← this]
theorem ZdB {most : Int} : ∀ {c : List St} {w : Wd} {N : Nat}, WdOK w → w.all.length ≤ N → most ≤ (N : Int) → WdOK (ZI (Zh most) c w).1 ∧ (ZI (Zh most) c w).1.all.length ≤ N + 1 ∧ ((ZI (Zh most) c w).2 = true → (ZI (Zh most) c w).1.all.length ≤ N)
 | [], w, N, h, h1, h2 => ⟨h, Nat.le_succ_of_le h1, fun _ => h1⟩
 | s :: c, w, N, h, h1, h2 => by
   unfold ZI
   have hl := Z7o w s
   by_cases hb : ((putM w s).all.length : Int) ≤ most
   · have : (Zh most w s).2 = true := decide_eq_true hb
     rw [if_pos this]
     exact ZdB (c := c) (Z2O h s) (show (putM w s).all.length ≤ N by omega) h2
   · have : ¬ (Zh most w s).2 = true := by simp [Zh, hb]
     rw [if_neg this]
     exact ⟨Z2O h s, show (putM w s).all.length ≤ N + 1 by omega, fun h => by cases h⟩
def preC (first : Bool) (q : Qd) (others : List Qd) (ns : List Int) (i j : Nat) : List St := UD first q (others.take i) ns ++ (ns.take j).filterMap (XE first q (others.getD i Jk))
theorem Z6D (first : Bool) (q : Qd) (others : List Qd) (ns : List Int) : preC first q others ns 0 0 = [] := by simp [preC, UD]
theorem Z8Q {first : Bool} {q : Qd} {others : List Qd} {ns : List Int} {i : Nat} (h : i < others.length) : preC first q others ns i ns.length = preC first q others ns (i + 1) 0 := by
 unfold preC UD
 rw [List.take_length, List.take_zero, List.filterMap_nil, List.append_nil, List.take_succ_eq_append_getElem h, List.flatMap_append]
 simp [List.getD, h]
theorem Z8R {first : Bool} {q : Qd} {others : List Qd} {ns : List Int} : preC first q others ns others.length 0 = UD first q others ns := by simp [preC]
theorem Jb {first : Bool} {q : Qd} {others : List Qd} {ns : List Int} {i j : Nat} (hi : i < others.length) (hj : j < ns.length) (h : XE first q others[i] ns[j] = none) : preC first q others ns i (j + 1) = preC first q others ns i j := by
 unfold preC
 rw [List.take_succ_eq_append_getElem hj, List.filterMap_append]
 simp [List.getD, hi, h]
theorem Z08 {first : Bool} {q : Qd} {others : List Qd} {ns : List Int} {i j : Nat} (hi : i < others.length) (hj : j < ns.length) {c : St} (h : XE first q others[i] ns[j] = some c) : preC first q others ns i (j + 1) = preC first q others ns i j ++ [c] := by
 unfold preC
 rw [List.take_succ_eq_append_getElem hj, List.filterMap_append]
 simp [List.getD, hi, h]
theorem Z09 {first : Bool} {q : Qd} {others : List Qd} {ns : List Int} {i j : Nat} (hi : i < others.length) : ∃ d, UD first q others ns = preC first q others ns i j ++ d := by
 refine ⟨(ns.drop j).filterMap (XE first q others[i]) ++ UD first q (others.drop (i + 1)) ns, ?_⟩
 have h1 : others = others.take i ++ (others[i] :: others.drop (i + 1)) := by rw [← List.drop_eq_getElem_cons hi, List.take_append_drop]
 have h2 : ns.filterMap (XE first q others[i]) = (ns.take j).filterMap (XE first q others[i]) ++ (ns.drop j).filterMap (XE first q others[i]) := by rw [← List.filterMap_append, List.take_append_drop]
 conv => lhs; rw [h1]
 unfold preC UD
 rw [List.flatMap_append, List.flatMap_cons, h2]
 simp [List.getD, hi]
end Go.Our
namespace Go.Sx
open Go Go.Sort Go.Shelf Go.Proofs
theorem HeapOK.later {M : Mx} {η : Env} {w w' : World} {O : Hps} {nx : Nat} (H : HeapOK M η w O nx) (hf : FrW w w' fun _ => False) : HeapOK M η w' O nx := by
 have hk : ∀ {i h}, lkp i O = some h → ∀ k, feet η w (.loc i) h k → w'.heap[k]? = w.heap[k]? := fun hi k f => hf.block k ((H.own.1 _ _ hi).1.feet_lt f) (fun h => h)
 have hb : ∀ {i h}, lkp i O = some h → ∀ k, feet η w' (.loc i) h k → feet η w (.loc i) h k := fun hi k f => H.stands List.prefix_rfl hi (hk hi) f
 exact ⟨H.pre, H.len, ⟨fun i h hi => ⟨(H.own.1 i h hi).1.keep (hk hi), fun k f => (H.own.1 i h hi).2 k (hb hi k f)⟩, fun i j h h' k hi hj hij f f' => H.own.2 i j h h' k hi hj hij (hb hi k f) (hb hj k f')⟩, H.fr.trans hf (fun n h => h.elim), H.sok⟩
section
variable {α : Type} [Inhabited α] (enc : α → List Value) (k : Nat)
end
end Go.Sx
namespace Go.Our
open Go.Sx
def badM (l : List Qd) (i : Nat) : Option (Nat × Int) := if h : i < l.length then (if Zx l[i] ≠ 0 then some (i, Zx l[i]) else badM l (i + 1)) else none
termination_by l.length - i
theorem Z7J {l : List Qd} {i : Nat} (h : l.length ≤ i) : badM l i = none := by unfold badM; rw [dif_neg (by omega)]
theorem ZbL {l : List Qd} {i : Nat} (h : i < l.length) : badM l i = if Zx l[i] ≠ 0 then some (i, Zx l[i]) else badM l (i + 1) := by
 conv => lhs; unfold badM
 rw [dif_pos h]
def Z0D (l : List Qd) (i : Nat) : Option Nat := if h : i < l.length then (if 0 ≤ Zw (l[i - 1]'(by omega)) l[i] then some i else Z0D l (i + 1)) else none
termination_by l.length - i
theorem Z8S {l : List Qd} {i : Nat} (h : l.length ≤ i) : Z0D l i = none := by unfold Z0D; rw [dif_neg (by omega)]
theorem Z7K {l : List Qd} {i : Nat} (h : i < l.length) : Z0D l i = if 0 ≤ Zw (l[i - 1]'(by omega)) l[i] then some i else Z0D l (i + 1) := by
 conv => lhs; unfold Z0D
 rw [dif_pos h]
def ZZ (l : List Qd) : Nat × Int :=
 if 1048576 < l.length then (0, 2) else match badM l 0 with
 | some x => x
 | none => match Z0D l 1 with
   | some i => (i, 6)
   | none => (0, 0)
end Go.Our
namespace Go.Our
section
variable {α : Type} {c : α → α → Int}
end
theorem Z45 : ∀ {l : List Qd} {i : Nat}, 1 ≤ i → Xk l i = true → ∀ k (hk : k < l.length), i ≤ k → Zw (l[k - 1]'(by omega)) l[k] < 0
 | l, i, hi, h, k, hk, hik => by
   have hil : i < l.length := by omega
   rw [Z4D hil, Bool.and_eq_true, decide_eq_true_iff] at h
   rcases Nat.lt_or_eq_of_le hik with h1 | rfl
   · exact Z45 (by omega) h.2 k hk (by omega)
   · omega
 termination_by l i => l.length - i
theorem Z15 {l : List Qd} (h : ∀ k (hk : k < l.length), 1 ≤ k → Zw (l[k - 1]'(by omega)) l[k] < 0) : Rise Zw l := by
 refine List.pairwise_iff_getElem.2 fun i j hi hj hij => ?_
 induction j with
 | zero => omega
 | succ j ih =>
   have h1 := h (j + 1) hj (by omega)
   simp only [Nat.add_sub_cancel] at h1
   rcases Nat.lt_or_eq_of_le (Nat.le_of_lt_succ hij) with h2 | rfl
   · exact triQ.lt_trans (ih (by omega) h2) (by omega)
   · exact h1
theorem Z46 {l : List Qd} (h : Xk l 1 = true) : Rise Zw l := Z15 (Z45 (Nat.le_refl _) h)
theorem VM : ∀ {l : List Qd} {i : Nat}, 1 ≤ i → Rise Zw l → Xk l i = true
 | l, i, hi, h => by
   by_cases hil : i < l.length
   · rw [Z4D hil, VM (i := i + 1) (by omega) h, Bool.and_true, decide_eq_true_iff]
     have := Z1A h (i := i - 1) (j := i) (by omega) hil
     omega
   · exact Z5U (by omega)
 termination_by l i => l.length - i
end Go.Our
namespace Go.Our
open Go.Sx
theorem Z8X : ∀ {l : List Qd} {i : Nat}, (∀ x, badM l i = some x → x.2 ≠ 0)
 | l, i => by
   intro x hx
   by_cases h : i < l.length
   · rw [ZbL h] at hx
     split at hx
     · rename_i hc; injection hx with hx; subst hx; exact hc
     · exact Z8X x hx
   · rw [Z7J (by omega)] at hx; cases hx
 termination_by l i => l.length - i
theorem Z6N : ∀ {l : List Qd} {i : Nat}, Z0D l i = none → ∀ k (hk : k < l.length), 1 ≤ k → i ≤ k → Zw (l[k - 1]'(by omega)) l[k] < 0
 | l, i => by
   intro h k hk h1 hik
   have hil : i < l.length := by omega
   rw [Z7K hil] at h
   split at h
   · cases h
   · rename_i hc
     rcases Nat.lt_or_eq_of_le hik with h2 | rfl
     · exact Z6N h k hk h1 (by omega)
     · omega
 termination_by l i => l.length - i
theorem Jw {l : List Qd} (h : (ZZ l).2 = 0) : Rise Zw l ∧ l.length ≤ 1048576 := by
 unfold ZZ at h
 split at h
 · cases h
 · rename_i hl
   cases hb : badM l 0 with
   | some x => rw [hb] at h; exact (Z8X x hb h).elim
   | none =>
     rw [hb] at h
     cases hf : Z0D l 1 with
     | some i => rw [hf] at h; cases h
     | none => exact ⟨Z15 fun k hk h1 => Z6N hf k hk h1 h1, by omega⟩
end Go.Our
