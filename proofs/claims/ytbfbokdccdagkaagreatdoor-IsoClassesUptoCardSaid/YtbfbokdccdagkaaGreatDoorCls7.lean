/- Part 7: SxDrawn, SxDrawnS, SxDrawnT, SxAuto3, CmpM, SetM, SetN, Sort, SxRange, ListM, Prs, SxKeep, SxKids, MapG, ApartM, IsoM, SortS, SetO, SplitM, TagM, TermM, ValidM, InferM, WorldM, CloseM, DrawsM, ClosR, LeastM, MapM, FreshM, BijM, SightM, Itoa, KidD. Conditions: as each part says. -/
import Derived.Lib.Bytealg
import Derived.Lib.Strings
import Derived.Shelf.SlSortCmp.NoneTotal
import Derived.RangeFuncNested
import Derived.Shelf.Sort.Plain
import Derived.Shelf.Slices.In.SortNone
import Derived.Lib.ItoaNum
import Derived.Shelf.Strconv.Itoa3
import Derived.Test.YtbfbokdccdagkaaGreatDoorCls3
import Derived.Test.YtbfbokdccdagkaaGreatDoorCls6
set_option linter.unusedVariables false
set_option linter.unusedSimpArgs false
namespace Go.Sx
open Go
def Det (v : SV) : Prop := ∀ η u u', Den η v u → Den η v u' → u = u'
def DetL (vs : List SV) : Prop := ∀ η us us', DenL η vs us → DenL η vs us' → us = us'
mutual
def detV : SV → Bool
 | .bool _ | .int _ _ | .str _ | .ptr _ _ _ _ | .val _ | .mp _ | .yf _ => true
 | .dfs _ => false
 | .sl _ r _ _ _ => Nat.beq r 0
 | .agg cs => Z1b cs
 | .tup vs => Z1b vs
 | .ifc _ v => detV v
 | .fn _ a b => Z1b a && Z1b b
 | .arr _ _ => false
 | .any => false
 | .nb _ => false
def Z1b : List SV → Bool
 | [] => true
 | c :: cs => detV c && Z1b cs
end
mutual
theorem Det.of : ∀ {v : SV}, detV v = true → Det v
 | .bool _, _ => fun η u u' h h' => by simp only [Den] at h h'; rw [h, h']
 | .int _ _, _ => fun η u u' h h' => by simp only [Den] at h h'; rw [h, h']
 | .str _, _ => fun η u u' h h' => by simp only [Den] at h h'; rw [h, h']
 | .val _, _ => fun η u u' h h' => by simp only [Den] at h h'; rw [h.1, h'.1]
 | .mp b, _ => fun η u u' h h' => by
   simp only [Den] at h h'
   obtain ⟨e, h1, rfl⟩ := h
   obtain ⟨e', h2, rfl⟩ := h'
   rw [h1] at h2; injection h2 with h2; injection h2 with h2; rw [h2]
 | .ptr b r es c, _ => fun η u u' h h' => by
   simp only [Den] at h h'
   obtain ⟨e, h1, rfl⟩ := h
   obtain ⟨e', h2, rfl⟩ := h'
   rw [h1] at h2; injection h2 with h2; injection h2 with h2; rw [h2]
 | .sl b r es len lim, hd => fun η u u' h h' => by
   simp only [detV] at hd
   have hd := Zk hd
   simp only [Den] at h h'
   rcases h with ⟨h1, rfl, _⟩ | ⟨e, o, h1, rfl, _, _, h2⟩
   · rcases h' with ⟨h1', rfl, _⟩ | ⟨e', o', h1', rfl, _, _, h2'⟩
     · rfl
     · rw [h1] at h1'; cases h1'
   · rcases h' with ⟨h1', rfl, _⟩ | ⟨e', o', h1', rfl, _, _, h2'⟩
     · rw [h1] at h1'; cases h1'
     · rw [h1] at h1'; injection h1' with h1'; injection h1' with h1'; subst h1'
       rw [h2 (.inr hd), h2' (.inr hd)]
 | .agg cs, hd => fun η u u' h h' => by
   simp only [detV] at hd
   simp only [Den] at h h'
   obtain ⟨us, rfl, h1, _⟩ := h
   obtain ⟨us', rfl, h2, _⟩ := h'
   rw [DetL.of hd η us us' h1 h2]
 | .tup cs, hd => fun η u u' h h' => by
   simp only [detV] at hd
   simp only [Den] at h h'
   obtain ⟨us, rfl, h1⟩ := h
   obtain ⟨us', rfl, h2⟩ := h'
   rw [DetL.of hd η us us' h1 h2]
 | .ifc t v, hd => fun η u u' h h' => by
   simp only [detV] at hd
   simp only [Den] at h h'
   obtain ⟨us, rfl, h1⟩ := h
   obtain ⟨us', rfl, h2⟩ := h'
   rw [Det.of hd η us us' h1 h2]
 | .fn f a b, hd => fun η u u' h h' => by
   simp only [detV, Bool.and_eq_true] at hd
   simp only [Den] at h h'
   obtain ⟨us, vs, rfl, h1, h3⟩ := h
   obtain ⟨us', vs', rfl, h2, h4⟩ := h'
   rw [DetL.of hd.1 η us us' h1 h2, DetL.of hd.2 η vs vs' h3 h4]
 | .arr _ _, hd => by simp [detV] at hd
 | .any, hd => by simp [detV] at hd
 | .nb _, hd => by simp [detV] at hd
 | .dfs _, hd => by simp [detV] at hd
 | .yf b, _ => fun η u u' h h' => by
   simp only [Den] at h h'
   obtain ⟨e, h1, rfl⟩ := h
   obtain ⟨e', h2, rfl⟩ := h'
   rw [h1] at h2; injection h2 with h2; injection h2 with h2; rw [h2]
theorem DetL.of : ∀ {vs : List SV}, Z1b vs = true → DetL vs
 | [], _ => fun η us us' h h' => by simp only [DenL] at h h'; rw [h, h']
 | c :: cs, hd => fun η us us' h h' => by
   simp only [Z1b, Bool.and_eq_true] at hd
   simp only [DenL] at h h'
   obtain ⟨u, r, rfl, h1, h2⟩ := h
   obtain ⟨u', r', rfl, h1', h2'⟩ := h'
   rw [Det.of hd.1 η u u' h1 h1', DetL.of hd.2 η r r' h2 h2']
end
def Uh : Hps → List (Blk × Hp)
 | [] => []
 | (i, h) :: r => (.loc i, h) :: Uh r
def Z3g (C : Cx) (O : Hps) : Cx := ⟨C.T, C.N, Uh O ++ C.S, C.ro⟩
def Z0D (C : Cx) : Cx := ⟨{ C.T with globs := [], gplain := rfl }, C.N, [], C.ro⟩
def shMx (M : Mx) (O : Hps) (η : Env) (w : World) : Mx := ⟨M.P, Z3g M.C O, w, fun _ => False, η⟩
def blMx (M : Mx) (η : Env) (w : World) : Mx := ⟨M.P, Z0D M.C, w, fun _ => False, η⟩
def Z2f : SV → Prop → Prop
 | .bool _, K | .int _ _, K | .str _, K | .ptr _ _ _ _, K | .val _, K => K
 | .agg cs, K => match Z1b cs with | true => K | false => NEED (Det (.agg cs)) K
 | .tup cs, K => match Z1b cs with | true => K | false => NEED (Det (.tup cs)) K
 | v, K => NEED (Det v) K
def Z5Q (N : Nat) (C : Cx) (o : Oper) (fr : Fr) (nx : Nat) (K : SV → Prop) : Prop :=
 match Jg N o.dst with
 | false => STOP "slot"
 | true => match o.op with
   | .move x => match Jw fr x with | some v => K v | none => STOP "operand"
   | .assign x => match Jw fr x with | some v => K v | none => STOP "operand"
   | op => match Za7 op with
     | true => STOP "writes"
     | false => (opR C (Jw fr) [] nx op).gv fun v => Z2f v (K v)
structure ADD (M : Mx) (o : Oper) (fr : Fr) (O : Hps) (nx : Nat) (K : SV → Hps → Nat → Prop) : Prop where
 mkH ::
 hout : ∀ η w, HeapOK M η w O nx → WZ (shMx M O η w) o (Jw fr) [] nx fun v O2 nx => K v (O2 ++ O) nx
theorem ADD.mk {M : Mx} {o : Oper} {fr : Fr} {O : Hps} {nx : Nat} {K : SV → Hps → Nat → Prop} (h : ∀ η w, WZ (shMx M O η w) o (Jw fr) [] nx fun v O2 nx => K v (O2 ++ O) nx) : ADD M o fr O nx K := ⟨fun η w _ => h η w⟩
def Z79 (M : Mx) (m : Nat) (o : Oper) (fr : Fr) (O : Hps) (nx : Nat) (K : SV → Hps → Nat → Prop) : Prop :=
 match m with
 | 0 => WZ M o (Jw fr) O nx K
 | 1 => Z5Q M.C.N (Z0D M.C) o fr nx fun v => K v O nx
 | 2 => Z5Q M.C.N (Z3g M.C O) o fr nx fun v => K v O nx
 | _ => ADD M o fr O nx K
inductive Plan where
 | nil
 | take (i m : Nat) (t : Plan)
 | fork (i mi j mj : Nat) (a b : Plan)
 | fork3 (i mi j mj k mk : Nat) (a b c : Plan)
 | join (t : Plan)
def ZB : List (Nat × Nat) → Plan
 | [] => .nil
 | (i, m) :: r => .take i m (ZB r)
def Plan.depth : Plan → Nat
 | .nil => 0
 | .take _ _ t => t.depth + 1
 | .fork _ _ _ _ a _ => a.depth + 1
 | .fork3 _ _ _ _ _ _ a _ _ => a.depth + 1
 | .join t => t.depth
structure FORK (A B : Prop) : Prop where
 a : A
 b : B
structure JOIN (A : Fr → Prop) (fr : Fr) : Prop where
 out : ∃ fr', (∀ t, lkp t fr' = lkp t fr) ∧ A fr'
theorem JOIN.go {A : Fr → Prop} {fr : Fr} (h : A fr) : JOIN A fr := ⟨fr, fun _ => rfl, h⟩
theorem JOIN.ij {A : Fr → Prop} {fr : Fr} {a b c s : Nat} {x y z g : SV} (h : A ((b, y) :: (c, z) :: (a, x) :: (s, g) :: fr)) (hd : (a ≠ s ∧ b ≠ s ∧ c ≠ s) ∧ a ≠ b ∧ a ≠ c ∧ b ≠ c) : JOIN A ((b, y) :: (s, g) :: (c, z) :: (s, g) :: (a, x) :: (s, g) :: fr) := by
 refine ⟨_, fun t => ?_, h⟩
 obtain ⟨⟨h1, h2, h3⟩, h4, h5, h6⟩ := hd
 simp only [Z7]
 repeat' split
 all_goals first | rfl | (exfalso; omega)
theorem JOIN.ji {A : Fr → Prop} {fr : Fr} {a b c s : Nat} {x y z g : SV} (h : A ((b, y) :: (c, z) :: (a, x) :: (s, g) :: fr)) (hd : (a ≠ s ∧ b ≠ s ∧ c ≠ s) ∧ a ≠ b ∧ a ≠ c ∧ b ≠ c) : JOIN A ((c, z) :: (s, g) :: (a, x) :: (s, g) :: (b, y) :: (s, g) :: fr) := by
 refine ⟨_, fun t => ?_, h⟩
 obtain ⟨⟨h1, h2, h3⟩, h4, h5, h6⟩ := hd
 simp only [Z7]
 repeat' split
 all_goals first | rfl | (exfalso; omega)
def oneD (M : Mx) (ops : List Oper) (i m : Nat) (fr : Fr) (O : Hps) (nx : Nat) (K : Fr → Hps → Nat → Prop) : Prop :=
 match nth ops i with
 | none => STOP "order"
 | some o => match o.guard with
   | none => Z79 M m o fr O nx fun v O nx => putK o.dst v fr fun fr => K fr O nx
   | some (j, want) =>
     match JY ops j with
     | none => STOP "guard"
     | some s => match lkp s fr with
       | some (.bool b) => IF b
         (fun J => match want with
          | true => Z79 M m o ((s, .bool true) :: fr) O nx fun v O nx => putK o.dst v ((s, .bool true) :: fr) fun fr => J fr O nx
          | false => match Jg M.C.N o.dst with | true => putK o.dst YE ((s, .bool true) :: fr) fun fr => J fr O nx | false => STOP "slot")
         (fun J => match want with
          | false => Z79 M m o ((s, .bool false) :: fr) O nx fun v O nx => putK o.dst v ((s, .bool false) :: fr) fun fr => J fr O nx
          | true => match Jg M.C.N o.dst with | true => putK o.dst YE ((s, .bool false) :: fr) fun fr => J fr O nx | false => STOP "slot")
         K
       | some (.tup []) => match Jg M.C.N o.dst with | true => putK o.dst YE fr fun fr => K fr O nx | false => STOP "slot"
       | _ => STOP "guard"
def ZcL (M : Mx) (ops : List Oper) (i m : Nat) (_ : Plan) (rest : RunT) : RunT := fun fr O nx K => oneD M ops i m fr O nx fun fr O nx => rest fr O nx K
def ZcM (M : Mx) (ops : List Oper) (i mi j mj : Nat) (_ _ : Plan) (a b : RunT) : RunT := fun fr O nx K => FORK (oneD M ops i mi fr O nx fun fr O nx => a fr O nx K) (oneD M ops j mj fr O nx fun fr O nx => b fr O nx K)
def ZbS (M : Mx) (ops : List Oper) (i mi j mj k mk : Nat) (_ _ _ : Plan) (a b c : RunT) : RunT := fun fr O nx K => FORK (oneD M ops i mi fr O nx fun fr O nx => a fr O nx K) (FORK (oneD M ops j mj fr O nx fun fr O nx => b fr O nx K) (oneD M ops k mk fr O nx fun fr O nx => c fr O nx K))
def ZcN (_ : Plan) (t : RunT) : RunT := fun fr O nx K => JOIN (fun fr => t fr O nx K) fr
noncomputable def runD (M : Mx) (ops : List Oper) (p : Plan) : RunT := Plan.rec (motive := fun _ => RunT) Za3 (ZcL M ops) (ZcM M ops) (ZbS M ops) ZcN p
theorem FORK.skip {M : Mx} {ops : List Oper} {i mi j mj k mk : Nat} {p : Plan} {fr : Fr} {O : Hps} {nx : Nat} {K : Fr → Hps → Nat → Prop} (a b c s : Nat)
   (ha : runD M ops p ((b, YE) :: (c, YE) :: (a, YE) :: (s, .bool false) :: fr) O nx K → oneD M ops i mi fr O nx fun fr O nx => runD M ops (.take k mk (.take j mj (.join p))) fr O nx K)
   (hb : runD M ops p ((b, YE) :: (c, YE) :: (a, YE) :: (s, .bool false) :: fr) O nx K → oneD M ops j mj fr O nx fun fr O nx => runD M ops (.take i mi (.take k mk (.join p))) fr O nx K)
   (r : runD M ops p ((b, YE) :: (c, YE) :: (a, YE) :: (s, .bool false) :: fr) O nx K) :
   FORK (oneD M ops i mi fr O nx fun fr O nx => runD M ops (.take k mk (.take j mj (.join p))) fr O nx K) (oneD M ops j mj fr O nx fun fr O nx => runD M ops (.take i mi (.take k mk (.join p))) fr O nx K) := ⟨ha r, hb r⟩
theorem oneD.pass {M : Mx} {ops : List Oper} {i m : Nat} {fr : Fr} {O : Hps} {nx : Nat} {K : Fr → Hps → Nat → Prop} {o : Oper} {g s a : Nat} {e : Bool}
   (h1 : nth ops i = some o) (h2 : o.guard = some (g, true)) (h3 : JY ops g = some s) (h4 : lkp s fr = some (.bool e)) (he : e = false) (h5 : o.dst = some a) (h6 : Nat.blt a M.C.N = true)
   (h : K ((a, YE) :: (s, .bool false) :: fr) O nx) : oneD M ops i m fr O nx K := by
 subst he
 unfold oneD
 simp only [h1, h2, h3, h4, h5, Jg, h6, putK]
 exact IF.ff h
theorem FORK.pass {M : Mx} {ops : List Oper} {i mi j mj k mk : Nat} {p : Plan} {fr : Fr} {O : Hps} {nx : Nat} {K : Fr → Hps → Nat → Prop} (a b c s : Nat) {oi oj ok : Oper} {gi gj gk : Nat} {e : Bool}
   (hi : nth ops i = some oi) (hj : nth ops j = some oj) (hk : nth ops k = some ok)
   (ei : oi.guard = some (gi, true)) (ej : oj.guard = some (gj, true)) (ek : ok.guard = some (gk, true))
   (si : JY ops gi = some s) (sj : JY ops gj = some s) (sk : JY ops gk = some s)
   (di : oi.dst = some a) (dj : oj.dst = some b) (dk : ok.dst = some c)
   (ni : Nat.blt a M.C.N = true) (nj : Nat.blt b M.C.N = true) (nk : Nat.blt c M.C.N = true)
   (hf : lkp s fr = some (.bool e)) (he : e = false)
   (hd : (a ≠ s ∧ b ≠ s ∧ c ≠ s) ∧ a ≠ b ∧ a ≠ c ∧ b ≠ c)
   (r : runD M ops p ((b, YE) :: (c, YE) :: (a, YE) :: (s, .bool false) :: fr) O nx K) :
   FORK (oneD M ops i mi fr O nx fun fr O nx => runD M ops (.take k mk (.take j mj (.join p))) fr O nx K) (oneD M ops j mj fr O nx fun fr O nx => runD M ops (.take i mi (.take k mk (.join p))) fr O nx K) := by
 have l1 : ∀ {v : SV} {t : Nat}, t ≠ s → lkp s ((t, v) :: (s, .bool false) :: fr) = some (.bool false) := fun h => by
   rw [Z7, if_neg (fun h' => h h'.symm), Z7, if_pos rfl]
 obtain ⟨⟨a1, a2, a3⟩, hd2⟩ := id hd
 have l2 : ∀ {v w : SV} {t u : Nat}, t ≠ s → u ≠ s → lkp s ((t, v) :: (s, .bool false) :: (u, w) :: (s, .bool false) :: fr) = some (.bool false) := fun h _ => by
   rw [Z7, if_neg (fun h' => h h'.symm), Z7, if_pos rfl]
 constructor
 · refine oneD.pass hi ei si hf he di ni ?_
   show oneD M ops k mk _ O nx fun fr O nx => runD M ops (.take j mj (.join p)) fr O nx K
   refine oneD.pass hk ek sk (l1 a1) rfl dk nk ?_
   show oneD M ops j mj _ O nx fun fr O nx => runD M ops (.join p) fr O nx K
   refine oneD.pass hj ej sj (l2 a3 a1) rfl dj nj ?_
   exact JOIN.ij r hd
 · refine oneD.pass hj ej sj hf he dj nj ?_
   show oneD M ops i mi _ O nx fun fr O nx => runD M ops (.take k mk (.join p)) fr O nx K
   refine oneD.pass hi ei si (l1 a2) rfl di ni ?_
   show oneD M ops k mk _ O nx fun fr O nx => runD M ops (.join p) fr O nx K
   refine oneD.pass hk ek sk (l2 a1 a2) rfl dk nk ?_
   exact JOIN.ji r hd
def Jn (acc : List Nat) (o : Oper) : Nat := o.after.foldl (fun s e => if Region.binds .any e then s ||| 2 ^ e.on ||| acc.getD e.on 0 else s) 0
def Wk : List Oper → List Nat → List Nat
 | [], acc => acc
 | o :: r, acc => Wk r (acc ++ [Jn acc o])
def Z0E (i : Nat) : Nat → List Nat → List Nat
 | 0, l => i :: l
 | _, l => l
def W4 (m : Nat) : Bool := m == 0 || m == 3
def Zp : Plan → List Nat
 | .nil => []
 | .take i 0 t => i :: Zp t
 | .take _ _ t => Zp t
 | .fork i mi j mj a b => Z0E i mi (Z0E j mj (Zp a ++ Zp b))
 | .fork3 i mi j mj k mk a b c => Z0E i mi (Z0E j mj (Z0E k mk (Zp a ++ (Zp b ++ Zp c))))
 | .join t => Zp t
def Xb (ops : Array Oper) (ms : List Nat) : Plan → Array Bool → Bool
 | .nil, l => (Region.ready .any ops l).isEmpty
 | .take i m rest, l =>
   (match m with
    | 0 => Region.ready .any ops l == [i]
    | 1 => (Region.ready .any ops l).contains i && Region.free .any ops l i && (Zp rest).all (fun k => k != i)
    | 2 => (Region.ready .any ops l).contains i && Region.free .any ops l i && (Zp rest).all (fun k => k != i && (ms.getD k 0).testBit i)
    | _ => Region.ready .any ops l == [i]) &&
   Xb ops ms rest (l.setIfInBounds i true)
 | .fork i mi j mj a b, l => Region.ready .any ops l == [i, j] && W4 mi && W4 mj && a.depth == b.depth && Xb ops ms a (l.setIfInBounds i true) && Xb ops ms b (l.setIfInBounds j true)
 | .fork3 i mi j mj k mk a b c, l => Region.ready .any ops l == [i, j, k] && W4 mi && W4 mj && W4 mk && a.depth == b.depth && a.depth == c.depth && Xb ops ms a (l.setIfInBounds i true) && Xb ops ms b (l.setIfInBounds j true) && Xb ops ms c (l.setIfInBounds k true)
 | .join t, l => Xb ops ms t l
def Z7a (ops : Array Oper) (steps : Plan) : Bool :=
 Region.noSelect ops && steps.depth == ops.size && Xb ops (Wk ops.toList []) steps (Array.replicate ops.size false)
end Go.Sx
namespace Go.Sx
open Go
theorem Z1C : ∀ (os : List Oper) (acc : List Nat), (Wk os acc).take acc.length = acc ∧ ∀ j o, os[j]? = some o → (Wk os acc)[acc.length + j]? = some (Jn ((Wk os acc).take (acc.length + j)) o)
 | [], acc => ⟨by simp [Wk], fun j o h => by simp at h⟩
 | o :: os, acc => by
   simp only [Wk]
   obtain ⟨h1, h2⟩ := Z1C os (acc ++ [Jn acc o])
   simp only [List.length_append, List.length_singleton] at h1 h2
   have h0 : (Wk os (acc ++ [Jn acc o])).take acc.length = acc := by
     have := congrArg (List.take acc.length) h1
     rw [List.take_take] at this
     simpa using this
   refine ⟨h0, fun j o' hj => ?_⟩
   cases j with
   | zero =>
     simp at hj; subst hj
     rw [Nat.add_zero, h0]
     have := congrArg (fun l : List Nat => l[acc.length]?) h1
     simpa [List.getElem?_take] using this
   | succ j =>
     have := h2 j o' (by simpa using hj)
     rw [show acc.length + (j + 1) = acc.length + 1 + j by omega]
     exact this
theorem Z1c {acc : List Nat} {o : Oper} {i : Nat} (h : (Jn acc o).testBit i = true) : ∃ e ∈ o.after, Region.binds .any e = true ∧ (e.on = i ∨ (acc.getD e.on 0).testBit i = true) := by
 unfold Jn at h
 rw [← Array.foldl_toList] at h
 have key : ∀ (es : List Edge) (s : Nat), (es.foldl (fun s e => if Region.binds .any e then s ||| 2 ^ e.on ||| acc.getD e.on 0 else s) s).testBit i = true →
     s.testBit i = true ∨ ∃ e ∈ es, Region.binds .any e = true ∧ (e.on = i ∨ (acc.getD e.on 0).testBit i = true) := by
   intro es
   induction es with
   | nil => intro s h; exact .inl h
   | cons e es ih =>
     intro s h
     simp only [List.foldl_cons] at h
     rcases ih _ h with h | ⟨e', he', h⟩
     · split at h
       · rename_i hb
         simp only [Nat.testBit_or, Bool.or_eq_true] at h
         rcases h with (h | h) | h
         · exact .inl h
         · refine .inr ⟨e, List.mem_cons_self .., hb, .inl ?_⟩
           rw [Nat.testBit_two_pow] at h
           simpa using h
         · exact .inr ⟨e, List.mem_cons_self .., hb, .inr h⟩
       · exact .inl h
     · exact .inr ⟨e', List.mem_cons_of_mem _ he', h⟩
 rcases key _ _ h with h | ⟨e, he, h⟩
 · simp at h
 · exact ⟨e, by simpa using he, h⟩
theorem Z3h {ops : Array Oper} {l : Array Bool} (hc : Closed .any ops l) {i : Nat} : ∀ (k : Nat), ((Wk ops.toList []).getD k 0).testBit i = true → l.getD k false = true → l.getD i false = true := by
 intro k
 induction k using Nat.strongRecOn with
 | _ k ih =>
   intro h hk
   cases hg : (Wk ops.toList [])[k]? with
   | none => rw [List.getD_eq_getElem?_getD, hg] at h; simp at h
   | some m =>
     have hlt : k < ops.size := by
       rcases Nat.lt_or_ge k ops.size with h' | h'
       · exact h'
       · rw [← hc.1] at h'
         simp [Array.getElem?_eq_none h'] at hk
     have ho : ops[k]? = some ops[k] := Array.getElem?_eq_getElem hlt
     have hm := (Z1C ops.toList []).2 k ops[k] (by simp)
     simp only [List.length_nil, Nat.zero_add] at hm
     rw [List.getD_eq_getElem?_getD, hm, Option.getD_some] at h
     obtain ⟨e, he, hb, h⟩ := Z1c h
     have hon := hc.2 k _ ho hk e he hb
     rcases h with rfl | h
     · exact hon
     · rw [List.getD_eq_getElem?_getD, List.getElem?_take] at h
       split at h
       · rename_i hlt'
         exact ih e.on hlt' (by rw [List.getD_eq_getElem?_getD]; exact h) hon
       · simp at h
def agree (w w' : World) : Prop := ∀ k, k < w.heap.size → w'.heap[k]? = w.heap[k]?
theorem agree.refl (w : World) : agree w w := fun _ _ => rfl
theorem agree.trans {a b c : World} (h : agree a b) (k : agree b c) : agree a c := fun n hn => by
 have h1 := h n hn
 have hlt : n < b.heap.size := by
   rw [Array.getElem?_eq_getElem hn] at h1
   exact (Array.getElem?_eq_some_iff.1 h1).1
 rw [k n hlt, h1]
section
variable {M : Mx} {η : Env} {w : World} {O : Hps} {nx : Nat}
theorem Z0F {C : Cx} : ∀ {O : Hps} {j : Nat}, lkpB (.loc j) (Uh O ++ C.S) = Xw C O (.loc j)
 | [], j => by simp [Uh, Xw, lkp]
 | (i, h) :: r, j => by
   have ih := Z0F (C := C) (O := r) (j := j)
   simp only [Uh, List.cons_append, lkpB, Z6w, Xw, lkp]
   cases e : Nat.beq j i
   · simp only [e]; rw [ih]; rfl
   · simp only [e]
theorem Z5R {C : Cx} {O : Hps} {b : Blk} : lkS (Z3g C O) b = Xw C O b := by
 cases b with
 | glob g => rfl
 | loc j => exact Z0F
theorem HeapOK.read (H : HeapOK M η w O nx) {w' : World} (hag : agree w w') : HeapOK (shMx M O η w') η w' [] nx := by
 refine ⟨List.prefix_rfl, H.len, ⟨fun i h hi => by simp [lkp] at hi, fun i j h h' n hi => by simp [lkp] at hi⟩, FrW.refl _ _, fun b h hb => ?_⟩
 have hb' : Xw M.C O b = some h := by rw [← Z5R]; exact hb
 have hsat := H.look hb'
 have hag' : ∀ k, feet η w b h k → w'.heap[k]? = w.heap[k]? := fun k f => hag _ (hsat.feet_lt f)
 have hs' := hsat.keep hag'
 exact ⟨hs', fun k f => ⟨hs'.feet_lt f, fun h => h⟩⟩
theorem HeapOK.blind (hl : η.length = nx) (w : World) : HeapOK (blMx M η w) η w [] nx :=
 ⟨List.prefix_rfl, hl, ⟨fun i h hi => by simp [lkp] at hi, fun i j h h' n hi => by simp [lkp] at hi⟩, FrW.refl _ _, fun b h hb => by cases b <;> simp [blMx, Z0D, lkS, lkpB, lkp] at hb⟩
theorem HeapOK.join (H : HeapOK M η w O nx) {η' : Env} {w' : World} {O2 : Hps} {nx2 : Nat} (H2 : HeapOK (shMx M O η w) η' w' O2 nx2) : HeapOK M η' w' (O2 ++ O) nx2 ∧ agree w w' := by
 have hag : agree w w' := fun k hk => H2.fr.block k hk (fun h => h)
 have hp : η <+: η' := H2.pre
 have old : ∀ {i : Nat} {h : Hp}, lkp i O = some h → HpSat η' w' true (.loc i) h ∧ ∀ k, feet η' w' (.loc i) h k → feet η w (.loc i) h k ∧ k < w.heap.size := by
   intro i h hi
   obtain ⟨hsat, hF⟩ := H.own.1 i h hi
   have hk : ∀ k, feet η w (.loc i) h k → w'.heap[k]? = w.heap[k]? := fun k f => hag _ (hsat.feet_lt f)
   refine ⟨(hsat.keep (w' := w') hk).mono hp, fun k f => ?_⟩
   have f' := H.stands hp hi hk f
   exact ⟨f', hsat.feet_lt f'⟩
 refine ⟨⟨H.pre.trans hp, H2.len, ⟨fun i h hi => ?_, fun i j h h' k hi hj hij f f' => ?_⟩, H.fr.trans H2.fr (fun n hn => hn.elim), H.sok⟩, hag⟩
 · rcases X7 hi with hi | ⟨_, hi⟩
   · obtain ⟨h1, h2⟩ := H2.own.1 i h hi
     refine ⟨h1, fun k f => .inr ?_⟩
     rcases h2 k f with h3 | h3
     · exact h3.elim
     · exact Nat.le_trans H.fr.size h3
   · obtain ⟨h1, h2⟩ := old hi
     exact ⟨h1, fun k f => (H.own.1 i h hi).2 k (h2 k f).1⟩
 · rcases X7 hi with hi | ⟨_, hi⟩
   · rcases X7 hj with hj | ⟨_, hj⟩
     · exact H2.own.2 i j h h' k hi hj hij f f'
     · have h1 := ((old hj).2 k f').2
       rcases (H2.own.1 i h hi).2 k f with h3 | h3
       · exact h3.elim
       · have h3 : w.heap.size ≤ k := h3
         omega
   · rcases X7 hj with hj | ⟨_, hj⟩
     · have h1 := ((old hi).2 k f).2
       rcases (H2.own.1 j h' hj).2 k f' with h3 | h3
       · exact h3.elim
       · have h3 : w.heap.size ≤ k := h3
         omega
     · exact H.own.2 i j h h' k hi hj hij ((old hi).2 k f).1 ((old hj).2 k f').1
theorem Z4h {v : SV} {K : Prop} (h : Z2f v K) : Det v ∧ K := by
 cases v with
 | agg cs =>
   simp only [Z2f] at h
   split at h
   · rename_i e; exact ⟨Det.of (by simpa only [detV] using e), h⟩
   · exact ⟨h.p, h.k⟩
 | tup cs =>
   simp only [Z2f] at h
   split at h
   · rename_i e; exact ⟨Det.of (by simpa only [detV] using e), h⟩
   · exact ⟨h.p, h.k⟩
 | _ => first | exact ⟨h.p, h.k⟩ | exact ⟨Det.of rfl, h⟩
theorem W5 {P : Program} {C' : Cx} (hT : TabOK P C'.T) {N : World → Prop} {o : Oper} {a : Act} {fr : Fr} {nx N0 : Nat} {K : SV → Prop} (hf : FrOK η a fr)
   (hN : ∀ w', N w' → HeapOK ⟨P, C', w', fun _ => False, η⟩ η w' [] nx) (hw : N w) (h : Z5Q N0 C' o fr nx K) :
   Jg N0 o.dst = true ∧ ∃ u v, (∀ w', N w' → (execOp a.eval o).run P w' = .ok (.value u) w' ∨ ((execOp a.eval o).run P w' = .ok .skip w' ∧ u = undef)) ∧ Den η v u ∧ K v := by
 unfold Z5Q at h
 split at h
 · exact h.out.elim
 rename_i hd
 refine ⟨hd, ?_⟩
 split at h
 · rename_i x ho
   split at h
   case h_2 => exact h.out.elim
   rename_i v hv
   exact ⟨a.eval x, v, fun w' _ => .inl (by simp [execOp, ho]), Y3 hf hv, h⟩
 · rename_i x ho
   split at h
   case h_2 => exact h.out.elim
   rename_i v hv
   exact ⟨a.eval x, v, fun w' _ => .inl (by simp [execOp, ho]), Y3 hf hv, h⟩
 · split at h
   · exact h.out.elim
   rename_i hst
   obtain ⟨v, hok, h⟩ := Res.gv_ok h
   obtain ⟨hdet, h⟩ := Z4h h
   have one : ∀ w', N w' → ∃ u, ((execOp a.eval o).run P w' = .ok (.value u) w' ∨ ((execOp a.eval o).run P w' = .ok .skip w' ∧ u = undef)) ∧ Den η v u := by
     intro w' hw'
     have H := hN w' hw'
     obtain ⟨u, w'', η'', h1, h2, h3, h4, h5⟩ := Z27 (M := ⟨P, C', w', fun _ => False, η⟩) (w := w') (ρ := a.eval) ⟨H, hT, fun x sv hx => Y3 hf hx⟩ o (hok [] nx)
     have he : η'' = η := (h2.eq_of_length (by rw [H.len, h3.len])).symm
     subst he
     have hww := h5 hst rfl
     subst hww
     exact ⟨u, h1, h4⟩
   obtain ⟨u, h1, h2⟩ := one w hw
   refine ⟨u, v, fun w' hw' => ?_, h2, h⟩
   obtain ⟨u', h3, h4⟩ := one w' hw'
   rw [hdet η u u' h2 h4]
   exact h3
end
def SS (ks : List Nat) (wc : World) (l : Array Bool) (w : World) : Prop := (∀ k ∈ ks, l.getD k false = false) → agree wc w
section
variable {M : Mx} {ops : Array Oper} {Q : Exit → Act → World → Prop}
theorem X1 {i m : Nat} {rest : Plan} (h : m ≠ 0) : Zp (.take i m rest) = Zp rest := by
 cases m with
 | zero => exact (h rfl).elim
 | succ m => rfl
theorem Z3i {i : Nat} {rest : Plan} : Zp (.take i 0 rest) = i :: Zp rest := rfl
theorem Ui {l : Array Bool} {i : Nat} (h : l.getD i true = false) : l.getD i false = false := by
 rcases Nat.lt_or_ge i l.size with h' | h'
 · simp [h'] at h ⊢; exact h
 · simp [Array.getElem?_eq_none h'] at h
theorem Vq {η : Env} {fr : Fr} {O : Hps} {nx : Nat} {a : Act} {w : World} (hm : Models M η fr O nx a w) {o : Oper} (hd : Jg M.C.N o.dst = true) {u : Value} {v : SV} (hv : Den η v u) {Kp : Fr → Prop} (hk : putK o.dst v fr Kp) :
   ∃ fr', Kp fr' ∧ Models M η fr' O nx (a.put o.dst u) w := hm.put hd List.prefix_rfl hm.heap hv hk
theorem JG (hQ : ∀ c a w, ¬ Q (.panic c) a w) (hs : Region.noSelect ops = true) {i n : Nat} {o : Oper} {l : Array Bool} {ks : List Nat} (ho : ops[i]? = some o) (hready : i ∈ Region.ready .any ops l) (hfree : Region.free .any ops l i = true) (hne : ∀ k ∈ ks, k ≠ i) (hc : Closed .any ops l)
   {N : World → Prop} {wc : World} (hN : ∀ l w, Closed .any ops l → l.getD i true = false → SS ks wc l w → N w) {a : Act} {w : World} {u : Value} (hy : YieldsN M.P ops N o u a) (hag : agree wc w)
   (h : wpH M.fence M.P .any ops Q (SS ks wc) n (l.setIfInBounds i true) (a.put o.dst u) w) : wpH M.fence M.P .any ops Q (SS ks wc) (n + 1) l a w := by
 refine Z78 M.all ho (Region.noSelect_spec hs) (fun c a w hq => (hQ _ _ _ hq).elim) hN (fun l' w' hc' hun hr hS hk => hS fun k hk' => ?_) n l a w hc (Region.free_spec ho hfree) hready hy (fun _ => hag) (fun _ => hag) h
 rw [getD_set_ne false (Ne.symm (hne k hk'))]; exact hk k hk'
theorem HeapOK.drawn {η : Env} {w : World} {O : Hps} {nx : Nat} (H : HeapOK M η w O nx) {n : Nat} (hn : w.drawn ≤ n) : HeapOK M η { w with drawn := n } O nx :=
 ⟨H.pre, H.len, H.own.still rfl, ⟨H.fr.os, H.fr.tape, H.fr.output, Nat.le_trans H.fr.drawn hn, H.fr.size, H.fr.block⟩, H.sok⟩
theorem Z3j {m : Nat} (h : W4 m = true) : m = 0 ∨ m = 3 := by
 unfold W4 at h
 simpa using h
theorem ZA {i m : Nat} {l : List Nat} {x : Nat} (h : x ∈ l) : x ∈ Z0E i m l := by
 cases m with
 | zero => exact List.mem_cons_of_mem _ h
 | succ m => exact h
theorem XM {i : Nat} {l : List Nat} : i ∈ Z0E i 0 l := List.mem_cons_self ..
theorem ZaO (hT : TabOK M.P M.C.T) {i m : Nat} (hmode : m = 0 ∨ m = 3) {fr : Fr} {O : Hps} {nx : Nat} {Kn : Fr → Hps → Nat → Prop} (h : oneD M ops.toList i m fr O nx Kn) {η : Env} {a : Act} {w : World} (hm : Models M η fr O nx a w) {R : Act → World → Prop}
   (hR : ∀ {fr : Fr} {O : Hps} {nx : Nat} {η : Env} {a : Act} {w' : World}, Kn fr O nx → Models M η fr O nx a w' → (m = 3 → agree w w') → R a w') : wpOpIn M.fence 0 M.P ops Q i R a w := by
 unfold oneD at h
 split at h
 · exact h.out.elim
 rename_i o ho
 have ho : ops[i]? = some o := by rw [J7] at ho; simpa using ho
 have skip : ∀ {fr' : Fr}, Models M η fr' O nx a w → Region.wanted o (yielded ops a.tmps) ≠ true → (match Jg M.C.N o.dst with | true => putK o.dst YE fr' fun fr => Kn fr O nx | false => STOP "slot") → wpOpIn M.fence 0 M.P ops Q i R a w := by
   intro fr' hm' hw h
   split at h
   case h_2 => exact h.out.elim
   rename_i hd
   obtain ⟨fr2, h1, h2⟩ := Vq hm' hd (J9 η) h
   unfold wpOpIn
   simp only [ho]
   rw [if_neg hw]; exact ⟨fun f _ => M.all f, hR h1 h2 fun _ => agree.refl w⟩
 have go : ∀ {fr' : Fr}, Models M η fr' O nx a w → Region.wanted o (yielded ops a.tmps) = true → (Z79 M m o fr' O nx fun v O nx => putK o.dst v fr' fun fr => Kn fr O nx) → wpOpIn M.fence 0 M.P ops Q i R a w := by
   intro fr' hm' hw h
   unfold wpOpIn
   simp only [ho]
   rw [if_pos hw]
   rcases hmode with rfl | rfl
   · have h : WZ M o (Jw fr') O nx fun v O nx => putK o.dst v fr' fun fr => Kn fr O nx := h
     refine (Ua hT hm' (fun x sv hx => Y3 hm'.frame hx) h fun u v O' nx' η' w' hd hp hH hv hk => ?_)
     obtain ⟨fr2, h1, h2⟩ := hm'.put hd hp hH hv hk
     exact hR h1 h2 fun h => by cases h
   · have h : ADD M o fr' O nx fun v O nx => putK o.dst v fr' fun fr => Kn fr O nx := h
     have hm2 : Models (shMx M O η w) η fr' [] nx a w := ⟨hm'.heap.read (agree.refl w), hm'.size, hm'.nds, hm'.defers, hm'.ro, hm'.frame⟩
     refine (Ua (M := shMx M O η w) hT hm2 (fun x sv hx => Y3 hm'.frame hx) (h.hout η w hm'.heap) fun u v O2 nx2 η' w' hd hp hH hv hk => ?_)
     obtain ⟨hJ, hag2⟩ := hm'.heap.join hH
     obtain ⟨fr2, h1, h2⟩ := hm'.put hd hp hJ hv hk
     exact hR h1 h2 fun _ => hag2
 split at h
 · rename_i hg
   exact go hm (JA hg) h
 · rename_i j want hg
   split at h
   · exact h.out.elim
   rename_i s hsl
   split at h
   · rename_i b hb
     have hbv := Yp (hm.frame s _ hb)
     have hy := Vo hsl hbv
     cases b with
     | true =>
       have h := h.t rfl
       have hm' : Models M η ((s, .bool true) :: fr) O nx a w := hm.know hb rfl rfl hbv
       cases want with
       | true => exact go hm' ((Zs hg).2 hy) h
       | false => exact skip hm' (fun hw => by rw [Zs hg, hy] at hw; cases hw) h
     | false =>
       have h := h.f rfl
       have hm' : Models M η ((s, .bool false) :: fr) O nx a w := hm.know hb rfl rfl hbv
       cases want with
       | false => exact go hm' ((Zs hg).2 hy) h
       | true => exact skip hm' (fun hw => by rw [Zs hg, hy] at hw; cases hw) h
   · rename_i hb
     have hbv := hm.frame s _ hb
     simp only [Den, DenL] at hbv
     obtain ⟨vs, hbv, rfl⟩ := hbv
     exact skip hm (fun hw => by rw [Zs hg] at hw; exact Jz hsl (by rw [hbv]; simp) hw) h
   · exact h.out.elim
theorem arm (hT : TabOK M.P M.C.T) {fk t : Plan} {d : Nat} {fr : Fr} {O : Hps} {nx : Nat} {K : Fr → Hps → Nat → Prop} {η : Env} {a : Act} {w wc : World} {l : Array Bool} (hm : Models M η fr O nx a w) (hag : agree wc w) (hc : Closed .any ops l)
   {x m : Nat} (hmo : W4 m = true) (hx : x ∈ Region.ready .any ops l) (hxk : m = 0 → x ∈ Zp fk) (hsub : ∀ k ∈ Zp t, k ∈ Zp fk) (hd : t.depth = d)
   (ih : ∀ {fr : Fr} {O : Hps} {nx : Nat} {η : Env} {a : Act} {w wc : World}, runD M ops.toList t fr O nx K → Models M η fr O nx a w → agree wc w → wpH M.fence M.P .any ops Q (SS (Zp t) wc) t.depth (l.setIfInBounds x true) a w)
   (hrun : oneD M ops.toList x m fr O nx fun fr O nx => runD M ops.toList t fr O nx K) :
   wpOpIn M.fence 0 M.P ops Q x (fun a' w' => SS (Zp fk) wc (l.setIfInBounds x true) w' ∧ wpH M.fence M.P .any ops Q (SS (Zp fk) wc) d (l.setIfInBounds x true) a' w') a w := by
 have hin : x < l.size := by
   obtain ⟨h1, o, ho, _⟩ := mem_ready.1 hx
   rw [hc.1]; exact (Array.getElem?_eq_some_iff.1 ho).1
 have hset : (l.setIfInBounds x true).getD x false = true := by simp [hin]
 refine ZaO hT (Z3j hmo) hrun hm fun {fr O nx η a w'} hk hm' hag' => ?_
 rcases Z3j hmo with h0 | h3
 · have hno : ∀ l' w', Grows (l.setIfInBounds x true) l' → SS (Zp fk) wc l' w' := by
     intro l' w' hg hk
     have h1 := hk x (hxk h0)
     rw [hg x hset] at h1; cases h1
   refine ⟨hno _ _ (fun _ h => h), ?_⟩
   have := ih hk hm' (agree.refl _)
   rw [hd] at this
   exact Ug (l0 := l.setIfInBounds x true) (fun l' w' hg _ => hno l' w' hg) _ _ _ _ (fun _ h => h) this
 · have hag2 : agree wc w' := hag.trans (hag' h3)
   refine ⟨fun _ => hag2, ?_⟩
   have := ih hk hm' hag2
   rw [hd] at this
   exact Ug (l0 := l.setIfInBounds x true) (fun l' w'' hg hS hk => hS fun k hkt => hk k (hsub k hkt)) _ _ _ _ (fun _ h => h) this
theorem YQ (hT : TabOK M.P M.C.T) (hQ : ∀ c a w, ¬ Q (.panic c) a w) (hs : Region.noSelect ops = true) : ∀ (steps : Plan) {fr : Fr} {O : Hps} {nx : Nat} {K : Fr → Hps → Nat → Prop}, runD M ops.toList steps fr O nx K →
   ∀ {l : Array Bool}, Xb ops (Wk ops.toList []) steps l = true → Closed .any ops l → ∀ {η : Env} {a : Act} {w : World}, Models M η fr O nx a w → (∀ η fr O nx a w, Models M η fr O nx a w → K fr O nx → Q .normal a w) →
   ∀ {wc : World}, agree wc w → wpH M.fence M.P .any ops Q (SS (Zp steps) wc) steps.depth l a w
 | .nil, fr, O, nx, K, h, l, hl, hc, η, a, w, hm, hq, wc, hag => by
   simp only [Xb, List.isEmpty_iff] at hl
   exact ⟨hl, hq η fr O nx a w hm h⟩
 | .take i m rest, fr, O, nx, K, h, l, hl, hc, η, a, w, hm, hq, wc, hag => by
   have IH := @YQ hT hQ hs rest
   replace h : oneD M ops.toList i m fr O nx (fun fr O nx => runD M ops.toList rest fr O nx K) := h
   unfold oneD at h
   split at h
   · exact h.out.elim
   rename_i o ho
   have ho : ops[i]? = some o := by rw [J7] at ho; simpa using ho
   simp only [Xb, Bool.and_eq_true] at hl
   obtain ⟨hl1, hl2⟩ := hl
   have hready : i ∈ Region.ready .any ops l := by
     revert hl1
     split <;> intro hl1
     · rw [beq_iff_eq.1 hl1]; exact List.mem_singleton.2 rfl
     · simp only [Bool.and_eq_true] at hl1; simpa using hl1.1.1
     · simp only [Bool.and_eq_true] at hl1; simpa using hl1.1.1
     · rw [beq_iff_eq.1 hl1]; exact List.mem_singleton.2 rfl
   have hc' := hc.set hready
   have hin : i < l.size := by rw [hc.1]; exact (Array.getElem?_eq_some_iff.1 ho).1
   have hset : (l.setIfInBounds i true).getD i false = true := by simp [hin]
   have modes : ∀ {p : Prop}, (m = 0 → p) → (m = 1 → p) → (m = 2 → p) → (3 ≤ m → p) → p := by
     intro p h0 h1 h2 h3
     match m, h0, h1, h2, h3 with
     | 0, h0, _, _, _ => exact h0 rfl
     | 1, _, h1, _, _ => exact h1 rfl
     | 2, _, _, h2, _ => exact h2 rfl
     | m + 3, _, _, _, h3 => exact h3 (by omega)
   have alone : Region.ready .any ops l = [i] → ∀ {a : Act} {w : World}, agree wc w → wpOpIn M.fence 0 M.P ops Q i (fun a' w' => SS (Zp (.take i m rest)) wc (l.setIfInBounds i true) w' ∧ wpH M.fence M.P .any ops Q (SS (Zp (.take i m rest)) wc) rest.depth (l.setIfInBounds i true) a' w') a w →
       wpH M.fence M.P .any ops Q (SS (Zp (.take i m rest)) wc) (Plan.take i m rest).depth l a w := fun hr a w hag h => ZaN hr h
   have afterKill : m = 0 → ∀ {fr : Fr} {O : Hps} {nx : Nat} {η : Env} {a : Act} {w : World}, runD M ops.toList rest fr O nx K → Models M η fr O nx a w →
       SS (Zp (.take i m rest)) wc (l.setIfInBounds i true) w ∧ wpH M.fence M.P .any ops Q (SS (Zp (.take i m rest)) wc) rest.depth (l.setIfInBounds i true) a w := by
     intro h0 fr O nx η a w hrun hm
     subst h0
     rw [Z3i]
     have hno : ∀ l' w', Grows (l.setIfInBounds i true) l' → SS (i :: Zp rest) wc l' w' := by
       intro l' w' hg hk
       have h1 := hk i (List.mem_cons_self ..)
       rw [hg i hset] at h1; cases h1
     exact ⟨hno _ _ (fun _ h => h), Ug (l0 := l.setIfInBounds i true) (fun l' w' hg _ => hno l' w' hg) _ _ _ _ (fun _ h => h) (IH hrun hl2 hc' hm hq (agree.refl w))⟩
   have afterElse : m ≠ 0 → ∀ {fr : Fr} {O : Hps} {nx : Nat} {η : Env} {a : Act} {w : World}, runD M ops.toList rest fr O nx K → Models M η fr O nx a w → agree wc w →
       SS (Zp (.take i m rest)) wc (l.setIfInBounds i true) w ∧ wpH M.fence M.P .any ops Q (SS (Zp (.take i m rest)) wc) rest.depth (l.setIfInBounds i true) a w := by
     intro h0 fr O nx η a w hrun hm hag
     rw [X1 h0]
     exact ⟨fun _ => hag, IH hrun hl2 hc' hm hq hag⟩
   have quiet1 : m = 1 → Region.free .any ops l i = true ∧ ∀ k ∈ Zp rest, k ≠ i := by
     intro h1; subst h1
     simp only [Bool.and_eq_true, List.all_eq_true, bne_iff_ne] at hl1
     exact ⟨hl1.1.2, hl1.2⟩
   have quiet2 : m = 2 → Region.free .any ops l i = true ∧ ∀ k ∈ Zp rest, k ≠ i ∧ ((Wk ops.toList []).getD k 0).testBit i = true := by
     intro h1; subst h1
     simp only [Bool.and_eq_true, List.all_eq_true, bne_iff_ne] at hl1
     exact ⟨hl1.1.2, hl1.2⟩
   have alone0 : m = 0 → Region.ready .any ops l = [i] := by intro h1; subst h1; exact beq_iff_eq.1 hl1
   have alone3 : 3 ≤ m → Region.ready .any ops l = [i] := by
     intro h1
     match m, h1, hl1 with
     | m + 3, _, hl1 => exact beq_iff_eq.1 hl1
   have skip : ∀ {fr' : Fr}, Models M η fr' O nx a w → Region.wanted o (yielded ops a.tmps) ≠ true → (match Jg M.C.N o.dst with | true => putK o.dst YE fr' fun fr => runD M ops.toList rest fr O nx K | false => STOP "slot") →
       wpH M.fence M.P .any ops Q (SS (Zp (.take i m rest)) wc) (Plan.take i m rest).depth l a w := by
     intro fr' hm' hw h
     split at h
     case h_2 => exact h.out.elim
     rename_i hd
     obtain ⟨fr2, h1, h2⟩ := Vq hm' hd (J9 η) h
     have hwf : Region.wanted o (yielded ops a.tmps) = false := by simpa using hw
     have op : ∀ {K' : Act → World → Prop}, K' (a.put o.dst undef) w → wpOpIn M.fence 0 M.P ops Q i K' a w := by
       intro K' hk
       unfold wpOpIn
       simp only [ho]
       rw [if_neg hw]; exact ⟨fun f _ => M.all f, hk⟩
     refine modes (fun h0 => alone (alone0 h0) hag (op (afterKill h0 h1 h2))) (fun h0 => ?_) (fun h0 => ?_) (fun h0 => alone (alone3 h0) hag (op (afterElse (by omega) h1 h2 hag)))
     · have hn : m ≠ 0 := by omega
       have := (afterElse hn h1 h2 hag).2
       rw [X1 hn] at this ⊢
       exact JG hQ hs ho hready (quiet1 h0).1 (quiet1 h0).2 hc (N := fun _ => True) (fun _ _ _ _ _ => trivial) (.inr ⟨hwf, rfl⟩) hag this
     · have hn : m ≠ 0 := by omega
       have := (afterElse hn h1 h2 hag).2
       rw [X1 hn] at this ⊢
       exact JG hQ hs ho hready (quiet2 h0).1 (fun k hk => ((quiet2 h0).2 k hk).1) hc (N := fun _ => True) (fun _ _ _ _ _ => trivial) (.inr ⟨hwf, rfl⟩) hag this
   have go : ∀ {fr' : Fr}, Models M η fr' O nx a w → Region.wanted o (yielded ops a.tmps) = true → (Z79 M m o fr' O nx fun v O nx => putK o.dst v fr' fun fr => runD M ops.toList rest fr O nx K) →
       wpH M.fence M.P .any ops Q (SS (Zp (.take i m rest)) wc) (Plan.take i m rest).depth l a w := by
     intro fr' hm' hw h
     have op : ∀ {K' : Act → World → Prop}, o.wpIn M.fence 0 M.P a w K' Q → wpOpIn M.fence 0 M.P ops Q i K' a w := by
       intro K' hk
       unfold wpOpIn
       simp only [ho]
       rw [if_pos hw]; exact hk
     refine modes (fun h0 => ?_) (fun h0 => ?_) (fun h0 => ?_) (fun h0 => ?_)
     · have h : WZ M o (Jw fr') O nx fun v O nx => putK o.dst v fr' fun fr => runD M ops.toList rest fr O nx K := by subst h0; exact h
       refine alone (alone0 h0) hag (op (Ua hT hm' (fun x sv hx => Y3 hm'.frame hx) h fun u v O' nx' η' w' hd hp hH hv hk => ?_))
       obtain ⟨fr2, h1, h2⟩ := hm'.put hd hp hH hv hk
       exact afterKill h0 h1 h2
     · have h : Z5Q M.C.N (Z0D M.C) o fr' nx fun v => putK o.dst v fr' fun fr => runD M ops.toList rest fr O nx K := by subst h0; exact h
       obtain ⟨hd, u, v, hy, hv, hk⟩ := W5 (P := M.P) (C' := Z0D M.C) ⟨hT.und, hT.info, hT.zero, hT.zsh, hT.flat, hT.key⟩ (N := fun _ => True) (w := w) hm'.frame (fun w' _ => HeapOK.blind (M := M) hm'.heap.len w') trivial h
       obtain ⟨fr2, h1, h2⟩ := Vq hm' hd hv hk
       have hn : m ≠ 0 := by omega
       have := (afterElse hn h1 h2 hag).2
       rw [X1 hn] at this ⊢
       exact JG hQ hs ho hready (quiet1 h0).1 (quiet1 h0).2 hc (N := fun _ => True) (fun _ _ _ _ _ => trivial) (.inl ⟨hw, fun w' h => hy w' h⟩) hag this
     · have h : Z5Q M.C.N (Z3g M.C O) o fr' nx fun v => putK o.dst v fr' fun fr => runD M ops.toList rest fr O nx K := by subst h0; exact h
       obtain ⟨hd, u, v, hy, hv, hk⟩ := W5 (P := M.P) (C' := Z3g M.C O) hT (N := agree w) hm'.frame (fun w' h => hm'.heap.read h) (agree.refl w) h
       obtain ⟨fr2, h1, h2⟩ := Vq hm' hd hv hk
       have hn : m ≠ 0 := by omega
       have := IH h1 hl2 hc' h2 hq (agree.refl w)
       rw [X1 hn]
       refine Ug (S' := SS (Zp rest) w) (l0 := l) (fun l' w' _ hS hk => hag.trans (hS hk)) _ _ _ _ (fun _ h => h) ?_
       refine JG hQ hs ho hready (quiet2 h0).1 (fun k hk => ((quiet2 h0).2 k hk).1) hc (N := agree w) (fun l' w' hcl hun hS => hS fun k hk => ?_) (.inl ⟨hw, fun w' h => hy w' h⟩) (agree.refl w) this
       cases hlk : l'.getD k false with
       | false => rfl
       | true =>
         have := Z3h hcl k ((quiet2 h0).2 k hk).2 hlk
         rw [Ui hun] at this; cases this
     · have h : ADD M o fr' O nx fun v O nx => putK o.dst v fr' fun fr => runD M ops.toList rest fr O nx K := by
         match m, h0, h with
         | m + 3, _, h => exact h
       have hm2 : Models (shMx M O η w) η fr' [] nx a w := ⟨hm'.heap.read (agree.refl w), hm'.size, hm'.nds, hm'.defers, hm'.ro, hm'.frame⟩
       refine alone (alone3 h0) hag (op (Ua (M := shMx M O η w) hT hm2 (fun x sv hx => Y3 hm'.frame hx) (h.hout η w hm'.heap) fun u v O2 nx2 η' w' hd hp hH hv hk => ?_))
       obtain ⟨hJ, hag2⟩ := hm'.heap.join hH
       obtain ⟨fr2, h1, h2⟩ := hm'.put hd hp hJ hv hk
       exact afterElse (by omega) h1 h2 (hag.trans hag2)
   split at h
   · rename_i hg
     exact go hm (JA hg) h
   · rename_i j want hg
     split at h
     · exact h.out.elim
     rename_i s hsl
     split at h
     · rename_i b hb
       have hbv := Yp (hm.frame s _ hb)
       have hy := Vo hsl hbv
       cases b with
       | true =>
         have h := h.t rfl
         have hm' : Models M η ((s, .bool true) :: fr) O nx a w := hm.know hb rfl rfl hbv
         cases want with
         | true => exact go hm' ((Zs hg).2 hy) h
         | false => exact skip hm' (fun hw => by rw [Zs hg, hy] at hw; cases hw) h
       | false =>
         have h := h.f rfl
         have hm' : Models M η ((s, .bool false) :: fr) O nx a w := hm.know hb rfl rfl hbv
         cases want with
         | false => exact go hm' ((Zs hg).2 hy) h
         | true => exact skip hm' (fun hw => by rw [Zs hg, hy] at hw; cases hw) h
     · rename_i hb
       have hbv := hm.frame s _ hb
       simp only [Den, DenL] at hbv
       obtain ⟨vs, hbv, rfl⟩ := hbv
       exact skip hm (fun hw => by rw [Zs hg] at hw; exact Jz hsl (by rw [hbv]; simp) hw) h
     · exact h.out.elim
 | .fork i mi j mj p q, fr, O, nx, K, h, l, hl, hc, η, a, w, hm, hq, wc, hag => by
   simp only [Xb, Bool.and_eq_true, beq_iff_eq] at hl
   obtain ⟨⟨⟨⟨⟨hr, hmi⟩, hmj⟩, hdep⟩, hlp⟩, hlq⟩ := hl
   replace h : FORK (oneD M ops.toList i mi fr O nx fun fr O nx => runD M ops.toList p fr O nx K) (oneD M ops.toList j mj fr O nx fun fr O nx => runD M ops.toList q fr O nx K) := h
   have hi : i ∈ Region.ready .any ops l := by rw [hr]; simp
   have hj : j ∈ Region.ready .any ops l := by rw [hr]; simp
   refine ⟨fun h0 => (by rw [hr] at h0; cases h0), fun x hx => ?_⟩
   rw [hr] at hx
   rcases List.mem_cons.1 hx with rfl | hx
   · exact arm hT hm hag hc hmi hi (fun h0 => by subst h0; exact XM) (fun k hk => ZA (ZA (List.mem_append_left _ hk))) rfl (fun hk hm' hag => YQ hT hQ hs p hk hlp (hc.set hi) hm' hq hag) h.a
   · have hx := List.mem_singleton.1 hx
     subst hx
     exact arm hT hm hag hc hmj hj (fun h0 => by subst h0; exact ZA XM) (fun k hk => ZA (ZA (List.mem_append_right _ hk))) hdep.symm (fun hk hm' hag => YQ hT hQ hs q hk hlq (hc.set hj) hm' hq hag) h.b
 | .fork3 i mi j mj k mk p q r, fr, O, nx, K, h, l, hl, hc, η, a, w, hm, hq, wc, hag => by
   simp only [Xb, Bool.and_eq_true, beq_iff_eq] at hl
   obtain ⟨⟨⟨⟨⟨⟨⟨⟨hr, hmi⟩, hmj⟩, hmk⟩, hdep⟩, hdep2⟩, hlp⟩, hlq⟩, hlr⟩ := hl
   replace h : FORK (oneD M ops.toList i mi fr O nx fun fr O nx => runD M ops.toList p fr O nx K) (FORK (oneD M ops.toList j mj fr O nx fun fr O nx => runD M ops.toList q fr O nx K) (oneD M ops.toList k mk fr O nx fun fr O nx => runD M ops.toList r fr O nx K)) := h
   have hi : i ∈ Region.ready .any ops l := by rw [hr]; simp
   have hj : j ∈ Region.ready .any ops l := by rw [hr]; simp
   have hk' : k ∈ Region.ready .any ops l := by rw [hr]; simp
   refine ⟨fun h0 => (by rw [hr] at h0; cases h0), fun x hx => ?_⟩
   rw [hr] at hx
   rcases List.mem_cons.1 hx with rfl | hx
   · exact arm hT hm hag hc hmi hi (fun h0 => by subst h0; exact XM) (fun k hk => ZA (ZA (ZA (List.mem_append_left _ hk)))) rfl (fun hk hm' hag => YQ hT hQ hs p hk hlp (hc.set hi) hm' hq hag) h.a
   · rcases List.mem_cons.1 hx with rfl | hx
     · exact arm hT hm hag hc hmj hj (fun h0 => by subst h0; exact ZA XM) (fun k hk => ZA (ZA (ZA (List.mem_append_right _ (List.mem_append_left _ hk))))) hdep.symm (fun hk hm' hag => YQ hT hQ hs q hk hlq (hc.set hj) hm' hq hag) h.b.a
     · have hx := List.mem_singleton.1 hx
       subst hx
       exact arm hT hm hag hc hmk hk' (fun h0 => by subst h0; exact ZA (ZA XM)) (fun k hk => ZA (ZA (ZA (List.mem_append_right _ (List.mem_append_right _ hk))))) hdep2.symm (fun hk hm' hag => YQ hT hQ hs r hk hlr (hc.set hk') hm' hq hag) h.b.b
 | .join p, fr, O, nx, K, h, l, hl, hc, η, a, w, hm, hq, wc, hag => by
   replace h : JOIN (fun fr => runD M ops.toList p fr O nx K) fr := h
   obtain ⟨fr', he, h⟩ := h.out
   have hm' : Models M η fr' O nx a w := ⟨hm.heap, hm.size, hm.nds, (by rw [he]; exact hm.defers), hm.ro, fun t sv ht => hm.frame t sv (by rw [← he]; exact ht)⟩
   exact YQ hT hQ hs p h hl hc hm' hq hag
theorem DRAWN.of {M : Mx} (hT : TabOK M.P M.C.T) (hP : M.P.follows .mixedOrders = true) {id : Nat} {ops : Array Oper} {fr : Fr} {O : Hps} {nx : Nat} {Q : Post} (steps : Plan) (hord : Z7a ops steps = true)
   (h : runD M ops.toList steps fr O nx fun fr O nx => Q .normal fr O nx) : DRAWN M id ops fr O nx Q := by
 simp only [Z7a, Bool.and_eq_true, beq_iff_eq] at hord
 obtain ⟨⟨hs, hlen⟩, hord⟩ := hord
 refine ⟨fun η a w hm => wpIn_region_any hP (W3 (S := SS (Zp steps) { w with drawn := w.drawn + 1 }) _ _ _ _ ?_)⟩
 have hm' : Models M η fr O nx a { w with drawn := w.drawn + 1 } := ⟨hm.heap.drawn (Nat.le_succ _), hm.size, hm.nds, hm.defers, hm.ro, hm.frame⟩
 have hc0 : Closed .any ops (Array.replicate ops.size false) := by
   refine ⟨by simp, fun j o hj hl => ?_⟩
   rcases Nat.lt_or_ge j ops.size with h' | h'
   · simp [h'] at hl
   · simp [h'] at hl
 have key := YQ (Q := Z6G M Q) hT (fun c a w hq => hq) hs steps h hord hc0 hm' (fun η fr O nx a w hm hq => ⟨η, fr, O, nx, hm, hq⟩) (agree.refl _)
 rw [hlen] at key
 exact key
end
section
variable {σ : Nat → Nat} {k : Nat}
theorem Vr (h : ∀ j, j < k → σ j = j) : ∀ {b : Blk}, Ud k b = true → renB σ b = b
 | .glob g, _ => rfl
 | .loc i, hb => by simp only [Ud, Nat.blt_eq] at hb; simp only [renB, h i hb]
mutual
theorem Jo (h : ∀ j, j < k → σ j = j) : ∀ {v : SV}, ZI k v = true → ren σ v = v
 | .bool _, _ => rfl
 | .int _ _, _ => rfl
 | .str _, _ => rfl
 | .val _, _ => rfl
 | .any, _ => rfl
 | .nb _, _ => rfl
 | .dfs l, hb => by simp only [ZI] at hb; simp only [ren, YC h hb]
 | .yf b, hb => by simp only [ZI] at hb; simp only [ren, Vr h hb]
 | .mp b, hb => by simp only [ZI] at hb; simp only [ren, Vr h hb]
 | .ptr b _ _ _, hb => by simp only [ZI] at hb; simp only [ren, Vr h hb]
 | .sl b _ _ _ _, hb => by simp only [ZI] at hb; simp only [ren, Vr h hb]
 | .agg cs, hb => by simp only [ZI] at hb; simp only [ren, YC h hb]
 | .arr _ rs, hb => by simp only [ZI] at hb; simp only [ren, XN h hb]
 | .tup vs, hb => by simp only [ZI] at hb; simp only [ren, YC h hb]
 | .ifc _ v, hb => by simp only [ZI] at hb; simp only [ren, Jo h hb]
 | .fn _ a b, hb => by simp only [ZI, Bool.and_eq_true] at hb; simp only [ren, YC h hb.1, YC h hb.2]
theorem YC (h : ∀ j, j < k → σ j = j) : ∀ {vs : List SV}, Y6 k vs = true → renL σ vs = vs
 | [], _ => rfl
 | c :: cs, hb => by simp only [Y6, Bool.and_eq_true] at hb; simp only [renL, Jo h hb.1, YC h hb.2]
theorem XN (h : ∀ j, j < k → σ j = j) : ∀ {vs : List (List SV)}, Yd k vs = true → YU σ vs = vs
 | [], _ => rfl
 | c :: cs, hb => by simp only [Yd, Bool.and_eq_true] at hb; simp only [YU, YC h hb.1, XN h hb.2]
end
theorem Z1E (h : ∀ j, j < k → σ j = j) : ∀ {fr : Fr}, VE k fr = true → renF σ fr = fr
 | [], _ => rfl
 | (t, v) :: r, hb => by
   simp only [VE, Bool.and_eq_true] at hb
   simp only [renF, Jo h hb.1, Z1E h hb.2]
theorem Z5X (h : ∀ j, j < k → σ j = j) : ∀ {c : DC}, Ue k c = true → renC σ c = c
 | .v s, hb => by simp only [Ue] at hb; simp only [renC, Jo h hb]
 | .kid _ rs, hb => by simp only [Ue] at hb; simp only [renC, XN h hb]
theorem Z0I (h : ∀ j, j < k → σ j = j) : ∀ {r : List DC}, YN k r = true → Uc σ r = r
 | [], _ => rfl
 | c :: cs, hb => by simp only [YN, Bool.and_eq_true] at hb; simp only [Uc, Z5X h hb.1, Z0I h hb.2]
theorem W6 (h : ∀ j, j < k → σ j = j) : ∀ {r : List (List DC)}, Y7 k r = true → YP σ r = r
 | [], _ => rfl
 | c :: cs, hb => by simp only [Y7, Bool.and_eq_true] at hb; simp only [YP, Z0I h hb.1, W6 h hb.2]
theorem Vs (h : ∀ j, j < k → σ j = j) : ∀ {hp : Hp}, Za k hp = true → renH σ hp = hp
 | .deep _ _ _, hb => by simp only [Za] at hb; simp only [renH, W6 h hb]
 | .box _, hb => by simp only [Za] at hb; simp only [renH, YC h hb]
 | .rows _ _, hb => by simp only [Za] at hb; simp only [renH, XN h hb]
 | .siter _ _, _ => rfl
 | .tbl _, _ => rfl
 | .bld _ _ _, _ => rfl
 | .dfr _, _ => rfl
 | .lp _ _ fr, hb => by simp only [Za] at hb; simp only [renH, Z1E h hb]
 | .mp _, hb => by simp only [Za] at hb; simp only [renH, XN h hb]
theorem Z1F (h : ∀ j, j < k → σ j = j) : ∀ {O : Hps}, Zd k O = true → renO σ O = O
 | [], _ => rfl
 | (i, hp) :: r, hb => by
   simp only [Zd, Bool.and_eq_true, Nat.blt_eq] at hb
   simp only [renO, h i hb.1, Vs h hb.2.1, Z1F h hb.2.2]
end
variable {M : Mx} {fr fr' : Fr} {O O' : Hps} {nx : Nat}
theorem Z7l {k i : Nat} (h : i < k) : (List.range k).getD i 0 = i := by simp [List.getD, h]
theorem Z4j {k nx j : Nat} (h : j < k) : ZM (List.range k) nx j = j := by
 simp only [ZM, List.length_range, if_pos h, Z7l h]
def hereO (O : Hps) : Hps → Prop
 | [] => True
 | (i, h) :: r => match lkp i O with
   | some g => g = h ∧ hereO O r
   | none => False
def hereS (C : Cx) (O : Hps) : Hps → Prop
 | [] => True
 | (i, h) :: r => match Xw C O (.loc i) with
   | some g => g = h ∧ hereS C O r
   | none => False
theorem hereO.at {O : Hps} : ∀ {Oc : Hps}, hereO O Oc → ∀ p ∈ Oc, lkp p.1 O = some p.2
 | [], _, p, hp => by cases hp
 | (i, h) :: r, hs, p, hp => by
   simp only [hereO] at hs
   split at hs
   · rename_i g hg
     obtain ⟨rfl, hs⟩ := hs
     rcases List.mem_cons.1 hp with rfl | hp
     · exact hg
     · exact hereO.at hs p hp
   · exact hs.elim
theorem hereS.at {C : Cx} {O : Hps} : ∀ {Sc : Hps}, hereS C O Sc → ∀ p ∈ Sc, Xw C O (.loc p.1) = some p.2
 | [], _, p, hp => by cases hp
 | (i, h) :: r, hs, p, hp => by
   simp only [hereS] at hs
   split at hs
   · rename_i g hg
     obtain ⟨rfl, hs⟩ := hs
     rcases List.mem_cons.1 hp with rfl | hp
     · exact hg
     · exact hereS.at hs p hp
   · exact hs.elim
theorem Xc {k : Nat} : ∀ {O : Hps}, Zd k O = true → ∀ p ∈ O, p.1 < k ∧ Za k p.2 = true
 | [], _, p, hp => by cases hp
 | (i, h) :: r, hb, p, hp => by
   simp only [Zd, Bool.and_eq_true, Nat.blt_eq] at hb
   rcases List.mem_cons.1 hp with rfl | hp
   · exact ⟨hb.1, hb.2.1⟩
   · exact Xc hb.2.2 p hp
theorem YD {k : Nat} : ∀ {O : Hps}, Zd k O = true → ∀ j ∈ Zi O, j < k
 | [], _, j, hj => by cases hj
 | (i, h) :: r, hb, j, hj => by
   simp only [Zd, Bool.and_eq_true, Nat.blt_eq] at hb
   rcases List.mem_cons.1 hj with rfl | hj
   · exact hb.1
   · exact YD hb.2.2 j hj
theorem Z5d {f : Nat → Nat} : ∀ {l : List Nat}, (∀ j ∈ l, f j = j) → l.map f = l
 | [], _ => rfl
 | x :: l, h => by simp only [List.map_cons, h x (List.mem_cons_self ..), Z5d fun j hj => h j (List.mem_cons_of_mem _ hj)]
theorem Z0J : ∀ {S : Hps} {p : Nat × Hp}, p ∈ S → p.1 ∈ Zi S
 | [], p, hp => by cases hp
 | (i, h) :: S, p, hp => by
   rcases List.mem_cons.1 hp with rfl | hp
   · exact List.mem_cons_self ..
   · exact List.mem_cons_of_mem _ (Z0J hp)
theorem CALL.here {f : FuncId} {args : List SV} {K : SV → Hps → Nat → Prop} {k : Nat} {Oc Sc : Hps} {Q : SV → Hps → Nat → Prop} (sp : Does M.P M.C.T f k args Oc Sc Q)
   (hk : Nat.ble k nx = true) (hb : Y6 k args = true) (hbO : Zd k Oc = true) (hbS : Zd k Sc = true) (hO : hereO O Oc) (hS : hereS M.C O Sc)
   (hd : (Zi Sc).all (fun j => !((Zi Oc).any (Nat.beq j))) = true)
   (hQ : ∀ r O' nx', Q r O' nx' → nx' = k ∧ ZI k r = true ∧ Zd k O' = true)
   (hK : ∀ r O', Q r O' k → K r (O' ++ YF (Zi Oc) O) nx) : CALL M f args O nx K := by
 have hk := Nat.le_of_ble_eq_true hk
 have hσ : ∀ j, j < k → ZM (List.range k) nx j = j := fun j hj => Z4j hj
 have hnames : (Zi Oc).map (ZM (List.range k) nx) = Zi Oc := Z5d fun j hj => hσ j (YD hbO j hj)
 refine CALL.of (List.range k) sp (by simp) (fun i hi => by have := List.mem_range.1 hi; omega) (YC hσ hb).symm hb ?_ ?_ ?_ ?_
 · intro p hp
   obtain ⟨h1, h2⟩ := Xc hbO p hp
   exact ⟨h1, by rw [hσ _ h1, Vs hσ h2]; exact hO.at p hp, h2⟩
 · intro j hj j' hj' he
   rwa [hσ j (YD hbO j hj), hσ j' (YD hbO j' hj')] at he
 · intro p hp
   obtain ⟨h1, h2⟩ := Xc hbS p hp
   refine ⟨h1, by rw [hσ _ h1, Vs hσ h2]; exact hS.at p hp, h2, ?_⟩
   rw [hnames, hσ _ h1]
   intro hm
   have hj : p.1 ∈ Zi Sc := Z0J hp
   have := List.all_eq_true.1 hd _ hj
   simp only [Bool.not_eq_eq_eq_not, Bool.not_true] at this
   have h3 : (Zi Oc).any (Nat.beq p.1) = true := List.any_eq_true.2 ⟨p.1, hm, YW _⟩
   rw [h3] at this; cases this
 · intro r O' nx' hq
   obtain ⟨rfl, h1, h2⟩ := hQ r O' nx' hq
   have := hK r O' hq
   rw [Jo hσ h1, Z1F hσ h2, hnames]
   simpa using this
def thereO (σ : Nat → Nat) (O : Hps) : Hps → Prop
 | [] => True
 | (i, h) :: r => match lkp (σ i) O with
   | some g => g = renH σ h ∧ thereO σ O r
   | none => False
def thereS (C : Cx) (σ : Nat → Nat) (O : Hps) : Hps → Prop
 | [] => True
 | (i, h) :: r => match Xw C O (.loc (σ i)) with
   | some g => g = renH σ h ∧ thereS C σ O r
   | none => False
theorem thereO.at {σ : Nat → Nat} {O : Hps} : ∀ {Oc : Hps}, thereO σ O Oc → ∀ p ∈ Oc, lkp (σ p.1) O = some (renH σ p.2)
 | [], _, p, hp => by cases hp
 | (i, h) :: r, hs, p, hp => by
   simp only [thereO] at hs
   split at hs
   · rename_i g hg
     obtain ⟨rfl, hs⟩ := hs
     rcases List.mem_cons.1 hp with rfl | hp
     · exact hg
     · exact thereO.at hs p hp
   · exact hs.elim
theorem thereS.at {C : Cx} {σ : Nat → Nat} {O : Hps} : ∀ {Sc : Hps}, thereS C σ O Sc → ∀ p ∈ Sc, Xw C O (.loc (σ p.1)) = some (renH σ p.2)
 | [], _, p, hp => by cases hp
 | (i, h) :: r, hs, p, hp => by
   simp only [thereS] at hs
   split at hs
   · rename_i g hg
     obtain ⟨rfl, hs⟩ := hs
     rcases List.mem_cons.1 hp with rfl | hp
     · exact hg
     · exact thereS.at hs p hp
   · exact hs.elim
theorem CALL.at {f : FuncId} {args argsc : List SV} {K : SV → Hps → Nat → Prop} {k : Nat} {Oc Sc : Hps} {Q : SV → Hps → Nat → Prop} (L : List Nat) (sp : Does M.P M.C.T f k argsc Oc Sc Q)
   (hL : L.length = k) (hLn : L.all (fun i => Nat.blt i nx) = true) (ha : args = renL (ZM L nx) argsc) (hb : Y6 k argsc = true) (hbO : Zd k Oc = true) (hbS : Zd k Sc = true) (hO : thereO (ZM L nx) O Oc) (hS : thereS M.C (ZM L nx) O Sc)
   (hinj : (Zi Oc).all (fun j => (Zi Oc).all fun j' => !(Nat.beq (ZM L nx j) (ZM L nx j')) || Nat.beq j j') = true)
   (hd : (Zi Sc).all (fun j => !((Zi Oc).any fun j' => Nat.beq (ZM L nx j) (ZM L nx j'))) = true)
   (hK : ∀ r O' nx', Q r O' nx' → K (ren (ZM L nx) r) (renO (ZM L nx) O' ++ YF ((Zi Oc).map (ZM L nx)) O) (nx + (nx' - k))) : CALL M f args O nx K := by
 refine CALL.of L sp hL (fun i hi => by have := List.all_eq_true.1 hLn i hi; simpa [Nat.blt_eq] using this) ha hb (fun p hp => ?_) (fun j hj j' hj' he => ?_) (fun p hp => ?_) hK
 · obtain ⟨h1, h2⟩ := Xc hbO p hp
   exact ⟨h1, hO.at p hp, h2⟩
 · have := List.all_eq_true.1 (List.all_eq_true.1 hinj j hj) j' hj'
   simp only [he, YW, Bool.not_true, Bool.false_or] at this
   exact Zk this
 · obtain ⟨h1, h2⟩ := Xc hbS p hp
   refine ⟨h1, hS.at p hp, h2, fun hm => ?_⟩
   obtain ⟨j', hj', he⟩ := List.mem_map.1 hm
   have := List.all_eq_true.1 hd _ (Z0J hp)
   simp only [Bool.not_eq_eq_eq_not, Bool.not_true] at this
   have h3 : (Zi Oc).any (fun j' => Nat.beq (ZM L nx p.1) (ZM L nx j')) = true := List.any_eq_true.2 ⟨j', hj', by rw [he]; exact YW _⟩
   rw [h3] at this; cases this
theorem FIN.at {k : Nat} {r : SV} {Q : SV → Hps → Nat → Prop} (hk : M.η0.length = k) (τ : List Nat) (rc : SV) (Oc : Hps) (hτ : τ.all (fun i => Nat.blt i nx) = true) (hr : r = ren (Yh k τ) rc) (hb : ZI (k + τ.length) rc = true) (hbO : Zd (k + τ.length) Oc = true)
   (hO : thereO (Yh k τ) O Oc) (hinj : (Zi Oc).all (fun j => (Zi Oc).all fun j' => !(Nat.beq (Yh k τ j) (Yh k τ j')) || Nat.beq j j') = true) (hQ : Q rc Oc (k + τ.length)) : FIN M O nx r Q := by
 refine FIN.keep hk τ (rc := rc) (Oc := Oc) (fun i hi => by have := List.all_eq_true.1 hτ i hi; simpa [Nat.blt_eq] using this) hr hb (fun p hp => ?_) (fun j hj j' hj' he => ?_) hQ
 · obtain ⟨h1, h2⟩ := Xc hbO p hp
   exact ⟨h1, hO.at p hp, h2⟩
 · have := List.all_eq_true.1 (List.all_eq_true.1 hinj j hj) j' hj'
   simp only [he, YW, Bool.not_true, Bool.false_or] at this
   exact Zk this
theorem CALL.weak {f : FuncId} {args : List SV} {K : SV → Hps → Nat → Prop} {O1 : Hps} {n1 : Nat} (h : ∀ η w, HeapOK M η w O nx → ∃ η', η <+: η' ∧ HeapOK M η' w O1 n1) (hc : CALL M f args O1 n1 K) : CALL M f args O nx K := by
 refine ⟨fun η w vs H hd => ?_⟩
 obtain ⟨η1, hp, H1⟩ := h η w H
 refine (hc.out η1 w vs H1 (DenL.mono hp hd)).mono ?_
 rintro v w' ⟨r, O', nx', η', h1, h2⟩
 exact ⟨r, O', nx', η', hp.trans h1, h2⟩
def Z0K (nx es : Nat) : Nat → List SV → Option (List SV)
 | 0, .val (.slice none 0 0) :: r => some (.sl (.loc nx) 0 es 0 none :: r)
 | j + 1, c :: r => match Z0K nx es j r with | some r => some (c :: r) | none => none
 | _, _ => none
theorem Z3l {nx es : Nat} : ∀ {j : Nat} {row row' : List SV}, Z0K nx es j row = some row' → ∀ (i : Nat) (sv : SV), row'[i]? = some sv → row[i]? = some sv ∨ (row[i]? = some (SV.val (.slice none 0 0)) ∧ sv = SV.sl (.loc nx) 0 es 0 none)
 | 0, [], _, h => by simp [Z0K] at h
 | 0, c :: r, row', h => by
   unfold Z0K at h
   split at h
   · rename_i e1 e2
     injection e2 with e2 e3
     subst e2 e3
     injection h with h; subst h
     intro i sv hi
     cases i with
     | zero => simp at hi; subst hi; exact .inr ⟨rfl, rfl⟩
     | succ i => exact .inl (by simpa using hi)
   · simp_all
   · cases h
 | j + 1, [], _, h => by simp [Z0K] at h
 | j + 1, c :: r, row', h => by
   unfold Z0K at h
   split at h
   · rename_i r1 hr
     injection h with h; subst h
     intro i sv hi
     cases i with
     | zero => left; simpa using hi
     | succ i =>
       have := Z3l hr i sv (by simpa using hi)
       simpa using this
   · cases h
theorem HeapOK.nilCell {η : Env} {w : World} (H : HeapOK M η w O nx) {i j es : Nat} {row row' : List SV} (hi : lkp i O = some (.box row)) (hr : Z0K nx es j row = some row') :
   ∃ η', η <+: η' ∧ HeapOK M η' w ((nx, .rows es []) :: setK i (.box row') O) (nx + 1) := by
 have hpre : η <+: η ++ [none] := List.prefix_append _ _
 have hnew : (η ++ [none])[nx]? = some none := by rw [List.getElem?_append_right (by rw [H.len]; omega), H.len]; simp
 have hold : ∀ {i h}, lkp i O = some h → (η ++ [none])[i]? = η[i]? := fun {i h} hi => by
   rw [List.getElem?_append_left (by rw [H.len]; exact H.lt hi)]
 have hin : ∀ {a h}, lkp a (setK i (.box row') O) = some h → ∃ h0, lkp a O = some h0 ∧ HpSat (η ++ [none]) w true (.loc a) h ∧ ∀ n, feet (η ++ [none]) w (.loc a) h n → feet η w (.loc a) h0 n := by
   intro a h ha
   rw [ZN _ _ _ _ (by rw [hi]; rfl)] at ha
   split at ha
   · rename_i e
     subst e
     injection ha with ha
     subst ha
     refine ⟨_, hi, ?_, fun n f => H.stands hpre hi (fun _ _ => rfl) (show feet (η ++ [none]) w (.loc _) (.box row) n from f)⟩
     have := (H.own.1 _ _ hi).1.mono hpre
     simp only [HpSat] at this ⊢
     obtain ⟨e, arr, T, fz, h1, h2, h3, h4⟩ := this
     refine ⟨e, arr, T, fz, h1, h2, h3, fun c sv hc => ?_⟩
     rcases Z3l hr c sv hc with hc' | ⟨hc', rfl⟩
     · exact h4 c sv hc'
     · obtain ⟨v, h5, h6, h7⟩ := h4 c _ hc'
       refine ⟨v, h5, h6, ?_⟩
       simp only [Den] at h7 ⊢
       exact .inl ⟨hnew, h7.1, trivial⟩
   · exact ⟨h, ha, (H.own.1 _ _ ha).1.mono hpre, fun n f => H.stands hpre ha (fun _ _ => rfl) f⟩
 refine ⟨η ++ [none], hpre, H.pre.trans hpre, by simp [H.len], ⟨fun a h ha => ?_, fun a b h h' n ha hb hab f f' => ?_⟩, H.fr, H.sok⟩
 · rw [Z7] at ha
   split at ha
   · rename_i e; subst e; injection ha with ha; subst ha
     exact ⟨.inl ⟨hnew, rfl⟩, fun n f => (feet.none (b := .loc _) hnew f).elim⟩
   · obtain ⟨h0, h1, h2, h3⟩ := hin ha
     exact ⟨h2, fun n f => (H.own.1 a h0 h1).2 n (h3 n f)⟩
 · rw [Z7] at ha hb
   split at ha
   · rename_i e1; subst e1; exact (feet.none (b := .loc _) hnew f).elim
   · split at hb
     · rename_i e2; subst e2; exact (feet.none (b := .loc _) hnew f').elim
     · obtain ⟨h0, h1, _, h3⟩ := hin ha
       obtain ⟨h0', h1', _, h3'⟩ := hin hb
       exact H.own.2 a b h0 h0' n h1 h1' hab (h3 n f) (h3' n f')
theorem CALL.nilCell {f : FuncId} {args : List SV} {K : SV → Hps → Nat → Prop} (i j es : Nat) {row row' : List SV} (hi : lkp i O = some (.box row)) (hr : Z0K nx es j row = some row') (hc : CALL M f args ((nx, .rows es []) :: setK i (.box row') O) (nx + 1) K) : CALL M f args O nx K :=
 CALL.weak (fun η w H => H.nilCell hi hr) hc
theorem FIN.here {k : Nat} {r rc : SV} {Oc : Hps} {Q : SV → Hps → Nat → Prop} (hk : M.η0.length = k) (hr : r = rc) (hb : ZI k rc = true) (hbO : Zd k Oc = true) (hO : hereO O Oc) (hQ : Q rc Oc k) : FIN M O nx r Q := by
 have hσ : ∀ j, j < k → Yh k [] j = j := fun j hj => by simp [Yh, hj]
 refine FIN.keep hk [] (rc := rc) (Oc := Oc) (fun i hi => by cases hi) (by rw [Jo hσ hb]; exact hr) hb ?_ ?_ hQ
 · intro p hp
   obtain ⟨h1, h2⟩ := Xc hbO p hp
   exact ⟨h1, by rw [hσ _ h1, Vs hσ h2]; exact hO.at p hp, h2⟩
 · intro j hj j' hj' he
   rwa [hσ j (YD hbO j hj), hσ j' (YD hbO j' hj')] at he
def Loose (k : Nat) : List SV → List SV → Prop
 | _, [] => True
 | [], _ :: _ => False
 | c :: cs, c' :: cs' => (c' = .any ∨ (c' = c ∧ ZI k c = true)) ∧ Loose k cs cs'
theorem Loose.get {k : Nat} : ∀ {row row' : List SV}, Loose k row row' → ∀ (j : Nat) (sv : SV), row'[j]? = some sv → ∃ c, row[j]? = some c ∧ (sv = .any ∨ (sv = c ∧ ZI k c = true))
 | _, [], _, j, sv, h => by simp at h
 | [], _ :: _, h, _, _, _ => h.elim
 | c :: cs, c' :: cs', h, 0, sv, hj => by simp at hj; subst hj; exact ⟨c, rfl, h.1⟩
 | c :: cs, c' :: cs', h, j + 1, sv, hj => by simp at hj; obtain ⟨d, h1, h2⟩ := Loose.get h.2 j sv hj; exact ⟨d, by simpa using h1, h2⟩
section
variable {m : Nat} {σ : Nat → Nat} {sv : SV}
theorem Z0L (hs : ZI m sv = true) : ∀ {row : List DC} {c : Nat}, Yu row = true → YN m (row.set c (.v sv)) = true
 | [], _, _ => rfl
 | d :: row, 0, h => by simp only [Yu, Bool.and_eq_true] at h; simp only [List.set_cons_zero, YN, Ue, hs, Xy m h.2, Bool.and_self]
 | d :: row, c + 1, h => by simp only [Yu, Bool.and_eq_true] at h; simp only [List.set_cons_succ, YN, UX m h.1, Z0L hs h.2, Bool.and_self]
theorem W7 (hs : ZI m sv = true) : ∀ {rs : List (List DC)} {r c : Nat}, Zw rs = true → Y7 m (setC rs r c (.v sv)) = true
 | [], r, _, _ => by cases r <;> rfl
 | row :: rs, 0, c, h => by simp only [Zw, Bool.and_eq_true] at h; simp only [setC, List.modify_zero_cons, Y7, Z0L hs h.1, Xg m h.2, Bool.and_self]
 | row :: rs, r + 1, c, h => by simp only [Zw, Bool.and_eq_true] at h; simp only [setC, List.modify_succ_cons, Y7, Xy m h.1, Bool.true_and]; exact W7 hs h.2
theorem Z3m : ∀ {row : List DC} {c : Nat}, Yu row = true → Uc σ (row.set c (.v sv)) = row.set c (.v (ren σ sv))
 | [], _, _ => rfl
 | d :: row, 0, h => by simp only [Yu, Bool.and_eq_true] at h; simp only [List.set_cons_zero, Uc, renC, JB σ h.2]
 | d :: row, c + 1, h => by simp only [Yu, Bool.and_eq_true] at h; simp only [List.set_cons_succ, Uc, Z1v σ h.1, Z3m h.2]
theorem Z1G : ∀ {rs : List (List DC)} {r c : Nat}, Zw rs = true → YP σ (setC rs r c (.v sv)) = setC rs r c (.v (ren σ sv))
 | [], r, _, _ => by cases r <;> rfl
 | row :: rs, 0, c, h => by simp only [Zw, Bool.and_eq_true] at h; simp only [setC, List.modify_zero_cons, YP, Z3m h.1, XZ σ h.2]
 | row :: rs, r + 1, c, h => by simp only [Zw, Bool.and_eq_true] at h; simp only [setC, List.modify_succ_cons, YP, JB σ h.1]; exact congrArg (row :: ·) (Z1G h.2)
theorem Z5Y {mp : Bool} {es r c : Nat} {rs : List (List DC)} (h : Zw rs = true) (hs : ZI m sv = true) : Za m (.deep mp es (setC rs r c (.v sv))) = true := W7 hs h
theorem Z99 {mp : Bool} {es r c : Nat} {rs : List (List DC)} (h : Zw rs = true) : Hp.deep mp es (setC rs r c (.v (ren σ sv))) = renH σ (.deep mp es (setC rs r c (.v sv))) := by simp only [renH, Z1G h]
end
class PlF {α : Type} (f : α → List SV) : Prop where
 h : ∀ x, YG (f x) = true
class Pl (rs : List (List SV)) : Prop where
 h : Zr rs = true
class PlD (rs : List (List DC)) : Prop where
 h : Zw rs = true
instance {α : Type} {f : α → List SV} [p : PlF f] {l : List α} : Pl (l.map f) := ⟨ZZ f p.h l⟩
instance : PlF bytesRow := ⟨fun _ => rfl⟩
theorem Xd {m i : Nat} {h : Hp} {O : Hps} (h1 : Nat.blt i m = true) (h2 : Za m h = true) (h3 : Zd m O = true) : Zd m ((i, h) :: O) = true := by simp only [Zd, h1, h2, h3, Bool.and_self]
theorem Z0M {k : IntKind} {a b : Int} (h : a = b) : Hp.box [.int k a] = Hp.box [.int k b] := by rw [h]
theorem Z3n {b : Blk} {r es n n' : Nat} {lim : Option Nat} (h : n = n') : Hp.box [.sl b r es n lim] = Hp.box [.sl b r es n' lim] := by rw [h]
section
variable {m es : Nat} {σ τ : Nat → Nat} {rs : List (List SV)} {ds : List (List DC)} {mp : Bool}
theorem Z3o [p : Pl rs] : Za m (.rows es rs) = true := V6 m (h := .rows es rs) p.h
theorem Z3p [p : Pl rs] : Za m (.mp rs) = true := V6 m (h := .mp rs) p.h
theorem Z0N [p : PlD ds] : Za m (.deep mp es ds) = true := V6 m (h := .deep mp es ds) p.h
theorem Z0O {r c : Nat} {sv : SV} [p : PlD ds] (h : ZI m sv = true) : Za m (.deep mp es (setC ds r c (.v sv))) = true := Z5Y p.h h
theorem Z7m {r c : Nat} {sv sv' : SV} [p : PlD ds] (h : sv' = ren σ sv) : Hp.deep mp es (setC ds r c (.v sv')) = renH σ (.deep mp es (setC ds r c (.v sv))) := h ▸ Z99 p.h
theorem renR [p : Pl rs] : renH σ (.rows es rs) = .rows es rs := Yc σ (h := .rows es rs) p.h
theorem renM [p : Pl rs] : renH σ (.mp rs) = .mp rs := Yc σ (h := .mp rs) p.h
theorem renDp [p : PlD ds] : renH σ (.deep mp es ds) = .deep mp es ds := Yc σ (h := .deep mp es ds) p.h
theorem Z7n [p : Pl rs] : renH σ (.rows es rs) = renH τ (.rows es rs) := renR.trans renR.symm
theorem Z7o [p : Pl rs] : renH σ (.mp rs) = renH τ (.mp rs) := renM.trans renM.symm
theorem Z7p [p : PlD ds] : renH σ (.deep mp es ds) = renH τ (.deep mp es ds) := renDp.trans renDp.symm
end
section
variable {M : Mx} {fr fr' : Fr} {O O' : Hps} {nx : Nat}
theorem CALL.aA {f : FuncId} {args argsc : List SV} {K : SV → Hps → Nat → Prop} {k : Nat} {Oc Sc : Hps} {Q : SV → Hps → Nat → Prop} (L : List Nat) (sp : Does M.P M.C.T f k argsc Oc Sc Q)
   (hK : ∀ r O' nx', Q r O' nx' → K (ren (ZM L nx) r) (renO (ZM L nx) O' ++ YF ((Zi Oc).map (ZM L nx)) O) (nx + (nx' - k)))
   (hL : L.length = k := by exact rfl) (hLn : L.all (fun i => Nat.blt i nx) = true := by exact rfl) (ha : args = renL (ZM L nx) argsc := by exact rfl) (hb : Y6 k argsc = true := by exact rfl)
   (hbO : Zd k Oc = true := by (repeat' (first | (refine Xd rfl ?_ ?_) | exact Z3o | exact Z3p | exact Z0N | exact Z0O rfl | rfl))) (hbS : Zd k Sc = true := by (repeat' (first | (refine Xd rfl ?_ ?_) | exact Z3o | exact Z3p | exact Z0N | exact Z0O rfl | rfl))) (hO : thereO (ZM L nx) O Oc := by (repeat' (first | exact trivial | (with_reducible rfl) | exact renR.symm | exact Z7n | exact renM.symm | exact Z7o | exact renDp.symm | exact Z7p | exact Z7m rfl | (exact Zf Pl.h (by simp [ZX, List.take_of_length_le] <;> rfl)) | exact rfl | ((conv => whnf); refine ⟨?_, ?_⟩)))) (hS : thereS M.C (ZM L nx) O Sc := by (repeat' (first | exact trivial | (with_reducible rfl) | exact renR.symm | exact Z7n | exact renM.symm | exact Z7o | exact renDp.symm | exact Z7p | exact Z7m rfl | (exact Zf Pl.h (by simp [ZX, List.take_of_length_le] <;> rfl)) | exact rfl | ((conv => whnf); refine ⟨?_, ?_⟩))))
   (hinj : (Zi Oc).all (fun j => (Zi Oc).all fun j' => !(Nat.beq (ZM L nx j) (ZM L nx j')) || Nat.beq j j') = true := by exact rfl)
   (hd : (Zi Sc).all (fun j => !((Zi Oc).any fun j' => Nat.beq (ZM L nx j) (ZM L nx j'))) = true := by exact rfl) : CALL M f args O nx K :=
 CALL.at L sp hL hLn ha hb hbO hbS hO hS hinj hd hK
theorem FIN.aA {k : Nat} {r : SV} {Q : SV → Hps → Nat → Prop} (hk : M.η0.length = k) (τ : List Nat) (rc : SV) (Oc : Hps) (hQ : Q rc Oc (k + τ.length)) (hτ : τ.all (fun i => Nat.blt i nx) = true := by exact rfl) (hr : r = ren (Yh k τ) rc := by exact rfl) (hb : ZI (k + τ.length) rc = true := by exact rfl) (hbO : Zd (k + τ.length) Oc = true := by (repeat' (first | (refine Xd rfl ?_ ?_) | exact Z3o | exact Z3p | exact Z0N | exact Z0O rfl | rfl)))
   (hO : thereO (Yh k τ) O Oc := by (repeat' (first | exact trivial | (with_reducible rfl) | exact renR.symm | exact Z7n | exact renM.symm | exact Z7o | exact renDp.symm | exact Z7p | exact Z7m rfl | (exact Zf Pl.h (by simp [ZX, List.take_of_length_le] <;> rfl)) | exact rfl | ((conv => whnf); refine ⟨?_, ?_⟩)))) (hinj : (Zi Oc).all (fun j => (Zi Oc).all fun j' => !(Nat.beq (Yh k τ j) (Yh k τ j')) || Nat.beq j j') = true := by exact rfl) : FIN M O nx r Q :=
 FIN.at hk τ rc Oc hτ hr hb hbO hO hinj hQ
theorem GOES.cA {k m : Nat} (hk : M.η0.length = k) (hkm : Nat.ble k m = true := by exact rfl) (hmn : Nat.ble m nx = true := by exact rfl) (hbf : JH m fr' = true := by exact rfl) (hbo : Zd m O' = true := by (repeat' (first | (refine Xd rfl ?_ ?_) | exact Z3o | exact Z3p | exact Z0N | exact Z0O rfl | rfl)))
   (hf : cutK fr fr' := by (repeat' (first | (with_reducible rfl) | exact trivial | (exact ZP rfl (by first | omega | (simp (disch := omega) only [lnB, Z8, Zg] <;> omega) | (simp; done) | (simp <;> omega))) | (exact congrArg (SV.int _) (by first | omega | (simp (disch := omega) only [lnB, Z8, Zg] <;> omega) | (simp; done) | (simp <;> omega))) | (exact Z0M (by first | omega | (simp (disch := omega) only [lnB, Z8, Zg] <;> omega) | (simp; done) | (simp <;> omega))) | (exact Z3n (by first | omega | (simp (disch := omega) only [lnB, Z8, Zg] <;> omega) | (simp; done) | (simp <;> omega))) | exact renR | exact renM | exact renDp | (with_reducible assumption) | (exact congrArg (Hp.rows _) (by simp [List.take_of_length_le] <;> rfl)) | ((conv => whnf); refine ⟨?_, ?_⟩) | (simp; done) | rfl))) (hO : Z7f O O' := by (repeat' (first | (with_reducible rfl) | exact trivial | (exact ZP rfl (by first | omega | (simp (disch := omega) only [lnB, Z8, Zg] <;> omega) | (simp; done) | (simp <;> omega))) | (exact congrArg (SV.int _) (by first | omega | (simp (disch := omega) only [lnB, Z8, Zg] <;> omega) | (simp; done) | (simp <;> omega))) | (exact Z0M (by first | omega | (simp (disch := omega) only [lnB, Z8, Zg] <;> omega) | (simp; done) | (simp <;> omega))) | (exact Z3n (by first | omega | (simp (disch := omega) only [lnB, Z8, Zg] <;> omega) | (simp; done) | (simp <;> omega))) | exact renR | exact renM | exact renDp | (with_reducible assumption) | (exact congrArg (Hp.rows _) (by simp [List.take_of_length_le] <;> rfl)) | ((conv => whnf); refine ⟨?_, ?_⟩) | (simp; done) | rfl))) (hd : UZ fr fr' = true := by exact rfl) (hro : W0 M.C.ro id m = true := by exact rfl) : GOES M fr O nx fr' O' m := GOES.cutting hk hkm hmn hbf hbo hf hO hd hro
theorem GOES.kA {k : Nat} (hk : M.η0.length = k) (τ : List Nat) (hτ : τ.all (fun i => Nat.blt i nx) = true := by exact rfl)
   (hn : (Zi O').all (fun j => (Zi O').all fun j' => !(Nat.beq (Yh k τ j) (Yh k τ j')) || Nat.beq j j') = true := by exact rfl)
   (hbf : JH (k + τ.length) fr' = true := by exact rfl) (hbo : Zd (k + τ.length) O' = true := by (repeat' (first | (refine Xd rfl ?_ ?_) | exact Z3o | exact Z3p | exact Z0N | exact Z0O rfl | rfl))) (hf : subK (Yh k τ) fr fr' := by (repeat' (first | (with_reducible rfl) | exact trivial | exact renR.symm | exact Z7n | exact renM.symm | exact Z7o | exact renDp.symm | exact Z7p | exact Z7m rfl | (exact ZP rfl (by first | omega | (simp (disch := omega) only [lnB, Z8, Zg] <;> omega) | (simp; done) | (simp <;> omega))) | (exact congrArg (SV.int _) (by first | omega | (simp (disch := omega) only [lnB, Z8, Zg] <;> omega) | (simp; done) | (simp <;> omega))) | (exact Z0M (by first | omega | (simp (disch := omega) only [lnB, Z8, Zg] <;> omega) | (simp; done) | (simp <;> omega))) | (exact Z3n (by first | omega | (simp (disch := omega) only [lnB, Z8, Zg] <;> omega) | (simp; done) | (simp <;> omega))) | (with_reducible assumption) | (exact Zf Pl.h (by simp [ZX, List.take_of_length_le] <;> rfl)) | ((conv => whnf); refine ⟨?_, ?_⟩) | (simp only [ren, renB]; done) | rfl))) (hO : Z7i (Yh k τ) O O' := by (repeat' (first | (with_reducible rfl) | exact trivial | exact renR.symm | exact Z7n | exact renM.symm | exact Z7o | exact renDp.symm | exact Z7p | exact Z7m rfl | (exact ZP rfl (by first | omega | (simp (disch := omega) only [lnB, Z8, Zg] <;> omega) | (simp; done) | (simp <;> omega))) | (exact congrArg (SV.int _) (by first | omega | (simp (disch := omega) only [lnB, Z8, Zg] <;> omega) | (simp; done) | (simp <;> omega))) | (exact Z0M (by first | omega | (simp (disch := omega) only [lnB, Z8, Zg] <;> omega) | (simp; done) | (simp <;> omega))) | (exact Z3n (by first | omega | (simp (disch := omega) only [lnB, Z8, Zg] <;> omega) | (simp; done) | (simp <;> omega))) | (with_reducible assumption) | (exact Zf Pl.h (by simp [ZX, List.take_of_length_le] <;> rfl)) | ((conv => whnf); refine ⟨?_, ?_⟩) | (simp only [ren, renB]; done) | rfl))) (hd : UZ fr fr' = true := by exact rfl) (hro : W0 M.C.ro (Yh k τ) (k + τ.length) = true := by exact rfl) : GOES M fr O nx fr' O' (k + τ.length) :=
 GOES.keeping hk τ hτ hn hbf hbo hf hO hd hro
end
theorem AU {P Q : Prop} (k : Q) (h : Q → P := by first | (with_reducible exact IF.tt) | (with_reducible exact IF.ff) | (with_reducible exact GET.at rfl) | (with_reducible exact GETG.at rfl) | ((with_reducible refine fun k => NEED.mk ?_ k); first | with_reducible rfl | omega | (simp (disch := omega) only [lnB, Z8, Zg] <;> omega) | (intro h; (try simp (disch := omega) only [hsB, hsC, lnB, Z8, Zg, simprocAttr] at h); (first | omega | (simp (disch := omega) only [lnB, Z8, Zg] <;> omega))) | (exact Zu 256 rfl rfl (by simp) (by simp) (by omega)) | (exact ⟨by omega, Wv (by omega)⟩) | (exact ⟨by omega, by omega, Wv (by omega)⟩) | (simp <;> omega))) : P := h k
theorem IW {J : Type} {b : Bool} {A B : J → Prop} {j : J} {p q : Prop} (x : p → A j) (y : q → B j)
   (hp : b = true → p := by (intro h; first | (simp (disch := omega) only [hsB, hsC, lnB, Z8, Zg, simprocAttr] at h; exact h) | (exact (show (0 : Nat) = 1 by simp (disch := omega) only [hsB, hsC, lnB, Z8, Zg, simprocAttr] at h)) | exact h))
   (hq : b = false → q := by (intro h; first | (simp (disch := omega) only [hsB, hsC, lnB, Z8, Zg, simprocAttr] at h; exact h) | (exact (show (0 : Nat) = 1 by simp (disch := omega) only [hsB, hsC, lnB, Z8, Zg, simprocAttr] at h)) | exact h)) : IF b A B j := ⟨fun h => x (hp h), fun h => y (hq h)⟩
theorem ZaT {b : Blk} {r es len : Nat} {lim : Option Nat} (h : 0 < len) : Det (.sl b r es len lim) := by
 intro η u u' h1 h2
 simp only [Den] at h1 h2
 rcases h1 with ⟨_, _, h0⟩ | ⟨e, o, g1, rfl, g3, g4, g5⟩
 · omega
 rcases h2 with ⟨_, _, h0⟩ | ⟨e', o', k1, rfl, k3, k4, k5⟩
 · omega
 rw [g1] at k1
 injection k1 with k1
 injection k1 with k1
 subst k1
 rw [g5 (.inl (by omega)), k5 (.inl (by omega))]
theorem AD {P Q : Prop} (k : Q) (h : Q → P := by first | exact fun k => NEED.mk (Det.of rfl) k | exact fun k => NEED.mk (ZaT (by omega)) k) : P := h k
end Go.Sx
namespace Go.Our
open Go.Sx
structure Tri {α : Type} (c : α → α → Int) : Prop where
 rng : ∀ a b, c a b = -1 ∨ c a b = 0 ∨ c a b = 1
 anti : ∀ a b, c b a = - c a b
 zero : ∀ a b, c a b = 0 ↔ a = b
 trans : ∀ a b d, c a b ≤ 0 → c b d ≤ 0 → c a d ≤ 0
def cmpI (a b : Int) : Int := if a < b then -1 else if a > b then 1 else 0
theorem triI : Tri cmpI where
 rng a b := by unfold cmpI; (repeat' split) <;> omega
 anti a b := by unfold cmpI; (repeat' split) <;> omega
 zero a b := by unfold cmpI; (repeat' split) <;> omega
 trans a b d := by unfold cmpI; (repeat' split) <;> omega
open Lib (compareBytes)
theorem Zac : ∀ a b, compareBytes a b = -1 ∨ compareBytes a b = 0 ∨ compareBytes a b = 1
 | [], [] => by simp [compareBytes]
 | [], _ :: _ => by simp [compareBytes]
 | _ :: _, [] => by simp [compareBytes]
 | a :: as_, b :: bs => by
   unfold compareBytes
   split
   · simp
   · split
     · simp
     · exact Zac as_ bs
theorem Z7q : ∀ a b, compareBytes b a = - compareBytes a b
 | [], [] => by simp [compareBytes]
 | [], _ :: _ => by simp [compareBytes]
 | _ :: _, [] => by simp [compareBytes]
 | a :: as_, b :: bs => by
   unfold compareBytes
   simp only [UInt8.lt_iff_toNat_lt]
   by_cases h : a.toNat < b.toNat
   · have : ¬ b.toNat < a.toNat := by omega
     simp [h, this]
   · by_cases h' : b.toNat < a.toNat
     · simp [h, h']
     · simp only [h, h', if_false]; exact Z7q as_ bs
theorem Z7r : ∀ a b, compareBytes a b = 0 ↔ a = b
 | [], [] => by simp [compareBytes]
 | [], _ :: _ => by simp [compareBytes]
 | _ :: _, [] => by simp [compareBytes]
 | a :: as_, b :: bs => by
   unfold compareBytes
   simp only [UInt8.lt_iff_toNat_lt, List.cons.injEq, ← UInt8.toNat_inj]
   by_cases h : a.toNat < b.toNat
   · simp [h]; omega
   · by_cases h' : b.toNat < a.toNat
     · simp [h, h']; omega
     · have : a.toNat = b.toNat := by omega
       simp only [this, Nat.lt_irrefl, if_false, true_and]; exact Z7r as_ bs
theorem Z5e : ∀ a b c, compareBytes a b ≤ 0 → compareBytes b c ≤ 0 → compareBytes a c ≤ 0
 | [], _, [] => by simp [compareBytes]
 | [], _, _ :: _ => by simp [compareBytes]
 | _ :: _, [], _ => by simp [compareBytes]
 | _ :: _, _ :: _, [] => by simp [compareBytes]
 | a :: as_, b :: bs, c :: cs => by
   unfold compareBytes
   simp only [UInt8.lt_iff_toNat_lt]
   have ih := Z5e as_ bs cs
   (repeat' split) <;> first | omega | (intro x y; first | exact ih x y | omega)
def cmpL (a b : List UInt8) : Int := compareBytes a b
theorem triL : Tri cmpL where
 rng a b := Zac _ _
 anti a b := Z7q _ _
 zero a b := Z7r _ _
 trans a b d := Z5e _ _ _
def X2 {β γ : Type} (c : β → β → Int) (d : γ → γ → Int) (a b : β × γ) : Int := if c a.1 b.1 ≠ 0 then c a.1 b.1 else d a.2 b.2
theorem Vt {β γ : Type} {c : β → β → Int} {d : γ → γ → Int} (hc : Tri c) (hd : Tri d) : Tri (X2 c d) where
 rng a b := by unfold X2; split <;> first | exact hc.rng _ _ | exact hd.rng _ _
 anti a b := by
   unfold X2
   rw [hc.anti a.1 b.1, hd.anti a.2 b.2]
   by_cases h : c a.1 b.1 = 0
   · simp [h]
   · have : ¬ - c a.1 b.1 = 0 := by omega
     simp [h, this]
 zero a b := by
   unfold X2
   by_cases h : c a.1 b.1 = 0
   · simp only [h, ne_eq, not_true_eq_false, if_false]
     rw [hd.zero]
     have hf := (hc.zero _ _).1 h
     exact ⟨fun hg => Prod.ext hf hg, fun e => by rw [e]⟩
   · simp only [ne_eq, h, not_false_eq_true, if_true, false_iff]
     intro e; subst e
     exact h ((hc.zero _ _).2 rfl)
 trans a b e := by
   unfold X2
   intro h1 h2
   have r1 := hc.rng a.1 b.1; have r2 := hc.rng b.1 e.1
   have t1 := hc.trans a.1 b.1 e.1
   by_cases x : c a.1 b.1 = 0
   · have ex := (hc.zero _ _).1 x
     simp only [x, ne_eq, not_true_eq_false, if_false] at h1
     rw [ex]
     by_cases y : c b.1 e.1 = 0
     · simp only [y, ne_eq, not_true_eq_false, if_false] at h2 ⊢
       exact hd.trans _ _ _ h1 h2
     · simp only [ne_eq, y, not_false_eq_true, if_true] at h2 ⊢
       exact h2
   · simp only [ne_eq, x, not_false_eq_true, if_true] at h1
     by_cases y : c b.1 e.1 = 0
     · have ey := (hc.zero _ _).1 y
       rw [← ey]
       simp only [ne_eq, x, not_false_eq_true, if_true]; exact h1
     · simp only [ne_eq, y, not_false_eq_true, if_true] at h2
       have hle := t1 h1 h2
       have hne : c a.1 e.1 ≠ 0 := by
         intro hz
         have e1 := (hc.zero _ _).1 hz
         rw [← e1] at h2 y
         have := hc.anti a.1 b.1
         omega
       simp only [ne_eq, hne, not_false_eq_true, if_true]; exact hle
theorem Z7s {α β : Type} {c : β → β → Int} (hc : Tri c) (f : α → β) (hf : ∀ a b, f a = f b → a = b) : Tri (fun a b => c (f a) (f b)) where
 rng a b := hc.rng _ _
 anti a b := hc.anti _ _
 zero a b := by rw [hc.zero]; exact ⟨hf a b, fun e => by rw [e]⟩
 trans a b d := hc.trans _ _ _
theorem V9 : ∀ a b : List UInt8, Op.bytesLess a b = decide (Lib.compareBytes a b < 0)
 | [], [] => by simp [Op.bytesLess, Lib.compareBytes]
 | [], _ :: _ => by simp [Op.bytesLess, Lib.compareBytes]
 | _ :: _, [] => by simp [Op.bytesLess, Lib.compareBytes]
 | a :: as_, b :: bs => by
   unfold Op.bytesLess Lib.compareBytes
   rw [V9 as_ bs]
   simp only [UInt8.lt_iff_toNat_lt]
   have hbeq : (a == b) = decide (a.toNat = b.toNat) := by
     rw [Bool.eq_iff_iff]; simp [UInt8.toNat_inj]
   rw [hbeq]
   by_cases h : a.toNat < b.toNat
   · simp [h]
   · by_cases h' : b.toNat < a.toNat
     · have : ¬ a.toNat = b.toNat := by omega
       simp [h, h', this]
     · have : a.toNat = b.toNat := by omega
       simp [this]
theorem Z0P (a b : List UInt8) : Z2Q a b = decide (cmpL a b < 0) := V9 a b
def Tm.key (x : Tm) : Int × List UInt8 × List UInt8 × List UInt8 := (x.k, x.t, x.y, x.l)
def Y9 (a b : Tm) : Int := X2 cmpI (X2 cmpL (X2 cmpL cmpL)) a.key b.key
theorem triT : Tri Y9 := Z7s (Vt triI (Vt triL (Vt triL triL))) Tm.key (fun a b h => by
 cases a; cases b; simp [Tm.key] at h; simp [h])
def Qd.key (q : Qd) : Tm × Tm × Tm × Tm := (q.g, q.s, q.p, q.o)
def Zx (a b : Qd) : Int := X2 Y9 (X2 Y9 (X2 Y9 Y9)) a.key b.key
theorem triQ : Tri Zx := Z7s (Vt triT (Vt triT (Vt triT triT))) Qd.key (fun a b h => by
 cases a; cases b; simp [Qd.key] at h; simp [h])
def orI : List Int → Int
 | [] => 0
 | x :: l => if x ≠ 0 then x else orI l
theorem Zad (a b : Tm) : orI [cmpI a.k b.k, cmpL a.t b.t, cmpL a.y b.y, cmpL a.l b.l] = Y9 a b := by
 simp only [orI, Y9, X2, Tm.key]
 (repeat' split) <;> simp_all
theorem Zae (a b : Qd) : orI [Y9 a.g b.g, Y9 a.s b.s, Y9 a.p b.p, Y9 a.o b.o] = Zx a b := by
 simp only [orI, Zx, X2, Qd.key]
 (repeat' split) <;> simp_all
abbrev Qd.row (q : Qd) : List SV := [.int .i64 q.s.k, .str q.s.t, .str q.s.y, .str q.s.l, .int .i64 q.p.k, .str q.p.t, .str q.p.y, .str q.p.l, .int .i64 q.o.k, .str q.o.t, .str q.o.y, .str q.o.l, .int .i64 q.g.k, .str q.g.t, .str q.g.y, .str q.g.l]
def Zc (q : Qd) : List SV := q.row
def Zv (x : Tm) : List SV := [.int .i64 x.k, .str x.t, .str x.y, .str x.l]
theorem Z5 (l : List Tm) : Zr (l.map Zv) = true := ZZ _ (fun _ => rfl) l
instance : PlF Zv := ⟨fun _ => rfl⟩
theorem Tm.ext' {a b : Tm} (h : Zv a = Zv b) : a = b := by
 obtain ⟨_, _, _, _⟩ := a
 obtain ⟨_, _, _, _⟩ := b
 simp only [Zv, List.cons.injEq, SV.int.injEq, SV.str.injEq, true_and, and_true] at h
 simp_all
def YR : Qd := ⟨ZC, ZC, ZC, ZC⟩
theorem Zl (l : List Qd) : Zr (l.map Zc) = true := ZZ _ (fun _ => rfl) l
instance : PlF Zc := ⟨fun _ => rfl⟩
theorem Z3q {α : Type} (f : α → List SV) (l z : List α) : (((l ++ z).map f).drop 0).take l.length = l.map f := by
 rw [List.drop_zero, List.map_append, List.take_append_of_le_length (by simp), List.take_of_length_le (by simp)]
theorem Z2k {α : Type} (f : α → List SV) (l : List α) (i : Nat) (x : α) : (l.map f).set i (f x) = (l.set i x).map f := by rw [List.map_set]
theorem Zq {α : Type} {f : α → List SV} {l : List α} {i j : Nat} (h : i < l.length) (hj : j = i) : (l.map f)[j]? = some (f l[i]) := by
 subst hj
 rw [List.getElem?_map, List.getElem?_eq_getElem h]; rfl
theorem Qd.ext' {a b : Qd} (h : Zc a = Zc b) : a = b := by
 obtain ⟨⟨_, _, _, _⟩, ⟨_, _, _, _⟩, ⟨_, _, _, _⟩, ⟨_, _, _, _⟩⟩ := a
 obtain ⟨⟨_, _, _, _⟩, ⟨_, _, _, _⟩, ⟨_, _, _, _⟩, ⟨_, _, _, _⟩⟩ := b
 simp only [Zc, Qd.row, List.cons.injEq, SV.int.injEq, SV.str.injEq, true_and, and_true] at h
 simp_all
end Go.Our
set_option linter.unusedSectionVars false
namespace Go.Our
section
variable {α : Type} {c : α → α → Int}
theorem Tri.lt_trans (h : Tri c) {x y z : α} (h1 : c x y < 0) (h2 : c y z ≤ 0) : c x z < 0 := by
 have h3 := h.trans x y z (by omega) h2
 rcases Int.lt_or_eq_of_le h3 with h4 | h4
 · exact h4
 · have e := (h.zero x z).1 h4
   subst e
   have := h.anti x y
   omega
theorem Tri.self (h : Tri c) (x : α) : c x x = 0 := (h.zero x x).2 rfl
theorem Tri.ne (h : Tri c) {x y : α} (hl : c x y < 0) : x ≠ y := fun e => by subst e; have := h.self x; omega
theorem Tri.gt (h : Tri c) {x y : α} (hl : ¬ c x y ≤ 0) : c y x < 0 := by have := h.anti x y; omega
def Rise (c : α → α → Int) (l : List α) : Prop := l.Pairwise fun a b => c a b < 0
theorem Z5f (h : Tri c) : ∀ {l m : List α}, Rise c l → Rise c m → (∀ x, x ∈ l ↔ x ∈ m) → l = m
 | [], [], _, _, _ => rfl
 | [], y :: m, _, _, he => by have := (he y).2 (by simp); simp at this
 | x :: l, [], _, _, he => by have := (he x).1 (by simp); simp at this
 | x :: l, y :: m, hl, hm, he => by
   have hl := List.pairwise_cons.1 hl
   have hm := List.pairwise_cons.1 hm
   have hxy : x = y := by
     rcases List.mem_cons.1 ((he x).1 (by simp)) with e | hx
     · exact e
     · rcases List.mem_cons.1 ((he y).2 (by simp)) with e | hy
       · exact e.symm
       · have h1 := hm.1 x hx
         have h2 := hl.1 y hy
         have := h.anti x y
         omega
   subst hxy
   congr 1
   refine Z5f h hl.2 hm.2 fun z => ⟨fun hz => ?_, fun hz => ?_⟩
   · rcases List.mem_cons.1 ((he z).1 (by simp [hz])) with e | h1
     · subst e; exact (h.ne (hl.1 _ hz) rfl).elim
     · exact h1
   · rcases List.mem_cons.1 ((he z).2 (by simp [hz])) with e | h1
     · subst e; exact (h.ne (hm.1 _ hz) rfl).elim
     · exact h1
end
section
variable {α : Type} [DecidableEq α] {c : α → α → Int}
def Z3 : List α → List α
 | [] => []
 | [a] => [a]
 | a :: b :: l => if a = b then Z3 (b :: l) else a :: Z3 (b :: l)
theorem VT : ∀ (l : List α) (x : α), x ∈ Z3 l ↔ x ∈ l
 | [], x => by simp [Z3]
 | [a], x => by simp [Z3]
 | a :: b :: l, x => by
   have ih := VT (b :: l) x
   unfold Z3
   split
   · rename_i e; subst e; rw [ih]; simp
   · rw [List.mem_cons, ih]; simp [List.mem_cons]
def leC (c : α → α → Int) (x y : α) : Bool := !(decide (c y x < 0))
theorem Va (h : Tri c) {x y : α} : leC c x y = true ↔ c x y ≤ 0 := by
 have := h.anti x y
 unfold leC
 simp only [Bool.not_eq_true', decide_eq_false_iff_not]
 omega
theorem W8 (h : Tri c) : ∀ (l : List α), l.Pairwise (fun a b => c a b ≤ 0) → Rise c (Z3 l)
 | [], _ => List.Pairwise.nil
 | [a], _ => by simp [Z3, Rise]
 | a :: b :: l, hp => by
   have hp' := List.pairwise_cons.1 hp
   have ih := W8 h (b :: l) hp'.2
   unfold Z3
   split
   · exact ih
   · rename_i hne
     refine List.pairwise_cons.2 ⟨fun x hx => ?_, ih⟩
     rw [VT] at hx
     have hab : c a b < 0 := by
       have h1 := hp'.1 b (by simp)
       have h2 : c a b ≠ 0 := fun e => hne ((h.zero a b).1 e)
       omega
     rcases List.mem_cons.1 hx with rfl | hx
     · exact hab
     · exact h.lt_trans hab ((List.pairwise_cons.1 hp'.2).1 x hx)
def setL (c : α → α → Int) (l : List α) : List α := Z3 (l.mergeSort (leC c))
theorem Jb (l : List α) (x : α) : x ∈ setL c l ↔ x ∈ l := by
 unfold setL
 rw [VT]
 exact List.mem_mergeSort
theorem Xh (h : Tri c) (l : List α) : Rise c (setL c l) := by
 refine W8 h _ ?_
 have := List.pairwise_mergeSort (le := leC c) (fun a b d h1 h2 => by rw [Va h] at *; exact h.trans a b d h1 h2) (fun a b => by
   have := h.anti a b
   rw [Bool.or_eq_true, Va h, Va h]; omega) l
 exact this.imp fun h1 => (Va h).1 h1
theorem Zaf (h : Tri c) {l m : List α} (hm : Rise c m) (he : ∀ x, x ∈ m ↔ x ∈ l) : m = setL c l := Z5f h hm (Xh h l) fun x => (he x).trans (Jb l x).symm
theorem JJ : ∀ (l : List α), (Z3 l).length ≤ l.length
 | [] => by simp [Z3]
 | [a] => by simp [Z3]
 | a :: b :: l => by
   have ih := JJ (b :: l)
   unfold Z3
   split
   · simp only [List.length_cons] at ih ⊢; omega
   · simp only [List.length_cons] at ih ⊢; omega
theorem Xe (l : List α) : (setL c l).length ≤ l.length := by
 have := JJ (l.mergeSort (leC c))
 rw [List.length_mergeSort] at this
 exact this
def XO (c : α → α → Int) (out : List α) (q : α) : List α := match out.getLast? with
 | none => [q]
 | some z => if c z q < 0 then out ++ [q] else out
def Y0 (c : α → α → Int) (out : List α) : List α → List α → List α
 | [], [] => out
 | x :: a, [] => Y0 c (XO c out x) a []
 | [], y :: b => Y0 c (XO c out y) [] b
 | x :: a, y :: b => if c x y ≤ 0 then Y0 c (XO c out x) a (y :: b) else Y0 c (XO c out y) (x :: a) b
termination_by a b => a.length + b.length
theorem Xo (h : Tri c) {out : List α} {q : α} (ho : Rise c out) (hq : ∀ x ∈ out, c x q ≤ 0) : Rise c (XO c out q) ∧ ∀ x, x ∈ XO c out q ↔ x ∈ out ∨ x = q := by
 unfold XO
 cases hg : out.getLast? with
 | none =>
   have : out = [] := List.getLast?_eq_none_iff.1 hg
   subst this
   exact ⟨by simp [Rise], by simp⟩
 | some z =>
   obtain ⟨pre, rfl⟩ := List.getLast?_eq_some_iff.1 hg
   simp only
   have ho' := List.pairwise_append.1 ho
   split
   · rename_i hz
     refine ⟨List.pairwise_append.2 ⟨ho, List.pairwise_singleton .., fun x hx y hy => ?_⟩, fun x => by simp only [List.mem_append, List.mem_singleton]⟩
     have hy := List.mem_singleton.1 hy
     subst hy
     rcases List.mem_append.1 hx with hx | hx
     · exact h.lt_trans (ho'.2.2 x hx z (by simp)) (by omega)
     · have := List.mem_singleton.1 hx; subst this; exact hz
   · rename_i hz
     have he : z = q := (h.zero z q).1 (by have := hq z (by simp); omega)
     subst he
     exact ⟨ho, fun x => by simp only [List.mem_append, List.mem_singleton]; grind⟩
theorem XP (h : Tri c) : ∀ (n : Nat) (out a b : List α), a.length + b.length = n → Rise c out → Rise c a → Rise c b → (∀ x ∈ out, ∀ y, y ∈ a ∨ y ∈ b → c x y ≤ 0) → Rise c (Y0 c out a b) ∧ ∀ x, x ∈ Y0 c out a b ↔ x ∈ out ∨ x ∈ a ∨ x ∈ b
 | n, out, [], [], hn, ho, ha, hb, hh => by unfold Y0; exact ⟨ho, by simp⟩
 | 0, out, x :: a, b, hn, _, _, _, _ => by simp at hn
 | 0, out, [], y :: b, hn, _, _, _, _ => by simp at hn
 | n + 1, out, x :: a, [], hn, ho, ha, hb, hh => by
   have ha' := List.pairwise_cons.1 ha
   obtain ⟨h1, h2⟩ := Xo h ho (q := x) fun z hz => hh z hz x (by simp)
   obtain ⟨h3, h4⟩ := XP h n (XO c out x) a [] (by simp at hn ⊢; omega) h1 ha'.2 hb (fun z hz y hy => by
     rcases (h2 z).1 hz with hz | rfl
     · exact hh z hz y (by simpa using Or.inr (by simpa using hy))
     · have : y ∈ a := by simpa using hy
       have := ha'.1 y this; omega)
   unfold Y0
   refine ⟨h3, fun z => ?_⟩
   rw [h4, h2]
   simp only [List.mem_cons, List.not_mem_nil, or_false]
   grind
 | n + 1, out, [], y :: b, hn, ho, ha, hb, hh => by
   have hb' := List.pairwise_cons.1 hb
   obtain ⟨h1, h2⟩ := Xo h ho (q := y) fun z hz => hh z hz y (by simp)
   obtain ⟨h3, h4⟩ := XP h n (XO c out y) [] b (by simp at hn ⊢; omega) h1 ha hb'.2 (fun z hz w hw => by
     have hw : w ∈ b := by simpa using hw
     rcases (h2 z).1 hz with hz | rfl
     · exact hh z hz w (by simp [hw])
     · have := hb'.1 w hw; omega)
   unfold Y0
   refine ⟨h3, fun z => ?_⟩
   rw [h4, h2]
   simp only [List.mem_cons, List.not_mem_nil, false_or]
   grind
 | n + 1, out, x :: a, y :: b, hn, ho, ha, hb, hh => by
   have ha' := List.pairwise_cons.1 ha
   have hb' := List.pairwise_cons.1 hb
   unfold Y0
   split
   · rename_i hxy
     obtain ⟨h1, h2⟩ := Xo h ho (q := x) fun z hz => hh z hz x (by simp)
     obtain ⟨h3, h4⟩ := XP h n (XO c out x) a (y :: b) (by simp at hn ⊢; omega) h1 ha'.2 hb (fun z hz w hw => by
       rcases (h2 z).1 hz with hz | rfl
       · exact hh z hz w (by rcases hw with hw | hw <;> simp [hw] <;> simp at hw <;> simp [hw])
       · rcases hw with hw | hw
         · have := ha'.1 w hw; omega
         · rcases List.mem_cons.1 hw with rfl | hw
           · exact hxy
           · exact h.trans _ _ _ hxy (by have := hb'.1 w hw; omega))
     refine ⟨h3, fun z => ?_⟩
     rw [h4, h2]
     simp only [List.mem_cons]
     grind
   · rename_i hxy
     have hyx := h.gt hxy
     obtain ⟨h1, h2⟩ := Xo h ho (q := y) fun z hz => hh z hz y (by simp)
     obtain ⟨h3, h4⟩ := XP h n (XO c out y) (x :: a) b (by simp at hn ⊢; omega) h1 ha hb'.2 (fun z hz w hw => by
       rcases (h2 z).1 hz with hz | rfl
       · exact hh z hz w (by rcases hw with hw | hw <;> simp [hw] <;> simp at hw <;> simp [hw])
       · rcases hw with hw | hw
         · rcases List.mem_cons.1 hw with rfl | hw
           · omega
           · exact h.trans _ x _ (by omega) (by have := ha'.1 w hw; omega)
         · have := hb'.1 w hw; omega)
     refine ⟨h3, fun z => ?_⟩
     rw [h4, h2]
     simp only [List.mem_cons]
     grind
end
end Go.Our
namespace Go.Our
section
variable {α : Type} {c : α → α → Int}
theorem Z5g : Rise c ([] : List α) := List.Pairwise.nil
def wanted (f b s p q : Prop) : Prop := (f ∧ p ∧ ¬ q) ∨ (b ∧ p ∧ q) ∨ (s ∧ ¬ p ∧ q)
end
section
variable {α : Type} [DecidableEq α] {c : α → α → Int}
theorem Z1H (h : Tri c) {xs ys l : List α} (hx : Rise c xs) (hy : Rise c ys) (hl : ∀ z, z ∈ l ↔ z ∈ xs ∨ z ∈ ys) : Y0 c [] xs ys = setL c l := by
 obtain ⟨h1, h2⟩ := XP h _ [] xs ys rfl Z5g hx hy (by simp)
 exact Zaf h h1 fun z => by rw [h2, hl]; simp
def Vb (c : α → α → Int) (l : List α) : List α := if l.length < 2 then l else Y0 c [] (Vb c (l.take (l.length / 2))) (Vb c (l.drop (l.length / 2)))
termination_by l.length
decreasing_by
 · simp only [List.length_take]; omega
 · simp only [List.length_drop]; omega
theorem Uk (h : Tri c) : ∀ (n : Nat) (l : List α), l.length ≤ n → Vb c l = setL c l
 | 0, l, hn => by
   have : l = [] := List.length_eq_zero_iff.1 (by omega)
   subst this
   unfold Vb
   simp [setL, Z3]
 | n + 1, l, hn => by
   unfold Vb
   split
   · match l with
     | [] => simp [setL, Z3]
     | [x] => simp [setL, Z3]
     | x :: y :: l => simp at *; omega
   · rw [Uk h n _ (by simp; omega), Uk h n _ (by simp; omega)]
     refine Z1H h (Xh h _) (Xh h _) fun z => ?_
     rw [Jb, Jb, ← List.mem_append, List.take_append_drop]
theorem Xp : ∀ {l : List α} {i : Nat} (h0 : 1 ≤ i) (h : i < l.length), Z3 (l.take (i + 1)) = if l[i] = l[i - 1]'(by omega) then Z3 (l.take i) else Z3 (l.take i) ++ [l[i]]
 | [], i, _, h => by simp at h
 | [a], i, h0, h => by simp at h; omega
 | a :: b :: l, 0, h0, h => by omega
 | a :: b :: l, 1, h0, h => by
   simp only [List.take_succ_cons, List.take_zero, Z3, List.getElem_cons_succ, List.getElem_cons_zero, Nat.sub_self]
   by_cases e : a = b
   · subst e; simp
   · rw [if_neg e, if_neg (fun h => e h.symm)]; rfl
 | a :: b :: l, i + 2, h0, h => by
   have hi : i + 1 < (b :: l).length := by simpa using h
   have ih := Xp (l := b :: l) (i := i + 1) (by omega) hi
   have e2 : (a :: b :: l)[i + 2 - 1]'(by simp at h ⊢; omega) = (b :: l)[i + 1 - 1]'(by simp at h ⊢; omega) := rfl
   have e3 : (a :: b :: l)[i + 2] = (b :: l)[i + 1] := rfl
   rw [e2, e3]
   simp only [List.take_succ_cons, Z3] at ih ⊢
   by_cases e : a = b
   · simp only [if_pos e]; exact ih
   · simp only [if_neg e, ih]
     split <;> simp
theorem VU {l : List α} (h : l.length < 2) : Z3 l = l := by
 match l, h with
 | [], _ => rfl
 | [a], _ => rfl
theorem Z0Q {l : List α} : Z3 (l.take 1) = l.take 1 := VU (by simp; omega)
end
end Go.Our
namespace Go.Sx
open Go Go.Sort Go.Shelf Go.Proofs
theorem HeapOK.later {M : Mx} {η : Env} {w w' : World} {O : Hps} {nx : Nat} (H : HeapOK M η w O nx) (hf : FrW w w' fun _ => False) : HeapOK M η w' O nx := by
 have hk : ∀ {i h}, lkp i O = some h → ∀ k, feet η w (.loc i) h k → w'.heap[k]? = w.heap[k]? := fun hi k f => hf.block k ((H.own.1 _ _ hi).1.feet_lt f) (fun h => h)
 have hb : ∀ {i h}, lkp i O = some h → ∀ k, feet η w' (.loc i) h k → feet η w (.loc i) h k := fun hi k f => H.stands List.prefix_rfl hi (hk hi) f
 exact ⟨H.pre, H.len, ⟨fun i h hi => ⟨(H.own.1 i h hi).1.keep (hk hi), fun k f => (H.own.1 i h hi).2 k (hb hi k f)⟩, fun i j h h' k hi hj hij f f' => H.own.2 i j h h' k hi hj hij (hb hi k f) (hb hj k f')⟩, H.fr.trans hf (fun n h => h.elim), H.sok⟩
theorem FrW.grown {w w' : World} (h : FrW w w' fun _ => False) : ∃ q os, w' = grow (w.drewN q) os := by
 refine ⟨w'.drawn - w.drawn, w'.heap.extract w.heap.size, ?_⟩
 have hd := h.drawn
 have e1 : w'.heap = w.heap ++ w'.heap.extract w.heap.size := by
   apply Array.ext_getElem?
   intro k
   rcases Nat.lt_or_ge k w.heap.size with hk | hk
   · rw [Array.getElem?_append_left hk]; exact h.block k hk (fun x => x)
   · rw [Array.getElem?_append_right hk, Array.getElem?_extract]
     simp only [Nat.min_self]
     split
     · rw [show w.heap.size + (k - w.heap.size) = k by omega]
     · rename_i hn
       exact Array.getElem?_eq_none (by omega)
 obtain ⟨heap, tape, drawn, os, output⟩ := w
 obtain ⟨heap', tape', drawn', os', output'⟩ := w'
 have h1 := h.os
 have h2 := h.tape
 have h3 := h.output
 simp only at h1 h2 h3 hd e1
 subst h1 h2 h3
 simp only [grow, World.drewN]
 rw [← e1]
 congr 1
 omega
section
variable {α : Type} [Inhabited α] (enc : α → List Value) (k : Nat)
theorem XQ (w : World) (blk off m : Nat) (dk : Array α) (os : Array Obj) : (sortWorldK enc k w blk off m dk os).heap = (mapBlock w blk (putCells id off (flatK enc k dk))).heap ++ os := by
 simp [sortWorldK, grow, putRowK, putRow, mapBlock, Sort.ahead]
theorem Vc (w : World) (blk off m : Nat) (dk : Array α) (os : Array Obj) : w.heap.size ≤ (sortWorldK enc k w blk off m dk os).heap.size := by
 rw [XQ]; simp [mapBlock]
theorem JV (w : World) (blk off m : Nat) (dk : Array α) (os : Array Obj) {g : Nat} (hg : g < w.heap.size) (hne : g ≠ blk) : (sortWorldK enc k w blk off m dk os).heap[g]? = w.heap[g]? := by
 rw [XQ, Array.getElem?_append_left (by simpa [mapBlock] using hg)]
 simp only [mapBlock, Array.getElem?_modify]
 rw [if_neg (fun h => hne h.symm)]
theorem Z1e (w : World) (blk off m : Nat) (dk : Array α) (os : Array Obj) {c : Array Value} {T : TypeId} {fz : Nat × Nat} (h : w.heap[blk]? = some (.cells c T fz)) : (sortWorldK enc k w blk off m dk os).heap[blk]? = some (.cells (putCells id off (flatK enc k dk) c) T fz) := by
 have hlt := (Array.getElem?_eq_some_iff.1 h).1
 rw [XQ, Array.getElem?_append_left (by simpa [mapBlock] using hlt)]
 simp only [mapBlock, Array.getElem?_modify, if_true, h, Option.map_eq_map, Option.map_some, onCells]
end
theorem Z7w {w : World} {g i : Nat} {c : Array Value} {T : TypeId} {fz : Nat × Nat} (h : w.heap[g]? = some (.cells c T fz)) : w.cell? ⟨g, i, none⟩ = c[i]? := by simp [World.cell?, h]
theorem Z63 {P : Program} {T : Tab} {α : Type} [Inhabited α] {enc : α → List Value} {k : Nat} {row : α → List SV} {g : FuncId} {cf : α → α → Int} {blk off size : Nat} {w : World} (hlone : T.globs.all (fun p => Z49 p.2) = true) (hblk : ∀ h, lkp blk T.globs ≠ some h)
   (hc : ∀ x y, Does P T g 0 [.agg (row x), .agg (row y)] [] [] (Val (.int .i64 (cf x y)))) (eg : ∀ args w, (callFunc g args).run P w = .ok (.enter g args) w)
   (hrow : ∀ η x, DenL η (row x) (enc x) ∧ ∀ u ∈ enc x, u.oneCell' = true) (hg : ∀ g h, lkp g T.globs = some h → HpSat [] w false (.glob g) h ∧ g < w.heap.size) : CmpLays P g #[] enc k cf blk off size w := by
 intro m os dk hdk x y
 have hg' : ∀ g h, lkp g T.globs = some h → HpSat [] (sortWorldK enc k w blk off m dk os) false (.glob g) h ∧ g < (sortWorldK enc k w blk off m dk os).heap.size := by
   intro g' h hh
   obtain ⟨h1, h2⟩ := hg g' h hh
   have hne : g' ≠ blk := fun e => hblk h (e ▸ hh)
   refine ⟨h1.keep fun n f => ?_, Nat.lt_of_lt_of_le h2 (Vc enc k w blk off m dk os)⟩
   have hlt := h1.feet_lt f
   obtain ⟨e, he, hf⟩ := f
   cases he
   rcases hf with rfl | hf
   · exact JV enc k w blk off m dk os hlt hne
   · exact (U5 (List.all_eq_true.1 hlone _ (V4 hh)) hf).elim
 have := Does.calls (hc x y) eg (vs := [.agg (enc x).toArray, .agg (enc y).toArray]) (w := sortWorldK enc k w blk off m dk os) (by
   simp only [DenL, Den]
   exact ⟨_, _, rfl, ⟨_, rfl, (hrow [] x).1, (hrow [] x).2⟩, _, _, rfl, ⟨_, rfl, (hrow [] y).1, (hrow [] y).2⟩, rfl⟩) hg'
 refine this.mono ?_
 rintro e w' ⟨v, rfl, hv, hf⟩
 simp only [Den] at hv
 subst hv
 exact ⟨rfl, hf.grown⟩
theorem Z1I {α : Type} [Inhabited α] {enc : α → List Value} {k : Nat} (hk : ∀ x, (enc x).length = k) {l : List α} {i j : Nat} {x : α} (hi : l[i]? = some x) (hj : j < k) : (flatK enc k l.toArray)[i * k + j]! = (enc x)[j]! ∧ i * k + j < l.length * k := by
 have hil := (List.getElem?_eq_some_iff.1 hi).1
 have hlt : i * k + j < l.length * k := by
   have : (i + 1) * k ≤ l.length * k := Nat.mul_le_mul_right k hil
   rw [Nat.succ_mul] at this
   omega
 refine ⟨?_, hlt⟩
 rw [get_flatK _ _ _ _ (by simpa using hlt)]
 have h1 : (i * k + j) / k = i := by rw [Nat.mul_comm, Nat.mul_add_div (by omega), Nat.div_eq_of_lt hj, Nat.add_zero]
 have h2 : (i * k + j) % k = j := by rw [Nat.mul_comm, Nat.mul_add_mod]; exact Nat.mod_eq_of_lt hj
 rw [h1, h2]
 congr 1
 have := (List.getElem?_eq_some_iff.1 hi).2
 simp [hil, this]
theorem Z2l {P : Program} {T : Tab} {ρ : Ren} {α : Type} [Inhabited α] (hT : TabOK P T) (L : SlLaysF0.n6 P ρ) (L' : SlLaysF0.n6 P ρ) {enc : α → List Value} {k : Nat} {row : α → List SV} {g : FuncId} {cf : α → α → Int}
   (aE : ∀ w, (isAgg (ρ.t 24)).run P w = .ok true w) (zE : ∀ w, (Go.sizeOf (ρ.t 24)).run P w = .ok k w) (hk : ∀ x, (enc x).length = k ∧ (row x).length = k) (hk0 : 0 < k) (hO : SWO (ltOf cf)) (hTo : ∀ x y, (ltOf cf) x y = false → (ltOf cf) y x = false → x = y)
   (hlone : T.globs.all (fun p => Z49 p.2) = true) (hc : ∀ x y, Does P T g 0 [.agg (row x), .agg (row y)] [] [] (Val (.int .i64 (cf x y)))) (eg : ∀ args w, (callFunc g args).run P w = .ok (.enter g args) w) (ef : ∀ args w, (callFunc (ρ.f 6) args).run P w = .ok (.enter (ρ.f 6) args) w)
   (hrow : ∀ η x, DenL η (row x) (enc x) ∧ ∀ u ∈ enc x, u.oneCell' = true) (hrow' : ∀ η x vs, DenL η (row x) vs → vs = enc x) (l : List α) (hl : l.length < 4611686018427387904) :
   Does P T (ρ.f 6) 1 [.sl (.loc 0) 0 k l.length none, .fn (.func g) [] []] [(0, .rows k (l.map row))] [] (fun r O nx => r = .tup [] ∧ O = [(0, .rows k ((l.mergeSort fun x y => !(ltOf cf) y x).map row))] ∧ nx = 1) := by
 refine ⟨fun M vs hP hT' hF hS H hd => .inl ⟨ρ.f 6, by rw [hP]; exact ef _ _, ?_⟩⟩
 obtain ⟨P', ⟨T', N', S', ro'⟩, w0, F, η0⟩ := M
 simp only at hP hT' hF hS H hd ⊢
 subst hP hT'
 simp only [DenL] at hd
 obtain ⟨v, us, rfl, hv, f, us', rfl, hf, rfl⟩ := hd
 simp only [Den] at hf
 obtain ⟨ff, fc, rfl, hff, hfc⟩ := hf
 simp only [DenL] at hff hfc
 subst hff hfc
 have hsat := (H.own.1 0 _ rfl).1
 have hgl : ∀ g h, lkp g T'.globs = some h → HpSat [] w0 false (.glob g) h ∧ g < w0.heap.size := by
   intro g' h hh
   have hp : XT h = true := List.all_eq_true.1 T'.gplain _ (V4 hh)
   have h1 := H.shared (b := .glob g') hh
   refine ⟨h1.plain hp, h1.feet_lt ⟨⟨g', 0, 0⟩, rfl, .inl rfl⟩⟩
 simp only [HpSat, Env.get] at hsat
 simp only [Den, Env.get] at hv
 have fin : ∀ w' (O' : Hps), FrW w0 w' F → HpSat η0 w' true (.loc 0) (.rows k ((l.mergeSort fun x y => !(ltOf cf) y x).map row)) →
     ∃ r O' nx' η', (r = SV.tup [] ∧ O' = [(0, Hp.rows k ((l.mergeSort fun x y => !(ltOf cf) y x).map row))] ∧ nx' = 1) ∧ η0 <+: η' ∧ HeapOK ⟨P', ⟨T', N', S', ro'⟩, w0, F, η0⟩ η' w' O' nx' ∧ Den η' r (.tuple #[]) := by
   intro w' O' hfr hs
   refine ⟨_, _, _, η0, ⟨rfl, rfl, rfl⟩, List.prefix_rfl, ⟨H.pre, H.len, ⟨fun i h hi => ?_, fun i j h h' k hi hj hij f f' => ?_⟩, hfr, H.sok⟩, ?_⟩
   · rw [Z7] at hi
     split at hi
     · rename_i e; subst e
       injection hi with hi; subst hi
       refine ⟨hs, fun n f => (H.own.1 0 _ rfl).2 n ?_⟩
       obtain ⟨e, h1, h2⟩ := f
       exact ⟨e, h1, h2⟩
     · simp [lkp] at hi
   · rw [Z7] at hi hj
     split at hi
     · rename_i e; subst e
       split at hj
       · rename_i e2; exact (hij e2.symm).elim
       · simp [lkp] at hj
     · simp [lkp] at hi
   · simp only [Den, DenL]; exact ⟨[], rfl, rfl⟩
 rcases hsat with ⟨hn, hnil⟩ | ⟨e, arr, Tt, fz, he, hheap, hown, hcells⟩
 ·
   have hl0 : l = [] := by simpa using hnil
   subst hl0
   have hv2 : v = .slice none 0 0 := by
     rcases hv with ⟨_, h, _⟩ | ⟨e, o, h, _⟩
     · exact h
     · rw [hn] at h; cases h
   subst hv2
   refine (AnyF.slices_SortFunc_none L' none 0 _ w0).mono ?_
   rintro e w' ⟨rfl, rfl⟩
   refine ⟨_, rfl, fin _ [] (FrW.refl _ _) ?_⟩
   simp only [HpSat, Env.get]
   exact .inl ⟨hn, by simp⟩
 · obtain ⟨hun, hsz, hle, hb0⟩ := hown trivial
   obtain ⟨hel, hvv⟩ : l.length ≤ e.cap ∧ v = .slice (some ⟨e.g, 0, none⟩) l.length e.cap := by
     rcases hv with ⟨h, _⟩ | ⟨e', o, h, h2, h3, h4, h5⟩
     · rw [he] at h; cases h
     · rw [he] at h; cases h
       simp only [Option.getD_none, Nat.zero_add, Nat.sub_zero] at h2 h3
       have := h5 (.inr trivial)
       rw [hb0] at this
       simp only [Nat.zero_mul, Nat.add_zero] at this
       subst this
       exact ⟨h3, h2⟩
   subst hvv
   have hblk : e.g < w0.heap.size := (Array.getElem?_eq_some_iff.1 hheap).1
   have hcell : ∀ (i : Nat) (x : α) (j : Nat), l[i]? = some x → j < k → arr[i * k + j]? = some (enc x)[j]! := by
     intro i x j hi hj
     obtain ⟨h1, h2⟩ := hcells i (row x) (by rw [List.getElem?_map, hi]; rfl)
     have hlen := (hk x).2
     have hen := (hk x).1
     have hall : ∀ (j : Nat) (c : SV), (row x)[j]? = some c → ∃ u, ((List.range k).map fun j => arr.getD (i * k + j) undef)[j]? = some u ∧ Den η0 c u := by
       intro j c hj
       have hjk : j < k := by have := (List.getElem?_eq_some_iff.1 hj).1; omega
       obtain ⟨u, h3, h4, h5⟩ := h2 j c hj
       rw [hb0, Nat.zero_add] at h3
       refine ⟨u, ?_, h5⟩
       rw [List.getElem?_map, List.getElem?_range hjk]
       simp only [Option.map_some, Array.getD_eq_getD_getElem?, h3, Option.getD_some]
     have hvs := hrow' η0 x _ (VL (by simp [hlen]) hall)
     have hjr : j < (row x).length := by omega
     obtain ⟨u, h3, h4, h5⟩ := h2 j ((row x)[j]) (List.getElem?_eq_getElem hjr)
     rw [hb0, Nat.zero_add] at h3
     have h6 : (enc x)[j]! = u := by
       rw [← hvs]
       have : ((List.range k).map fun j => arr.getD (i * k + j) undef)[j]? = some u := by
         rw [List.getElem?_map, List.getElem?_range hj]
         simp only [Option.map_some, Array.getD_eq_getD_getElem?, h3, Option.getD_some]
       rw [List.getElem!_eq_getElem?_getD, this]; rfl
     rw [h3, h6]
   have split : ∀ t, t < l.length * k → ∃ x, l[t / k]? = some x ∧ t % k < k ∧ t / k * k + t % k = t := by
     intro t ht
     have h1 : t / k < l.length := Nat.div_lt_of_lt_mul (by rw [Nat.mul_comm]; exact ht)
     exact ⟨l[t / k], List.getElem?_eq_getElem h1, Nat.mod_lt _ hk0, by rw [Nat.mul_comm]; exact Nat.div_add_mod t k⟩
   have hsize : l.length * k ≤ arr.size := by rw [hsz]; exact Nat.mul_le_mul_right _ hel
   have hH : HoldsK enc k w0 e.g 0 l.toArray := by
     intro t ht
     rw [size_flatK, List.size_toArray] at ht
     obtain ⟨x, h1, h2, h3⟩ := split t ht
     have h4 := hcell _ x _ h1 h2
     have h5 := (Z1I (enc := enc) (fun x => (hk x).1) h1 h2).1
     rw [h3] at h4 h5
     refine ⟨by rw [Nat.zero_add, Z7w hheap, h4, h5]; rfl, ?_⟩
     have := hun t (by omega)
     simp only [World.frozen?, hheap, Nat.zero_add]
     simpa using this
   have hFg : F e.g := by
     rcases (H.own.1 0 _ rfl).2 e.g ⟨e, he, .inl rfl⟩ with h | h
     · exact h
     · have h : w0.heap.size ≤ e.g := h
       omega
   have hcl : CmpLays P' g #[] enc k cf e.g 0 l.toArray.size w0 := Z63 hlone (fun h hh => (H.sok (.glob e.g) h hh).2 e.g ⟨⟨e.g, 0, 0⟩, rfl, .inl rfl⟩ |>.2 hFg) hc eg (fun η x => hrow η x) hgl
   have hmain := AnyQ.slices_SortFunc_total L k aE zE enc (fun x => (hk x).1) (fun x u hu => (hrow [] x).2 u hu) cf hO g #[] e.g 0 e.cap l.toArray w0 eg hcl hH hblk (by simpa using hl) hTo
   rw [List.size_toArray] at hmain
   refine hmain.mono ?_
   rintro e1 w' ⟨rfl, n, os, rfl⟩
   refine ⟨_, rfl, fin _ [] ?_ ?_⟩
   · refine ⟨rfl, rfl, rfl, ?_, Vc .., fun b hb hnF => JV enc k w0 e.g 0 n _ os hb (fun e => hnF (e ▸ hFg))⟩
     simp [sortWorldK, grow, putRowK, putRow, mapBlock, Sort.ahead]
   · simp only [HpSat, Env.get]
     have hsl : (l.mergeSort fun x y => !(ltOf cf) y x).length = l.length := List.length_mergeSort l
     refine .inr ⟨e, _, Tt, fz, he, Z1e enc k w0 e.g 0 n _ os hheap, fun _ => ⟨?_, ?_, ?_, hb0⟩, fun i rw1 hi => ?_⟩
     · simp only [putCells, Array.size_mapIdx]; exact hun
     · simp only [putCells, Array.size_mapIdx]; exact hsz
     · rw [List.length_map, hsl]; exact hel
     · rw [List.getElem?_map] at hi
       obtain ⟨x, hx, rfl⟩ := Option.map_eq_some_iff.1 hi
       refine ⟨(hk x).2, fun j sv hj => ?_⟩
       have hjk : j < k := by have := (List.getElem?_eq_some_iff.1 hj).1; have := (hk x).2; omega
       obtain ⟨h5, h6⟩ := Z1I (enc := enc) (fun x => (hk x).1) hx hjk
       rw [hsl] at h6
       obtain ⟨u, h7, h8⟩ := YL (hrow η0 x).1 hj
       refine ⟨u, ?_, (hrow η0 x).2 u (List.mem_of_getElem? h7), h8⟩
       have hlt : i * k + j < arr.size := by omega
       rw [hb0, Nat.zero_add]
       simp only [putCells, Array.getElem?_mapIdx, Array.getElem?_eq_getElem hlt, Option.map_some, Nat.zero_le, true_and, Nat.zero_add, size_flatK, List.size_toArray, hsl, h6, if_true, Nat.sub_zero]
       rw [h5, List.getElem!_eq_getElem?_getD, h7]
       rfl
end Go.Sx
namespace Go.Sx
open Go
def Mx.at (M : Mx) (N : Nat) (ro : Option (Nat × Nat)) (η : Env) : Mx := ⟨M.P, ⟨M.C.T, N, M.C.S, ro⟩, M.w0, M.F, η⟩
def endI (M : Mx) (res : List ResultVar) (K : SV → Hps → Nat → Prop) : Post
 | .normal, fr, O, nx => Z2c fr O fun O => Z1a M.C fr O res fun vs => K (Z2b vs) O nx
 | .ret, fr, O, nx => Z2c fr O fun O => Z1a M.C fr O res fun vs => K (Z2b vs) O nx
 | .exit _, _, _, _ => STOP "exit"
def Z7x : List Nat → List SV → Fr → (Fr → Prop) → Prop
 | [], ags, fr, K => match ags with
   | [] => match Z4e (lkp DS fr) with
     | true => STOP "round"
     | false => K fr
   | _ :: _ => STOP "round"
 | p :: ps, ags, fr, K => match ags with
   | a :: ags => Z7x ps ags ((p, a) :: fr) K
   | [] => STOP "round"
def Z7y (j : Nat) (K : SV → Hps → Nat → Prop) : Post := fun e fr O nx => match lkp j O with
 | some h => match h with
   | .lp st li fr0 => match st with
     | .busy => match e with
       | .normal => Z19 j (.lp .ready li fr0) O fun O => K (.bool true) O nx
       | .ret => Z19 j (.lp (.left none) li fr0) O fun O => K (.bool false) O nx
       | .exit id => Z19 j (.lp (.left (some id)) li fr0) O fun O => K (.bool false) O nx
     | _ => STOP "record"
   | _ => STOP "record"
 | none => STOP "record"
def Zag (M : Mx) (j : Nat) (body : Code) (K : SV → Hps → Nat → Prop) : Post := fun e fr O nx => match e with
 | .normal => match lkp j O with
   | some h => match h with
     | .lp st li fr0 => match st with
       | .ready => Z19 j (.lp .busy li fr0) O fun O => run M body fr O nx (Z7y j K)
       | _ => STOP "record"
     | _ => STOP "record"
   | none => STOP "record"
 | _ => STOP "assignment"
def noDS : Fr → (Fr → Prop) → Prop
 | [], K => K []
 | (t, v) :: r, K => match Nat.beq t DS with
   | true => noDS r K
   | false => noDS r fun r => K ((t, v) :: r)
def Z9a (fr : Fr) (d : Nat) (K : Fr → Prop) : Prop := match lkp DS fr with
 | some v => match v with
   | .dfs l => K ((DS, .dfs (.ptr (.loc d) 0 0 0 :: l)) :: fr)
   | _ => K ((DS, .dfs [.ptr (.loc d) 0 0 0]) :: fr)
 | none => K ((DS, .dfs [.ptr (.loc d) 0 0 0]) :: fr)
def Z7z (j : Nat) (frK : (Fr → Prop) → Prop) (Q : Post) : SV → Hps → Nat → Prop := fun _ O nx => match lkp j O with
 | some h => match h with
   | .lp st _ _ => match st with
     | .ready => WX j O fun O => frK fun fr => Q .normal fr O nx
     | .busy => STOP "record"
     | .left jump => match jump with
       | none => WX j O fun O => frK fun fr => Q .ret fr O nx
       | some id => WX j O fun O => frK fun fr => Q (.exit id) fr O nx
   | _ => STOP "record"
 | none => STOP "record"
section
variable {M : Mx} {η : Env} {w : World} {O : Hps} {nx : Nat}
theorem SOK.longer (h : SOK M) {η : Env} (hp : M.η0 <+: η) {N : Nat} {ro : Option (Nat × Nat)} : SOK (M.at N ro η) := by
 intro b hh hb
 have hb' : lkS M.C b = some hh := by cases b <;> exact hb
 obtain ⟨h1, h2⟩ := h b hh hb'
 obtain ⟨x, hx, _⟩ := h1.lt
 exact ⟨h1.mono hp, fun k f => h2 k (feet.less hp hx f)⟩
theorem HeapOK.at (H : HeapOK M η w O nx) {N : Nat} {ro : Option (Nat × Nat)} : HeapOK (M.at N ro η) η w O nx := ⟨List.prefix_rfl, H.len, H.own, H.fr, H.sok.longer H.pre⟩
theorem HeapOK.back {η0 : Env} {N : Nat} {ro : Option (Nat × Nat)} (H : HeapOK (M.at N ro η0) η w O nx) (hp : M.η0 <+: η0) (hs : SOK M) : HeapOK M η w O nx := ⟨hp.trans H.pre, H.len, H.own, H.fr, hs⟩
theorem Z3s (hT : TabOK M.P M.C.T) {g : FuncId} {fn : Func} {c : Code} (hf : M.P.funcs[g]? = some fn) (hb : fn.body = some c) (N : Nat) (hN : fn.ntmps = N) (hND : N ≤ DS) {args : List SV} (hlen : args.length ≤ N) {res : List ResultVar} (hres : fn.results = res.toArray)
   {K : SV → Hps → Nat → Prop} {vs : List Value} (H : HeapOK M η w O nx) (hd : DenL η args vs) (h : run (M.at N none η) c (Vx 0 args) O nx (endI (M.at N none η) res K))
   {R : Ending → World → Prop} (hR : ∀ v r w' O' nx' η', η <+: η' → HeapOK M η' w' O' nx' → Den η' r v → K r O' nx' → R (.returned v) w') : Calls M.P g ⟨vs⟩ w R := by
 have hl := ZE hd
 refine callsIn_wide (n := 0) |>.1 (callsIn_of_wp_marks hf hb trivial ?_)
 have hm : Models (M.at N none η) η (Vx 0 args) O nx { tmps := ⟨vs⟩ ++ Array.replicate (fn.ntmps - (Array.mk vs).size) undef, defers := [] } w := by
   refine ⟨H.at, ?_, hND, Z54 (Nat.le_trans hlen hND), (fun l j h => by cases h), ?_⟩
   · simp only [Array.size_append, Array.size_replicate, hN, List.size_toArray]
     show vs.length + (N - vs.length) = N
     omega
   · intro t sv ht
     obtain ⟨v, _, h1, h2⟩ := Z2d hd ht
     have hlt := (List.getElem?_eq_some_iff.1 h1).1
     simp only [Nat.sub_zero] at h1 hlt
     rw [Array.getD_eq_getD_getElem?, Array.getElem?_append_left (by simpa using hlt)]
     have : (Array.mk vs)[t]? = some v := by simpa using h1
     rw [this]; exact h2
 refine Code.wpIn_mono ?_ (ZT (M := M.at N none η) hT c h η _ w hm)
 have fin : ∀ {η1 : Env} {fr1 : Fr} {O1 : Hps} {nx1 : Nat} {a : Act} {w1 : World}, Models (M.at N none η) η1 fr1 O1 nx1 a w1 → (Z2c fr1 O1 fun O1 => Z1a (M.at N none η).C fr1 O1 res fun vs => K (Z2b vs) O1 nx1) →
     LeavesInM Fence.wide 0 M.P fn a.tmps R a.defers .returning w1 := by
   intro η1 fr1 O1 nx1 a w1 hm1 hr
   exact Z3e (M := M.at N none η) hT hres hm1 hr fun w2 O2 v r H2 hd2 hk => hR v r w2 O2 nx1 η1 H2.pre (H2.back H.pre H.sok) hd2 hk
 intro e a w hq
 cases e with
 | normal => obtain ⟨η1, fr1, O1, nx1, hm1, hq⟩ := hq; exact fin hm1 hq
 | ret => obtain ⟨η1, fr1, O1, nx1, hm1, hq⟩ := hq; exact fin hm1 hq
 | exit id => obtain ⟨η1, fr1, O1, nx1, hm1, hq⟩ := hq; exact hq.out.elim
 | goto l => exact hq.elim
 | panic ch => exact hq.elim
 | outgrown => exact hq.elim
def J0 : List Nat → List Value → Array Value → Array Value
 | p :: ps, v :: vs, t => J0 ps vs (t.setIfInBounds p v)
 | _, _, t => t
theorem Z3t : ∀ (ps : List Nat) (vs : List Value) (t : Array Value), ((ps.toArray.zip ⟨vs⟩).foldl (fun tmps (p : Nat × Value) => tmps.setIfInBounds p.1 p.2) t) = J0 ps vs t := by
 intro ps vs t
 have h1 : (ps.toArray.zip ⟨vs⟩ : Array (Nat × Value)) = (ps.zip vs).toArray := by simp
 rw [h1, ← Array.foldl_toList]
 simp only
 induction ps generalizing vs t with
 | nil => simp [J0]
 | cons p ps ih =>
   cases vs with
   | nil => simp [J0]
   | cons v vs =>
     simp only [List.zip_cons_cons, List.foldl_cons, J0]
     exact ih vs (t.setIfInBounds p v) (by simp)
theorem Z0R : ∀ (ps : List Nat) (vs : List Value) (t : Array Value), (J0 ps vs t).size = t.size
 | [], vs, t => by simp [J0]
 | p :: ps, [], t => by simp [J0]
 | p :: ps, v :: vs, t => by simp only [J0]; rw [Z0R ps vs]; simp
theorem Z5h {η : Env} : ∀ {ps : List Nat} {ags : List SV} {fr : Fr} {K : Fr → Prop} {vs : List Value} {t : Array Value}, Z7x ps ags fr K → DenL η ags vs → TmpsOK η t fr → (∀ p ∈ ps, p < t.size) → ∃ fr', K fr' ∧ Z4e (lkp DS fr') = false ∧ TmpsOK η (J0 ps vs t) fr' ∧ vs.length = ps.length
 | [], ags, fr, K, vs, t, h, hd, ht, hp => by
   simp only [Z7x] at h
   split at h
   · split at h
     · exact h.out.elim
     · rename_i hn
       simp only [DenL] at hd
       subst hd
       exact ⟨fr, h, hn, ht, rfl⟩
   · exact h.out.elim
 | p :: ps, ags, fr, K, vs, t, h, hd, ht, hp => by
   simp only [Z7x] at h
   split at h
   · rename_i a ags
     simp only [DenL] at hd
     obtain ⟨u, us, rfl, h1, h2⟩ := hd
     have hpt := hp p (List.mem_cons_self ..)
     obtain ⟨fr', h3, h4, h5, h6⟩ := Z5h (t := t.setIfInBounds p u) h h2 (fun s sv hs => by
       rw [Z7] at hs
       split at hs
       · rename_i e; subst e; injection hs with hs; subst hs
         simpa [Array.getD_eq_getD_getElem?, Array.getElem?_setIfInBounds, hpt] using h1
       · rename_i e
         rw [Array.getD_eq_getD_getElem?, Array.getElem?_setIfInBounds, if_neg (Ne.symm e), ← Array.getD_eq_getD_getElem?]
         exact ht s sv hs) (fun q hq => by rw [Array.size_setIfInBounds]; exact hp q (List.mem_cons_of_mem _ hq))
     exact ⟨fr', h3, h4, h5, by simp [h6]⟩
   · exact h.out.elim
theorem HeapOK.record (H : HeapOK M η w O nx) {j : Nat} {st st' : LpS} {li : LpI} {fr0 : Fr} (hj : lkp j O = some (.lp st li fr0)) {e : Ent} (he : η[j]? = some (some e)) :
   ∃ r, w.heap[e.g]? = some (.loop r) ∧ r.state = st.state ∧ r.pending = st.jump ∧ ∀ r' : Loop, r'.state = st'.state → r'.pending = st'.jump → r'.params = r.params → r'.assign = r.assign → r'.body = r.body → r'.tmps = r.tmps → HeapOK M η (w.putObj e.g (.loop r')) (setK j (.lp st' li fr0) O) nx := by
 have hs := (H.own.1 j _ hj).1
 simp only [HpSat] at hs
 obtain ⟨e', r, h1, h2, h3, h4, h5, h6, h7, h8, h9, h10⟩ := hs
 have h1' : η[j]? = some (some e') := h1
 rw [he] at h1'
 injection h1' with h1'
 injection h1' with h1'
 subst h1'
 have hlt := (Array.getElem?_eq_some_iff.1 h3).1
 refine ⟨r, h3, h4, h5, fun r' q1 q2 q3 q4 q5 q6 => ?_⟩
 refine H.upd hj he (fun k hk => World.putObj_heap_other hk) World.putObj_size rfl rfl rfl ?_
 simp only [HpSat]
 exact ⟨e, r', h1, h2, World.putObj_heap_same hlt, q1, q2, by rw [q3]; exact h6, by rw [q4]; exact h7, by rw [q5]; exact h8, by rw [q6]; exact h9, by rw [q6]; exact h10⟩
theorem YIELD.of (hT : TabOK M.P M.C.T) {j : Nat} {li : LpI} {fr0 : Fr} {args : List SV} {K : SV → Hps → Nat → Prop} (hj : lkp j O = some (.lp .ready li fr0)) (hps : li.ps.all (fun p => Nat.blt p li.N) = true) (hND : Nat.ble li.N DS = true)
   (h : ∀ (η1 : Env) (l : Nat), η1.length = nx → Z7x li.ps args fr0 fun fr => run (M.at li.N (some (l, j)) η1) li.asg fr O nx (Zag (M.at li.N (some (l, j)) η1) j li.body K)) : YIELD M j args O nx K := by
 refine ⟨fun η w vs e H hd he => ?_⟩
 obtain ⟨r, hr, hst, hpe, _⟩ := H.record (st' := .ready) hj he
 have hs := (H.own.1 j _ hj).1
 simp only [HpSat] at hs
 obtain ⟨e', r', h1, h2, h3, h4, h5, h6, h7, h8, h9, h10⟩ := hs
 have h1' : η[j]? = some (some e') := h1
 rw [he] at h1'
 injection h1' with h1'
 injection h1' with h1'
 subst h1'
 rw [hr] at h3
 injection h3 with h3
 injection h3 with h3
 subst h3
 obtain ⟨fr, hrun, hnd, htm, hlen⟩ := Z5h (h η e.g H.len) hd h10 (fun p hp => by rw [h9]; simpa [Nat.blt_eq] using List.all_eq_true.1 hps p hp)
 have hpr : r.params = li.ps.toArray := by rw [← h6]
 refine ⟨r.fn, _, r.assign, r.body, run_yield hr (by rw [hpr]; simpa using hlen), ?_⟩
 rw [h7, h8]
 have hfold : ((r.params.zip ⟨vs⟩).foldl (fun tmps (x : Nat × Value) => tmps.setIfInBounds x.1 x.2) r.tmps) = J0 li.ps vs r.tmps := by rw [hpr]; exact Z3t li.ps vs r.tmps
 have hfold' : ((r.params.zip ⟨vs⟩).foldl (fun tmps x => match x with | (t, a) => tmps.setIfInBounds t a) r.tmps) = J0 li.ps vs r.tmps := hfold
 rw [hfold']
 generalize hMr : M.at li.N (some (e.g, j)) η = Mr at hrun
 have hTr : TabOK Mr.P Mr.C.T := by subst hMr; exact hT
 have hPr : Mr.P = M.P := by subst hMr; rfl
 have hfr : Mr.fence = Fence.wide.inRound e.g := by subst hMr; rfl
 have hm : Models Mr η fr O nx { tmps := J0 li.ps vs r.tmps, defers := [] } w := by
   subst hMr
   refine ⟨H.at, by rw [Z0R]; exact h9, Nat.le_of_ble_eq_true hND, (DfOK.no hnd).2 rfl, fun l' j' hl => ?_, htm⟩
   injection hl with hl
   injection hl with hl1 hl2
   subst hl1 hl2
   exact ⟨e, he, rfl⟩
 refine roundIn_of_wpIn trivial ?_
 rw [← hPr, ← hfr]
 refine Code.wpIn_mono ?_ (ZT hTr li.asg hrun η _ w hm)
 intro ex a1 w1 hq
 cases ex with
 | exit id => obtain ⟨η1, fr1, O1, nx1, hm1, hq⟩ := hq; exact hq.out.elim
 | ret => obtain ⟨η1, fr1, O1, nx1, hm1, hq⟩ := hq; exact hq.out.elim
 | goto l => exact hq.elim
 | panic ch => exact hq.elim
 | outgrown => exact hq.elim
 | normal =>
   obtain ⟨η1, fr1, O1, nx1, hm1, hq⟩ := hq
   simp only [Zag] at hq
   split at hq
   case h_2 => exact hq.out.elim
   rename_i hh hj1
   split at hq
   case h_2 => exact hq.out.elim
   rename_i st1 li1 fr01
   split at hq
   case h_2 => exact hq.out.elim
   rw [Xk] at hq
   obtain ⟨e1, he1, heg⟩ := hm1.ro e.g j (by subst hMr; rfl)
   obtain ⟨r1, hr1, hs1, hp1, hup1⟩ := hm1.heap.record (st' := .busy) hj1 he1
   rw [heg] at hr1 hup1
   refine ⟨_, run_beginRound hr1 hs1, ?_⟩
   have hm2 : Models Mr η1 fr1 (setK j (.lp .busy li1 fr01) O1) nx1 a1 (w1.putObj e.g (.loop { r1 with state := .busy })) := ⟨hup1 _ rfl hp1 rfl rfl rfl rfl, hm1.size, hm1.nds, hm1.defers, hm1.ro, hm1.frame⟩
   refine Code.wpIn_mono ?_ (ZT hTr li.body hq η1 a1 _ hm2)
   have fin : ∀ {ex : Ex} {η2 : Env} {fr2 : Fr} {O2 : Hps} {nx2 : Nat} {a2 : Act} {w2 : World} (jump : Option Code), Models Mr η2 fr2 O2 nx2 a2 w2 → Z7y j K ex fr2 O2 nx2 → (match ex with | .normal => jump = none | .ret => jump = some .ret | .exit id => jump = some (.exit id)) →
       ∃ v w', (Instr.endRound e.g jump).run Mr.P w2 = .ok v w' ∧ ∃ v', Ending.returned v = .returned v' ∧ ∃ r O' nx' η', η <+: η' ∧ HeapOK M η' w' O' nx' ∧ Den η' r v' ∧ K r O' nx' := by
     intro ex η2 fr2 O2 nx2 a2 w2 jump hm2 hq hj'
     unfold Z7y at hq
     split at hq
     case h_2 => exact hq.out.elim
     rename_i hh hj2
     split at hq
     case h_2 => exact hq.out.elim
     rename_i st2 li2 fr02
     split at hq
     case h_2 => exact hq.out.elim
     obtain ⟨e2, he2, heg2⟩ := hm2.ro e.g j (by subst hMr; rfl)
     have hpre : η <+: η2 := by have := hm2.heap.pre; subst hMr; exact this
     have back : ∀ {w' : World} {O' : Hps}, HeapOK Mr η2 w' O' nx2 → HeapOK M η2 w' O' nx2 := fun h => by subst hMr; exact h.back H.pre H.sok
     cases ex with
     | normal =>
       simp only at hj'
       subst hj'
       simp only [Xk] at hq
       obtain ⟨r2, hr2, hs2, hp2, hup2⟩ := hm2.heap.record (st' := .ready) hj2 he2
       rw [heg2] at hr2 hup2
       exact ⟨_, _, run_endRound none hr2, _, rfl, .bool true, _, _, η2, hpre, back (hup2 _ rfl rfl rfl rfl rfl rfl), (by simp only [Den]; rfl), hq⟩
     | ret =>
       simp only at hj'
       subst hj'
       simp only [Xk] at hq
       obtain ⟨r2, hr2, hs2, hp2, hup2⟩ := hm2.heap.record (st' := .left none) hj2 he2
       rw [heg2] at hr2 hup2
       exact ⟨_, _, run_endRound (some .ret) hr2, _, rfl, .bool false, _, _, η2, hpre, back (hup2 _ rfl rfl rfl rfl rfl rfl), (by simp only [Den]; rfl), hq⟩
     | exit id =>
       simp only at hj'
       subst hj'
       simp only [Xk] at hq
       obtain ⟨r2, hr2, hs2, hp2, hup2⟩ := hm2.heap.record (st' := .left (some id)) hj2 he2
       rw [heg2] at hr2 hup2
       exact ⟨_, _, run_endRound (some (.exit id)) hr2, _, rfl, .bool false, _, _, η2, hpre, back (hup2 _ rfl rfl rfl rfl rfl rfl), (by simp only [Den]; rfl), hq⟩
   intro ex a2 w2 hq2
   cases ex with
   | normal => obtain ⟨η2, fr2, O2, nx2, hm2, hq2⟩ := hq2; exact fin none hm2 hq2 rfl
   | ret => obtain ⟨η2, fr2, O2, nx2, hm2, hq2⟩ := hq2; exact fin (some .ret) hm2 hq2 rfl
   | exit id => obtain ⟨η2, fr2, O2, nx2, hm2, hq2⟩ := hq2; exact fin (some (.exit id)) hm2 hq2 rfl
   | goto l => exact hq2.elim
   | panic ch => exact hq2.elim
   | outgrown => exact hq2.elim
theorem Z4l {K : Fr → Prop} : ∀ {fr : Fr}, noDS fr K → ∃ fr0, K fr0 ∧ lkp DS fr0 = none ∧ ∀ t v, lkp t fr0 = some v → lkp t fr = some v
 | [], h => ⟨[], h, rfl, fun t v h => h⟩
 | (d, u) :: r, h => by
   unfold noDS at h
   split at h
   · rename_i e
     have e := Zk e
     obtain ⟨fr0, h1, h0, h2⟩ := Z4l h
     refine ⟨fr0, h1, h0, fun t v ht => ?_⟩
     rw [Z7]
     split
     · rename_i e2
       rw [e2, e, h0] at ht; cases ht
     · exact h2 t v ht
   · rename_i e
     have e := Xl e
     obtain ⟨fr0, h1, h0, h2⟩ := Z4l h
     refine ⟨(d, u) :: fr0, h1, by rw [Z7, if_neg (Ne.symm e)]; exact h0, fun t v ht => ?_⟩
     rw [Z7] at ht ⊢
     split
     · rename_i e; rw [if_pos e] at ht; exact ht
     · rename_i e; rw [if_neg e] at ht; exact h2 t v ht
theorem Z64 (hT : TabOK M.P M.C.T) {gf g : FuncId} {fn : Func} {c : Code} {cap : List SV} (hcall : ∀ args w, (callFunc gf args).run M.P w = .ok (.enter g args) w) (hf : M.P.funcs[g]? = some fn) (hb : fn.body = some c) (N : Nat) (hN : fn.ntmps = N) (hND : N ≤ DS) (hlen : cap.length + 1 ≤ N) (hres : fn.results = #[])
   {f : Operand} {Q : Post} {a a' : Act} {η1 : Env} {w1 : World} {O1 : Hps} {n1 j l : Nat} (hev : ∃ vs, a.eval f = .func (.func gf) #[] ⟨vs⟩ ∧ DenL η1 cap vs) (H1 : HeapOK M η1 w1 O1 n1) (hj : η1[j]? = some (some ⟨l, 0, 0⟩)) {frK : (Fr → Prop) → Prop}
   (hfrK : ∀ {K : Fr → Prop}, frK K → ∃ fr', K fr' ∧ ∀ η' w' O' nx', η1 <+: η' → HeapOK M η' w' O' nx' → Models M η' fr' O' nx' a' w')
   (h : run (M.at N none η1) c (Vx 0 (.yf (.loc j) :: cap)) O1 n1 (endI (M.at N none η1) [] (Z7z j frK Q))) :
   ∃ (d : Deferred) (w1' : World) (f' : FuncId) (args : Array Value) (w2 : World), (resolve a.eval (rangeCall f l) 0).run M.P w1 = .ok d w1' ∧ (∀ f', Target.leads M.P w1' d.target d.args = some f' → M.fence.fn f') ∧ (invoke d.target d.args).run M.P w1' = .ok (.enter f' args) w2 ∧
     (M.fence.depth.isSome = true → 1 ≤ 0) ∧ CallsIn M.fence (0 - 1) M.P f' args w2 (rangePost M.fence 0 M.P l (Z6G M Q) a') := by
 obtain ⟨vs, hv, hd⟩ := hev
 refine ⟨{ target := .fn (.func gf) ⟨vs⟩, args := #[.func (.yield l) #[] #[]] }, w1, g, #[.func (.yield l) #[] #[]] ++ ⟨vs⟩, w1, ?_, fun f' _ => M.all f', ?_, (fun h => by cases h), ?_⟩
 · simp only [resolve, hv]
   simp [go_sem]
 · simp [invoke, go_sem, hcall]
 · have hargs : (#[.func (.yield l) #[] #[]] ++ (⟨vs⟩ : Array Value)) = ⟨Value.func (.yield l) #[] #[] :: vs⟩ := by apply Array.ext'; simp
   rw [hargs]
   have hd1 : DenL η1 (.yf (.loc j) :: cap) (Value.func (.yield l) #[] #[] :: vs) := by
     simp only [DenL, Den]
     exact ⟨_, _, rfl, ⟨_, hj, rfl⟩, hd⟩
   refine callsIn_wide.2 (Z3s hT hf hb N hN hND (by simpa using hlen) (by simpa using hres) H1 hd1 h fun v r w' O' nx' η' hp H' hd' hk => ?_)
   unfold Z7z at hk
   split at hk
   case h_2 => exact hk.out.elim
   rename_i hh hj'
   split at hk
   case h_2 => exact hk.out.elim
   rename_i st li fr0
   have hje : η'[j]? = some (some ⟨l, 0, 0⟩) := Env.get_mono (b := .loc j) hp hj
   obtain ⟨r1, hr1, hs1, hp1, _⟩ := H'.record (st' := .ready) hj' hje
   obtain ⟨s1, p1, c1, c2, c3, c4, c5, c6⟩ := r1
   simp only at hr1 hs1 hp1
   subst hs1 hp1
   have hdrop : HeapOK M η' (w'.putObj l (.loop { state := .exhausted, pending := st.jump, fn := c1, tmps := c2, params := c3, assign := c4, body := c5, defers := c6 })) (delK j O') nx' := H'.drop hj' hje (fun k hk => World.putObj_heap_other (by rintro rfl; exact hk (feet.own (b := .loc j) hje))) World.putObj_size rfl rfl rfl (Nat.le_refl _)
   split at hk
   · rw [YV] at hk
     obtain ⟨fr', h1, h2⟩ := hfrK hk
     exact ⟨_, _, run_endLoop hr1 (by simp [LpS.state]), ⟨η', fr', _, nx', h2 η' _ _ _ hp hdrop, h1⟩⟩
   · exact hk.out.elim
   · split at hk
     · rw [YV] at hk
       obtain ⟨fr', h1, h2⟩ := hfrK hk
       exact ⟨_, _, run_endLoop hr1 (by simp [LpS.state]), wpIn_ret ⟨η', fr', _, nx', h2 η' _ _ _ hp hdrop, h1⟩⟩
     · rw [YV] at hk
       obtain ⟨fr', h1, h2⟩ := hfrK hk
       exact ⟨_, _, run_endLoop hr1 (by simp [LpS.state]), wpIn_exit ⟨η', fr', _, nx', h2 η' _ _ _ hp hdrop, h1⟩⟩
theorem Z9b {fr : Fr} {d : Nat} {K : Fr → Prop} (h : Z9a fr d K) : ∃ l, K ((DS, .dfs (.ptr (.loc d) 0 0 0 :: l)) :: fr) ∧ ∀ {η : Env} {ds : List Deferred}, DfOK η ds (lkp DS fr) → DfL η l ds := by
 unfold Z9a at h
 split at h
 · rename_i v hv
   split at h
   · rename_i l
     exact ⟨l, h, fun hd => by rw [hv] at hd; exact hd⟩
   · rename_i hn
     refine ⟨[], h, fun hd => ?_⟩
     rw [hv] at hd
     have : Z4e (some v) = false := by cases v <;> first | rfl | exact (hn _ rfl).elim
     rw [DfOK.no this] at hd
     subst hd; rfl
 · rename_i hv
   refine ⟨[], h, fun hd => ?_⟩
   rw [hv] at hd
   have hd : _ = [] := hd
   subst hd; rfl
theorem RANGEF.of (hT : TabOK M.P M.C.T) {f : Operand} {ps : Array Tmp} {asg body : Code} {fr : Fr} {Q : Post} {gf g : FuncId} {cap : List SV} {fn : Func} {c : Code} (hcall : ∀ args w, (callFunc gf args).run M.P w = .ok (.enter g args) w) (hf : M.P.funcs[g]? = some fn) (hb : fn.body = some c) (N : Nat) (hN : fn.ntmps = N)
   (li : LpI) (hli : li = ⟨M.C.N, ps.toList, asg, body⟩) (hv : Jw fr f = some (.fn (.func gf) [] cap)) (hlen : Nat.ble (cap.length + 1) N = true) (hres : fn.results = #[]) (hro : M.C.ro = none)
   (h : noDS fr fun fr0 => ∀ η1 : Env, η1.length = nx + 2 → run (M.at N none η1) c (Vx 0 (.yf (.loc (nx + 1)) :: cap)) ((nx + 1, .lp .ready li fr0) :: (nx, .dfr []) :: O) (nx + 2) (endI (M.at N none η1) [] (Z7z (nx + 1) (Z9a fr nx) Q))) (hND : Nat.ble N DS = true := by rfl) : RANGEF M f ps asg body fr O nx Q := by
 obtain ⟨fr0, h, _, hfr0⟩ := Z4l h
 refine ⟨fun η a w hm => wpIn_rangeFunc fun fnid _ => ?_⟩
 have hround : M.fence.round = none := by simp [Mx.fence, hro]
 rw [hround]
 obtain ⟨rec, hrec⟩ : ∃ rec : Loop, rec = { state := .ready, pending := none, fn := fnid, tmps := a.tmps, params := ps, assign := asg, body, defers := w.heap.size } := ⟨_, rfl⟩
 have hl := hm.heap.len
 obtain ⟨η1, hη1⟩ : ∃ η1 : Env, η1 = η ++ [some ⟨w.heap.size, 0, 0⟩] := ⟨_, rfl⟩
 have H1 : HeapOK M η1 (w.alloc (.deferred (some []))) ((nx, .dfr []) :: O) (nx + 1) := by
   rw [hη1]
   refine hm.heap.alloc (w' := w.alloc (.deferred (some []))) (o := .deferred (some [])) (h := .dfr []) rfl rfl rfl rfl 0 0 ?_
   simp only [HpSat]
   exact ⟨⟨w.heap.size, 0, 0⟩, by simp [Env.get, ← hl], rfl, World.alloc_heap_new w _, (fun n hn => nomatch hn), by simp⟩
 have hl1 := H1.len
 obtain ⟨η2, hη2⟩ : ∃ η2 : Env, η2 = η1 ++ [some ⟨w.heap.size + 1, 0, 0⟩] := ⟨_, rfl⟩
 have hsz : (w.alloc (.deferred (some []))).heap.size = w.heap.size + 1 := World.size_alloc _ _
 have hpre : η <+: η2 := by rw [hη2, hη1, List.append_assoc]; exact List.prefix_append _ _
 have hj2 : η2[nx + 1]? = some (some ⟨w.heap.size + 1, 0, 0⟩) := by rw [hη2, ← hl1]; simp
 have hd2 : η2[nx]? = some (some ⟨w.heap.size, 0, 0⟩) := by
   rw [hη2, List.getElem?_append_left (by omega), hη1, ← hl]; simp
 have H2 : HeapOK M η2 ((w.alloc (.deferred (some []))).alloc (.loop rec)) ((nx + 1, .lp .ready li fr0) :: (nx, .dfr []) :: O) (nx + 2) := by
   have := H1.alloc (w' := (w.alloc (.deferred (some []))).alloc (.loop rec)) (o := .loop rec) (h := .lp .ready li fr0) rfl rfl rfl rfl 0 0 (by
     rw [hsz, ← hη2]
     simp only [HpSat]
     refine ⟨_, rec, hj2, rfl, by rw [← hsz]; exact World.alloc_heap_new _ _, ?_⟩
     subst hrec hli
     exact ⟨rfl, rfl, rfl, rfl, rfl, hm.size, fun t sv ht => (hm.frame t sv (hfr0 t sv ht)).mono hpre⟩)
   rw [hsz, ← hη2] at this
   exact this
 have hev : ∃ vs, a.eval f = .func (.func gf) #[] ⟨vs⟩ ∧ DenL η2 cap vs := by
   have := Y3 hm.frame hv
   simp only [Den, DenL] at this
   obtain ⟨us, vs, h1, rfl, h3⟩ := this
   exact ⟨vs, h1, h3.mono hpre⟩
 obtain ⟨d, w1', f', args, w2, q1, q2, q3, q4, q5⟩ := Z64 (a' := { a with defers := [{ target := .collected w.heap.size, args := #[] }] ++ a.defers }) hT hcall hf hb N hN (Nat.le_of_ble_eq_true hND) (Nat.le_of_ble_eq_true hlen) hres hev H2 hj2 (frK := Z9a fr nx) (fun {K} hk => by
   obtain ⟨l, h1, h2⟩ := Z9b hk
   refine ⟨_, h1, fun η' w' O' nx' hp H' => ⟨H', hm.size, hm.nds, ?_, VO (hpre.trans hp) hm.ro, fun t sv ht => ?_⟩⟩
   · rw [Z7, if_pos rfl]
     exact ⟨⟨w.heap.size, 0, 0⟩, a.defers, Env.get_mono (b := .loc nx) hp hd2, rfl, h2 (hm.defers.mono (hpre.trans hp))⟩
   · rw [Z7] at ht
     split at ht
     · injection ht with ht; subst ht; simp only [Den]
     · exact (hm.frame t sv ht).mono (hpre.trans hp)) (h η2 H2.len)
 refine ⟨w.heap.size + 1, [{ target := .collected w.heap.size, args := #[] }], _, d, w1', f', args, w2, run_enterLoop_outer _ _ _ _ _, ?_, q2, q3, q4, q5⟩
 rw [hrec] at q1
 exact q1
end
theorem FIN.weak {M : Mx} {O O1 : Hps} {nx n1 : Nat} {r r1 : SV} {Q : SV → Hps → Nat → Prop} (h : ∀ η w v, HeapOK M η w O nx → Den η r v → ∃ η', η <+: η' ∧ HeapOK M η' w O1 n1 ∧ Den η' r1 v) (hf : FIN M O1 n1 r1 Q) : FIN M O nx r Q :=
 ⟨fun η w v H hd => let ⟨η1, h1, h2, h3⟩ := h η w v H hd; hf.out η1 w v h2 h3⟩
theorem FIN.nil {M : Mx} {O : Hps} {nx : Nat} {Q : SV → Hps → Nat → Prop} (es : Nat) (hf : FIN M ((nx, .rows es []) :: O) (nx + 1) (.sl (.loc nx) 0 es 0 none) Q) : FIN M O nx (.val (.slice none 0 0)) Q := by
 refine FIN.weak (fun η w v H hd => ?_) hf
 have hnew : (η ++ [none])[nx]? = some none := by rw [List.getElem?_append_right (by rw [H.len]; omega), H.len]; simp
 refine ⟨η ++ [none], List.prefix_append _ _, H.push none (fun _ _ => rfl) (Nat.le_refl _) rfl rfl rfl (Nat.le_refl _) (.inl ⟨hnew, rfl⟩) (fun k f => (feet.none (b := .loc nx) hnew f).elim) (fun k f => (feet.none (b := .loc nx) hnew f).elim), ?_⟩
 simp only [Den] at hd ⊢
 exact .inl ⟨hnew, hd.1, trivial⟩
theorem FIN.nilCell {M : Mx} {O : Hps} {nx : Nat} {r : SV} {Q : SV → Hps → Nat → Prop} (i j es : Nat) {row row' : List SV} (hi : lkp i O = some (.box row)) (hr : Z0K nx es j row = some row') (hf : FIN M ((nx, .rows es []) :: setK i (.box row') O) (nx + 1) r Q) : FIN M O nx r Q :=
 FIN.weak (fun η w v H hd => let ⟨η', h1, h2⟩ := H.nilCell hi hr; ⟨η', h1, h2, Den.mono h1 hd⟩) hf
end Go.Sx
namespace Go.Our
section
variable {α : Type} [DecidableEq α] {c : α → α → Int}
def Wl (out : List α) (q : α) : List α := match out.getLast? with
 | none => [q]
 | some z => if z ≠ q then out ++ [q] else out
def Y2 (c : α → α → Int) (out : List α) : List α → List α → List α
 | [], [] => out
 | x :: a, [] => Y2 c (Wl out x) a []
 | [], y :: b => Y2 c (Wl out y) [] b
 | x :: a, y :: b => if c x y ≤ 0 then Y2 c (Wl out x) a (y :: b) else Y2 c (Wl out y) (x :: a) b
termination_by a b => a.length + b.length
theorem Wy (h : Tri c) {out : List α} {q : α} (hq : ∀ x ∈ out, c x q ≤ 0) : Wl out q = XO c out q := by
 unfold Wl XO
 cases hg : out.getLast? with
 | none => rfl
 | some z =>
   have hz : z ∈ out := List.mem_of_getLast? hg
   have := hq z hz
   simp only
   by_cases e : z = q
   · subst e
     have := h.self z
     rw [if_neg (by simp), if_neg (by omega)]
   · have : c z q ≠ 0 := fun e2 => e ((h.zero z q).1 e2)
     rw [if_pos e, if_pos (by omega)]
theorem Vd (h : Tri c) : ∀ (n : Nat) (out a b : List α), a.length + b.length = n → Rise c out → Rise c a → Rise c b → (∀ x ∈ out, ∀ y, y ∈ a ∨ y ∈ b → c x y ≤ 0) → Y2 c out a b = Y0 c out a b
 | n, out, [], [], hn, ho, ha, hb, hh => by unfold Y2 Y0; rfl
 | 0, out, x :: a, b, hn, _, _, _, _ => by simp at hn
 | 0, out, [], y :: b, hn, _, _, _, _ => by simp at hn
 | n + 1, out, x :: a, [], hn, ho, ha, hb, hh => by
   have ha' := List.pairwise_cons.1 ha
   obtain ⟨h1, h2⟩ := Xo h ho (q := x) fun z hz => hh z hz x (by simp)
   unfold Y2 Y0
   rw [Wy h fun z hz => hh z hz x (by simp)]
   exact Vd h n (XO c out x) a [] (by simp at hn ⊢; omega) h1 ha'.2 hb (fun z hz y hy => by
     rcases (h2 z).1 hz with hz | rfl
     · exact hh z hz y (by simpa using Or.inr (by simpa using hy))
     · have : y ∈ a := by simpa using hy
       have := ha'.1 y this; omega)
 | n + 1, out, [], y :: b, hn, ho, ha, hb, hh => by
   have hb' := List.pairwise_cons.1 hb
   obtain ⟨h1, h2⟩ := Xo h ho (q := y) fun z hz => hh z hz y (by simp)
   unfold Y2 Y0
   rw [Wy h fun z hz => hh z hz y (by simp)]
   exact Vd h n (XO c out y) [] b (by simp at hn ⊢; omega) h1 ha hb'.2 (fun z hz w hw => by
     have hw : w ∈ b := by simpa using hw
     rcases (h2 z).1 hz with hz | rfl
     · exact hh z hz w (by simp [hw])
     · have := hb'.1 w hw; omega)
 | n + 1, out, x :: a, y :: b, hn, ho, ha, hb, hh => by
   have ha' := List.pairwise_cons.1 ha
   have hb' := List.pairwise_cons.1 hb
   unfold Y2 Y0
   split
   · rename_i hxy
     obtain ⟨h1, h2⟩ := Xo h ho (q := x) fun z hz => hh z hz x (by simp)
     rw [Wy h fun z hz => hh z hz x (by simp)]
     exact Vd h n (XO c out x) a (y :: b) (by simp at hn ⊢; omega) h1 ha'.2 hb (fun z hz w hw => by
       rcases (h2 z).1 hz with hz | rfl
       · exact hh z hz w (by rcases hw with hw | hw <;> simp [hw] <;> simp at hw <;> simp [hw])
       · rcases hw with hw | hw
         · have := ha'.1 w hw; omega
         · rcases List.mem_cons.1 hw with rfl | hw
           · exact hxy
           · exact h.trans _ _ _ hxy (by have := hb'.1 w hw; omega))
   · rename_i hxy
     have hyx := h.gt hxy
     obtain ⟨h1, h2⟩ := Xo h ho (q := y) fun z hz => hh z hz y (by simp)
     rw [Wy h fun z hz => hh z hz y (by simp)]
     exact Vd h n (XO c out y) (x :: a) b (by simp at hn ⊢; omega) h1 ha hb'.2 (fun z hz w hw => by
       rcases (h2 z).1 hz with hz | rfl
       · exact hh z hz w (by rcases hw with hw | hw <;> simp [hw] <;> simp at hw <;> simp [hw])
       · rcases hw with hw | hw
         · rcases List.mem_cons.1 hw with rfl | hw
           · omega
           · exact h.trans _ x _ (by omega) (by have := ha'.1 w hw; omega)
         · have := hb'.1 w hw; omega)
def Vy (c : α → α → Int) (l : List α) : List α := if l.length < 2 then l else Y2 c [] (Vy c (l.take (l.length / 2))) (Vy c (l.drop (l.length / 2)))
termination_by l.length
decreasing_by
 · simp only [List.length_take]; omega
 · simp only [List.length_drop]; omega
theorem Ul (h : Tri c) : ∀ (n : Nat) (l : List α), l.length ≤ n → Vy c l = setL c l
 | 0, l, hn => by
   have : l = [] := List.length_eq_zero_iff.1 (by omega)
   subst this
   unfold Vy
   simp [setL, Z3]
 | n + 1, l, hn => by
   unfold Vy
   split
   · match l with
     | [] => simp [setL, Z3]
     | [x] => simp [setL, Z3]
     | x :: y :: l => simp at *; omega
   · rw [Ul h n _ (by simp; omega), Ul h n _ (by simp; omega), Vd h _ _ _ _ rfl Z5g (Xh h _) (Xh h _) (by simp)]
     refine Z1H h (Xh h _) (Xh h _) fun z => ?_
     rw [Jb, Jb, ← List.mem_append, List.take_append_drop]
theorem ZaV {β : Type} [DecidableEq β] {d : β → β → Int} (h : Tri c) (h' : Tri d) (f : α → β) (hf : ∀ x y, d (f x) (f y) = c x y) (l : List α) : (setL c l).map f = setL d (l.map f) := by
 refine Zaf h' ?_ fun y => ?_
 · have := Xh h l
   unfold Rise at this ⊢
   rw [List.pairwise_map]
   exact this.imp fun {a b} hab => by rw [hf]; exact hab
 · simp only [List.mem_map, Jb]
end
def Ym (t : Tm) : List (List UInt8) := if t.k = 2 then [t.t] else []
def ZV (q : Qd) : List (List UInt8) := Ym q.s ++ Ym q.p ++ Ym q.o ++ Ym q.g
def X3 (l : List Qd) : List (List UInt8) := l.flatMap ZV
def Y1 (s : List UInt8) : Tm := ⟨2, s, [], []⟩
theorem Z7C (x y : List UInt8) : Y9 (Y1 x) (Y1 y) = cmpL x y := by
 have h1 : cmpI 2 2 = 0 := by decide
 have h2 : cmpL ([] : List UInt8) [] = 0 := triL.self []
 simp only [Y9, Y1, Tm.key, X2, h1, h2]
 split <;> simp_all
theorem Z68 (l : List (List UInt8)) : (setL Y9 (l.map Y1)).map Tm.t = setL cmpL l := by
 rw [← ZaV triL triT Y1 Z7C, List.map_map]
 conv => rhs; rw [← List.map_id (setL cmpL l)]
 rfl
abbrev Pr := List UInt8 × List UInt8
end Go.Our
namespace Go.Proofs.YtbfbokdccdagkaaGreatDoor
open Go.Sx Go.Our
def ZcP (p : Pr) : List SV := [.str p.1, .str p.2]
instance : PlF ZcP := ⟨fun _ => rfl⟩
end Go.Proofs.YtbfbokdccdagkaaGreatDoor
namespace Go.Sx
open Go
def Z3v : List Nat → Hps → (Hps → Prop) → Prop
 | [], _, K => K []
 | i :: is, O, K => match lkp i O with
   | some h => Z3v is O fun r => K ((i, h) :: r)
   | none => Z3v is O K
def Z69 : Hps → Hps → (Hps → Prop) → Prop
 | [], r, K => K r
 | (i, h) :: l, r, K => Z69 l r fun r => K ((i, h) :: r)
theorem UH : ∀ {ts : List Nat} {O : Hps} {K : Hps → Prop}, Z3v ts O K → ∃ r, K r
 | [], O, K, h => ⟨_, h⟩
 | t :: ts, O, K, h => by
   simp only [Z3v] at h
   split at h
   · obtain ⟨r, hr⟩ := UH h; exact ⟨_, hr⟩
   · exact UH h
theorem Z3w : ∀ {l r : Hps} {K : Hps → Prop}, Z69 l r K ↔ K (l ++ r)
 | [], r, K => Iff.rfl
 | (t, v) :: l, r, K => by simp only [Z69, List.cons_append, Z3w]
theorem VV {m es : Nat} {rs : List (List SV)} (h : Zr rs = true) : Za m (.rows es rs) = true := by simp only [Za, Z0 _ h]
theorem VF {m es : Nat} {σ : Nat → Nat} {rs : List (List SV)} (h : Zr rs = true) : Za m (renH σ (.rows es rs)) = true := by rw [Yc _ (h := .rows es rs) h]; exact VV h
section
variable {M : Mx} {fr : Fr} {O : Hps} {nx : Nat}
theorem LOOP.gok {body : Code} {Q : Post} (hT : TabOK M.P M.C.T) (ks ko : List Nat) {X : Type} (P : X → Prop) (chg : X → Fr) (Ox : X → Hps) (n0 : Nat) (μ : X → Nat) (x0 : X) (hP : P x0)
   (h : Z5W ks fr fun fr0 => Z3v ko O fun O0 => (appK (chg x0) fr0 fun fr' => Z69 (Ox x0) O0 fun O' => GOES M fr O nx fr' O' n0) ∧
     ∀ x, P x → appK (chg x) fr0 fun fr1 => Z69 (Ox x) O0 fun O1 => run M body fr1 O1 n0 fun e fr O nx => match e with
       | .normal => ∃ x', P x' ∧ μ x' < μ x ∧ appK (chg x') fr0 fun fr' => Z69 (Ox x') O0 fun O' => GOES M fr O nx fr' O' n0
       | e => Q e fr O nx) : LOOP M body fr O nx Q := by
 obtain ⟨fr0, h⟩ := Z0H h
 obtain ⟨O0, h1, h2⟩ := UH h
 simp only [Z2i, Z3w] at h1 h2
 exact LOOP.inv hT P (fun x => (chg x ++ fr0, Ox x ++ O0, n0)) μ x0 hP h1 h2
theorem LOOP.nilCell {body : Code} {Q : Post} (i j es : Nat) {row row' : List SV} (hi : lkp i O = some (.box row)) (hr : Z0K nx es j row = some row') (k : LOOP M body fr ((nx, .rows es []) :: setK i (.box row') O) (nx + 1) Q) : LOOP M body fr O nx Q :=
 LOOP.goes ⟨fun η a w hm => let ⟨η', hp, H⟩ := hm.heap.nilCell hi hr; ⟨η', H, hm.size, hm.nds, hm.defers.mono hp, VO hp hm.ro, fun t v ht => (hm.frame t v ht).mono hp⟩⟩ k
end
structure GHO (M : Mx) (O : Hps) (nx : Nat) (O1 : Hps) (n1 : Nat) : Prop where
 out : ∀ η w, HeapOK M η w O nx → ∃ η', η <+: η' ∧ HeapOK M η' w O1 n1
section
variable {M : Mx} {fr : Fr} {O O1 O2 : Hps} {nx n1 n2 : Nat}
theorem GHO.refl : GHO M O nx O nx := ⟨fun η w H => ⟨η, List.prefix_rfl, H⟩⟩
theorem GHO.trans (h : GHO M O nx O1 n1) (k : GHO M O1 n1 O2 n2) : GHO M O nx O2 n2 :=
 ⟨fun η w H => let ⟨η1, p1, H1⟩ := h.out η w H; let ⟨η2, p2, H2⟩ := k.out η1 w H1; ⟨η2, p1.trans p2, H2⟩⟩
theorem GHO.goes (h : GHO M O nx O1 n1) : GOES M fr O nx fr O1 n1 :=
 ⟨fun η a w hm => let ⟨η', hp, H⟩ := h.out η w hm.heap; ⟨η', H, hm.size, hm.nds, hm.defers.mono hp, VO hp hm.ro, fun t v ht => (hm.frame t v ht).mono hp⟩⟩
theorem GHO.loop {body : Code} {Q : Post} (h : GHO M O nx O1 n1) (k : LOOP M body fr O1 n1 Q) : LOOP M body fr O nx Q := LOOP.goes h.goes k
theorem GHO.call {f : FuncId} {args : List SV} {K : SV → Hps → Nat → Prop} (h : GHO M O nx O1 n1) (k : CALL M f args O1 n1 K) : CALL M f args O nx K := CALL.weak h.out k
theorem GHO.drawn {id : Nat} {ops : Array Oper} {Q : Post} (h : GHO M O nx O1 n1) (k : DRAWN M id ops fr O1 n1 Q) : DRAWN M id ops fr O nx Q :=
 ⟨fun η a w hm => let ⟨η1, h1⟩ := (h.goes (fr := fr)).out η a w hm; k.out η1 a w h1⟩
theorem GHO.fin {r : SV} {Q : SV → Hps → Nat → Prop} (h : GHO M O nx O1 n1) (k : FIN M O1 n1 r Q) : FIN M O nx r Q :=
 ⟨fun η w v H hd => let ⟨η1, p1, H1⟩ := h.out η w H; k.out η1 w v H1 (hd.mono p1)⟩
theorem GHO.nilCell (i j es : Nat) {row row' : List SV} (hi : lkp i O = some (.box row)) (hr : Z0K nx es j row = some row') : GHO M O nx ((nx, .rows es []) :: setK i (.box row') O) (nx + 1) := ⟨fun η w H => H.nilCell hi hr⟩
theorem GHO.putk (i r c k : Nat) {mp : Bool} {es es' n : Nat} {rs : List (List DC)} {row : List DC} {rows : List (List SV)} (hi : lkp i O = some (.deep mp es rs)) (hr : rs[r]? = some row) (hc : row[c]? = some (.v (.sl (.loc k) 0 es' n none)))
   (hk : lkp k O = some (.rows es' rows)) (hn : n ≤ rows.length) (hki : k ≠ i) : GHO M O nx (delK k (setK i (.deep mp es (setC rs r c (.kid es' (rows.take n)))) O)) nx := ⟨fun η w H => ⟨η, List.prefix_rfl, H.putk hi hr hc hk hn hki⟩⟩
theorem FINDD.at {J : Type} {r : Option (Nat × DC)} {A : Nat → DC → J → Prop} {B : J → Prop} {j : J} {i : Nat} {d : DC} (h : r = some (i, d)) (k : A i d j) : FINDD r A B j :=
 ⟨fun i' d' h' => by rw [h] at h'; simp only [Option.some.injEq, Prod.mk.injEq] at h'; obtain ⟨rfl, rfl⟩ := h'; exact k, fun h' => by rw [h] at h'; cases h'⟩
theorem HeapOK.anew {η : Env} {w : World} (H : HeapOK M η w O nx) {i : Nat} {h h' : Hp} (hi : lkp i O = some h) (hs : HpSat η w true (.loc i) h') (hk : ∀ n, feet η w (.loc i) h' n → feet η w (.loc i) h n) : HeapOK M η w (setK i h' O) nx := by
 have hin : ∀ {a g}, lkp a (setK i h' O) = some g → ∃ g0, lkp a O = some g0 ∧ HpSat η w true (.loc a) g ∧ ∀ n, feet η w (.loc a) g n → feet η w (.loc a) g0 n := by
   intro a g ha
   rw [ZN _ _ _ _ (by rw [hi]; rfl)] at ha
   split at ha
   · rename_i e
     subst e
     injection ha with ha
     subst ha
     exact ⟨_, hi, hs, hk⟩
   · exact ⟨g, ha, (H.own.1 _ _ ha).1, fun n f => f⟩
 refine ⟨H.pre, H.len, ⟨fun a g ha => ?_, fun a b g g' n ha hb hab f f' => ?_⟩, H.fr, H.sok⟩
 · obtain ⟨g0, h1, h2, h3⟩ := hin ha
   exact ⟨h2, fun n f => (H.own.1 a g0 h1).2 n (h3 n f)⟩
 · obtain ⟨g0, h1, _, h3⟩ := hin ha
   obtain ⟨g0', h1', _, h3'⟩ := hin hb
   exact H.own.2 a b g0 g0' n h1 h1' hab (h3 n f) (h3' n f')
def Deepens : List SV → List DC → Prop
 | [], [] => True
 | s :: r, d :: ds => (d = .v s ∨ (s = .val (.slice none 0 0) ∧ ∃ e, d = .kid e [])) ∧ Deepens r ds
 | _, _ => False
theorem Deepens.len : ∀ {r : List SV} {ds : List DC}, Deepens r ds → ds.length = r.length
 | [], [], _ => rfl
 | s :: r, d :: ds, h => by simp [Deepens.len h.2]
 | [], _ :: _, h => h.elim
 | _ :: _, [], h => h.elim
theorem Deepens.get : ∀ {r : List SV} {ds : List DC}, Deepens r ds → ∀ {c : Nat} {d : DC}, ds[c]? = some d → ∃ s, r[c]? = some s ∧ (d = .v s ∨ (s = .val (.slice none 0 0) ∧ ∃ e, d = .kid e []))
 | s :: r, d :: ds, h, 0, d', hc => by simp at hc; subst hc; exact ⟨s, rfl, h.1⟩
 | s :: r, d :: ds, h, c + 1, d', hc => by simpa using Deepens.get h.2 (by simpa using hc)
 | [], [], _, c, d, hc => by simp at hc
 | [], _ :: _, h, _, _, _ => h.elim
 | _ :: _, [], h, _, _, _ => h.elim
def Um (rs : List (List SV)) (ds : List (List DC)) : Prop := ds.length = rs.length ∧ ∀ (a : Nat) (row' : List DC), ds[a]? = some row' → ∃ row, rs[a]? = some row ∧ Deepens row row'
theorem GHO.deepen (i : Nat) {es : Nat} {rs : List (List SV)} (ds : List (List DC)) (hi : lkp i O = some (.rows es rs)) (hd : Um rs ds) : GHO M O nx (setK i (.deep false es ds) O) nx := by
 refine ⟨fun η w H => ⟨η, List.prefix_rfl, ?_⟩⟩
 have hsat : RowsSat η w true (.loc i) es rs := (H.own.1 i _ hi).1
 have hkid : ∀ {a b x}, Yk ds a b = some x → x.2 = [] ∧ ∃ row, rs[a]? = some row ∧ row[b]? = some (.val (.slice none 0 0)) := by
   intro a b x hx
   obtain ⟨x1, x2⟩ := x
   obtain ⟨row', h1, h2⟩ := kidAt_some.1 hx
   obtain ⟨row, h3, h4⟩ := hd.2 a row' h1
   obtain ⟨s, h5, h6⟩ := h4.get h2
   rcases h6 with h6 | ⟨rfl, e, h6⟩
   · cases h6
   · injection h6 with _ h6; exact ⟨h6, row, h3, h5⟩
 have hcell : ∀ {e o a b x}, η.get (.loc i) = some (some e) → w.heap[e.g]? = some o → Yk ds a b = some x → e.base = 0 ∧ x.2 = [] ∧ ZF o es a b = some (.slice none 0 0) := by
   intro e o a b x he ho hx
   obtain ⟨h0, row, h1, h2⟩ := hkid hx
   rcases hsat with ⟨h3, _⟩ | ⟨e', arr, T, fz, h3, h4, h5, h6⟩
   · rw [h3] at he; cases he
   rw [h3] at he; injection he with he; injection he with he; subst he
   rw [h4] at ho; injection ho with ho; subst ho
   have hb := (h5 rfl).2.2.2
   obtain ⟨v, h7, _, h8⟩ := (h6 a row h1).2 b _ h2
   rw [hb, Nat.zero_add] at h7
   exact ⟨hb, h0, by rw [← h8.1]; exact h7⟩
 refine H.anew hi (HpSat.deep_of (mp := false) ?_ (fun h => by cases h) fun e he => ?_) fun n f => ?_
 · rcases hsat with ⟨h3, h4⟩ | ⟨e', arr, T, fz, h3, h4, h5, h6⟩
   · refine .inl ⟨h3, List.length_eq_zero_iff.1 ?_⟩
     rw [ZS, hd.1, h4]; rfl
   · refine .inr ⟨e', arr, T, fz, h3, h4, fun h => by have := h5 h; rwa [ZS, hd.1], fun a row' ha => ?_⟩
     rw [Y5] at ha
     obtain ⟨row1, h7, rfl⟩ := Option.map_eq_some_iff.1 ha
     obtain ⟨row, h8, h9⟩ := hd.2 a row1 h7
     obtain ⟨g1, g2⟩ := h6 a row h8
     refine ⟨by rw [List.length_map, h9.len]; exact g1, fun c sv hc => ?_⟩
     rw [List.getElem?_map] at hc
     obtain ⟨d, h10, rfl⟩ := Option.map_eq_some_iff.1 hc
     obtain ⟨s, h11, h12⟩ := h9.get h10
     obtain ⟨v, k1, k2, k3⟩ := g2 c s h11
     rcases h12 with rfl | ⟨rfl, e, rfl⟩
     · exact ⟨v, k1, k2, k3⟩
     · exact ⟨v, k1, k2, trivial⟩
 · have hb : e.base = 0 := by
     rcases hsat with ⟨h3, _⟩ | ⟨e', arr, T, fz, h3, h4, h5, h6⟩
     · rw [h3] at he; cases he
     · rw [h3] at he; injection he with he; injection he with he; subst he; exact (h5 rfl).2.2.2
   refine ⟨hb, fun o ho => ⟨fun a b es' rows hk => ?_, fun a b a' b' x x' v v' k h1 h2 h3 h4 h5 h6 => ?_⟩⟩
   · obtain ⟨_, h1, h2⟩ := hcell he ho hk
     simp only at h1
     subst h1
     exact ⟨_, h2, .inl ⟨rfl, rfl⟩, by simp [Value.ownBlock]⟩
   · obtain ⟨_, _, g2⟩ := hcell he ho h1
     rw [g2] at h3; injection h3 with h3; subst h3; cases h5
 · obtain ⟨e, he, f⟩ := f
   rcases f with rfl | f
   · exact feet.own he
   · simp only [kid] at f
     obtain ⟨o, a, b, x, v, h1, h2, h3, h4⟩ := f
     obtain ⟨_, _, g2⟩ := hcell he h1 h2
     rw [g2] at h3; injection h3 with h3; subst h3; cases h4
theorem GHO.undeep (i : Nat) {es : Nat} {ds : List (List DC)} (hi : lkp i O = some (.deep false es ds)) : GHO M O nx (setK i (.rows es (Zo ds)) O) nx := by
 refine ⟨fun η w H => ⟨η, List.prefix_rfl, H.anew hi (H.own.1 i _ hi).1.1 fun n f => ?_⟩⟩
 obtain ⟨e, he, f⟩ := f
 rcases f with rfl | f
 · exact feet.own he
 · exact f.elim
theorem GHO.nilk (i r c es' : Nat) {mp : Bool} {es : Nat} {rs : List (List DC)} {row : List DC} (hi : lkp i O = some (.deep mp es rs)) (hr : rs[r]? = some row) (hc : row[c]? = some (.v (.val (.slice none 0 0)))) : GHO M O nx (setK i (.deep mp es (setC rs r c (.kid es' []))) O) nx :=
 ⟨fun η w H => ⟨η, List.prefix_rfl, H.nilk hi hr hc⟩⟩
theorem GHO.take (i r c : Nat) {mp : Bool} {es es' : Nat} {rs : List (List DC)} {row : List DC} {rows : List (List SV)} (hi : lkp i O = some (.deep mp es rs)) (hr : rs[r]? = some row) (hc : row[c]? = some (.kid es' rows)) :
   GHO M O nx ((nx, .rows es' rows) :: setK i (.deep mp es (setC rs r c (.v (.sl (.loc nx) 0 es' rows.length none)))) O) (nx + 1) :=
 ⟨fun η w H => let ⟨x, h⟩ := H.take hi hr hc; ⟨η ++ [x], List.prefix_append _ _, h⟩⟩
theorem LOOP.reach {body : Code} {Q : Post} (t : Tmp) {k es n : Nat} (ht : lkp t fr = some (.sl (.loc k) 0 es n none)) (hn : 0 < n) (hd : t ≠ DS) (K : ∀ L, n ≤ L → LOOP M body ((t, .sl (.loc k) 0 es n (some L)) :: fr) O nx Q) : LOOP M body fr O nx Q := by
 refine ⟨fun η a w hm => ?_⟩
 have h := hm.frame t _ ht
 obtain ⟨L, hL, hD⟩ : ∃ L, n ≤ L ∧ Den η (.sl (.loc k) 0 es n (some L)) (a.tmps.getD t undef) := by
   simp only [Den] at h ⊢
   rcases h with ⟨_, _, h0⟩ | ⟨e, o, h1, h2, h3, h4, h5⟩
   · omega
   · exact ⟨e.cap, by simpa using h3, .inr ⟨e, o, h1, by simpa using h2, by simpa using h3, by simp, by simpa using h5⟩⟩
 refine (K L hL).out η a w ⟨hm.heap, hm.size, hm.nds, ?_, hm.ro, fun t' v ht' => ?_⟩
 · rw [Z7, if_neg (Ne.symm hd)]; exact hm.defers
 · rw [Z7] at ht'
   split at ht'
   · rename_i e; subst e; injection ht' with ht'; subst ht'; exact hD
   · exact hm.frame t' v ht'
theorem YI {rs : List (List DC)} {r : Nat} {d : DC} {sv : SV} (h : rs[r]? = some [d]) : (Zo (setC rs r 0 (.v sv)))[r]? = some [sv] := by
 rw [Y5, Zt, if_pos rfl, h]; rfl
end
end Go.Sx
namespace Go.Our
open Go.Sx
structure KeyK (α : Type) [DecidableEq α] where
 ks : Bool × List CK
 enc : α → SV
 is : ∀ a b, U1 ks (enc a) (enc b) = decide (a = b)
 ok : ∀ a, Xx ks (enc a) = true
 pl : ∀ a, plain (enc a) = true
section
variable {α β : Type} [DecidableEq α] (K : KeyK α)
def Vz (f : β → SV) (l : List (α × β)) : List (List SV) := l.map fun p => [K.enc p.1, f p.2]
def Z1K (es : Nat) (f : β → List (List SV)) (l : List (α × β)) : List (List DC) := l.map fun p => [.v (K.enc p.1), .kid es (f p.2)]
def ixA (a : α) : List (α × β) → Option (Nat × β)
 | [] => none
 | (k, v) :: r => if a = k then some (0, v) else (ixA a r).map fun p => (p.1 + 1, p.2)
def getA (a : α) : List (α × β) → Option β
 | [] => none
 | (k, v) :: r => if a = k then some v else getA a r
def setA (a : α) (v : β) : List (α × β) → List (α × β)
 | [] => [(a, v)]
 | (k, u) :: r => if a = k then (k, v) :: r else (k, u) :: setA a v r
theorem Z4n (a : α) : ∀ l : List (α × β), (ixA a l).map Prod.snd = getA a l
 | [] => rfl
 | (k, v) :: r => by
   unfold ixA getA
   split
   · rfl
   · rw [Option.map_map, ← Z4n a r]; rfl
theorem Z5i {a : α} {l : List (α × β)} (h : ixA a l = none) : getA a l = none := by rw [← Z4n, h]; rfl
theorem Wz {a : α} {l : List (α × β)} {i : Nat} {v : β} (h : ixA a l = some (i, v)) : getA a l = some v := by rw [← Z4n, h]; rfl
theorem Z2o (a b : α) (v : β) : ∀ l : List (α × β), getA b (setA a v l) = if b = a then some v else getA b l
 | [] => by
   simp only [setA, getA]
 | (k, u) :: r => by
   unfold setA
   by_cases h : a = k
   · subst h
     rw [if_pos rfl]
     simp only [getA]
     by_cases e : b = a
     · rw [if_pos e, if_pos e]
     · rw [if_neg e, if_neg e, if_neg e]
   · rw [if_neg h]
     simp only [getA, Z2o a b v r]
     by_cases e : b = k
     · subst e; rw [if_pos rfl, if_neg (fun e => h e.symm), if_pos rfl]
     · rw [if_neg e, if_neg e]
theorem Z2p (f : β → SV) (a : α) : ∀ (l : List (α × β)) (i : Nat), YH K.ks (K.enc a) i (Vz K f l) = (ixA a l).map fun p => (i + p.1, f p.2)
 | [], i => rfl
 | (k, v) :: r, i => by
   have ih := Z2p f a r (i + 1)
   simp only [Vz, List.map_cons, YH, K.is, ixA] at ih ⊢
   by_cases h : a = k
   · simp [h]
   · simp only [h, decide_false, if_false, ih, Option.map_map]
     congr 1
     funext p
     simp only [Function.comp, Prod.mk.injEq, and_true]
     omega
theorem JK (f : β → SV) (l : List (α × β)) : Jf K.ks (Vz K f l) := by
 intro r hr
 obtain ⟨p, _, rfl⟩ := List.mem_map.1 hr
 exact ⟨_, _, rfl, K.ok _⟩
theorem Z1L {a : α} {v : β} : ∀ {l : List (α × β)} {i : Nat} {u : β}, ixA a l = some (i, u) → setA a v l = l.modify i (fun p => (p.1, v))
 | [], _, _, h => by cases h
 | (k, w) :: r, i, u, h => by
   unfold ixA at h
   unfold setA
   split at h
   · rename_i e
     injection h with h; injection h with h1 h2; subst h1
     rw [if_pos e, List.modify_zero_cons]
   · rename_i e
     obtain ⟨⟨j, x⟩, hj, he⟩ := Option.map_eq_some_iff.1 h
     injection he with h1 h2
     subst h1
     rw [if_neg e, List.modify_succ_cons, Z1L hj]
theorem Z0S {a : α} {v : β} : ∀ {l : List (α × β)}, ixA a l = none → setA a v l = l ++ [(a, v)]
 | [], _ => rfl
 | (k, w) :: r, h => by
   unfold ixA at h
   unfold setA
   split at h
   · cases h
   · rename_i e
     rw [if_neg e, List.cons_append, Z0S (by simpa using h)]
theorem Zah (f : β → SV) (a : α) (v : β) (l : List (α × β)) : setM K.ks (K.enc a) (f v) (Vz K f l) = Vz K f (setA a v l) := by
 unfold setM
 rw [Z2p]
 cases h : ixA a l with
 | none => simp only [Option.map_none]; rw [Z0S h]; simp [Vz]
 | some p =>
   obtain ⟨i, u⟩ := p
   simp only [Option.map_some, Nat.zero_add]
   rw [Z1L h]
   unfold Vz
   apply List.ext_getElem?
   intro j
   rw [List.getElem?_modify, List.getElem?_map, List.getElem?_map, List.getElem?_modify]
   by_cases e : i = j
   · subst e
     cases l[i]? <;> simp [putV]
   · cases l[j]? <;> simp [e]
theorem Z7H (f : β → SV) (hf : ∀ b, plain (f b) = true) (l : List (α × β)) : Zr (Vz K f l) = true := by
 unfold Vz
 exact ZZ _ (fun p => by simp only [YG, K.pl, hf, Bool.and_self]) l
theorem Z4o (es : Nat) (f : β → List (List SV)) (a : α) : ∀ (l : List (α × β)) (i : Nat), findD K.ks (K.enc a) i (Z1K K es f l) = (ixA a l).map fun p => (i + p.1, .kid es (f p.2))
 | [], i => rfl
 | (k, v) :: r, i => by
   have ih := Z4o es f a r (i + 1)
   simp only [Z1K, List.map_cons, findD, ZY, K.is, ixA] at ih ⊢
   by_cases h : a = k
   · simp [h]
   · simp only [h, decide_false, if_false, ih, Option.map_map]
     congr 1
     funext p
     simp only [Function.comp, Prod.mk.injEq, and_true]
     omega
theorem Z5j (es : Nat) (f : β → List (List SV)) (hf : ∀ b, Zr (f b) = true) : ∀ l : List (α × β), Zw (Z1K K es f l) = true
 | [] => rfl
 | p :: l => by
   have ih := Z5j es f hf l
   unfold Z1K at ih ⊢
   simp only [List.map_cons, Zw, Yu, JT, K.pl, hf, ih, Bool.and_self]
end
section
variable {α β : Type} [DecidableEq α]
theorem FIND.A (K : KeyK α) (f : β → SV) (a : α) (l : List (α × β)) {J : Type} {A : Nat → SV → J → Prop} {B : J → Prop} {j : J} (hs : ∀ i v, ixA a l = some (i, v) → A (0 + i) (f v) j) (hn : ixA a l = none → B j) : FIND (YH K.ks (K.enc a) 0 (Vz K f l)) A B j := by
 refine FIND.mk (fun i v hf => ?_) (fun hf => ?_)
 · obtain ⟨⟨k, x⟩, hj, he⟩ := Option.map_eq_some_iff.1 ((Z2p K f a l 0).symm.trans hf)
   cases he
   exact hs _ _ hj
 · exact hn (Option.map_eq_none_iff.1 ((Z2p K f a l 0).symm.trans hf))
theorem FINDD.A (K : KeyK α) (es : Nat) (f : β → List (List SV)) (a : α) (l : List (α × β)) {J : Type} {A : Nat → DC → J → Prop} {B : J → Prop} {j : J} (hs : ∀ i v, ixA a l = some (i, v) → A (0 + i) (.kid es (f v)) j) (hn : ixA a l = none → B j) : FINDD (findD K.ks (K.enc a) 0 (Z1K K es f l)) A B j := by
 refine FINDD.mk (fun i v hf => ?_) (fun hf => ?_)
 · obtain ⟨⟨k, x⟩, hj, he⟩ := Option.map_eq_some_iff.1 ((Z4o K es f a l 0).symm.trans hf)
   cases he
   exact hs _ _ hj
 · exact hn (Option.map_eq_none_iff.1 ((Z4o K es f a l 0).symm.trans hf))
end
def KQ : KeyK Qd where
 ks := (true, [.int .i64, .str, .str, .str, .int .i64, .str, .str, .str, .int .i64, .str, .str, .str, .int .i64, .str, .str, .str])
 enc := Qd.sv
 is a b := by
   obtain ⟨⟨a1, a2, a3, a4⟩, ⟨a5, a6, a7, a8⟩, ⟨a9, b1, b2, b3⟩, ⟨b4, b5, b6, b7⟩⟩ := a
   obtain ⟨⟨c1, c2, c3, c4⟩, ⟨c5, c6, c7, c8⟩, ⟨c9, d1, d2, d3⟩, ⟨d4, d5, d6, d7⟩⟩ := b
   rw [Bool.eq_iff_iff]
   simp [U1, J6, ZH, Zb, Qd.sv, Xj]
   simp only [and_assoc]
 ok a := by simp [Xx, J6, ZH, Zb, Qd.sv, Xj]
 pl a := rfl
def KT : KeyK (List UInt8) where
 ks := (false, [.str])
 enc := .str
 is a b := by rw [Bool.eq_iff_iff]; simp [U1, J6, ZH, Zb]
 ok a := by simp [Xx, J6, ZH, Zb]
 pl a := rfl
abbrev LB := List UInt8
end Go.Our
namespace Go.Our
open Go Go.Sx
structure Sd where
 q : Qd
 a : Int
 b : Int
 c : Int
 d : Int
def Jc (s : Sd) : List SV := [.int .i64 s.q.s.k, .str s.q.s.t, .str s.q.s.y, .str s.q.s.l, .int .i64 s.q.p.k, .str s.q.p.t, .str s.q.p.y, .str s.q.p.l, .int .i64 s.q.o.k, .str s.q.o.t, .str s.q.o.y, .str s.q.o.l, .int .i64 s.q.g.k, .str s.q.g.t, .str s.q.g.y, .str s.q.g.l,
 .int .i64 s.a, .int .i64 s.b, .int .i64 s.c, .int .i64 s.d]
theorem ZaX (l : List Sd) : Zr (l.map Jc) = true := ZZ _ (fun _ => rfl) l
instance : PlF Jc := ⟨fun _ => rfl⟩
def Z7I (l : List Sd) : List DC := [.kid 20 (l.map Jc)]
def inD (ins : List (List Sd)) : List (List DC) := ins.map Z7I
theorem Z7J : ∀ ins : List (List Sd), Zw (inD ins) = true
 | [] => rfl
 | l :: ins => by simp only [inD, List.map_cons, Z7I, Zw, Yu, JT, ZaX, Bool.and_self, Bool.true_and]; exact Z7J ins
instance {ins : List (List Sd)} : PlD (inD ins) := ⟨Z7J ins⟩
theorem YS {ins : List (List Sd)} {i : Nat} (h : i < ins.length) : (inD ins)[i]? = some (Z7I ins[i]) := by unfold inD; rw [List.getElem?_map, List.getElem?_eq_getElem h]; rfl
theorem ZaY (ins : List (List Sd)) : (inD ins).length = ins.length := by simp [inD]
def numM (f : LB → Int) (t : Tm) : Int := if t.k = 2 then f t.t else -1
def sdM (f : LB → Int) (q : Qd) : Sd := ⟨q, numM f q.s, numM f q.p, numM f q.o, numM f q.g⟩
def JL (q : Qd) : List Tm := [q.s, q.p, q.o, q.g]
def ownT (f : LB → Int) (acc : List Int) (t : Tm) : List Int := if t.k = 2 then (if f t.t ∈ acc then acc else acc ++ [f t.t]) else acc
def ownM (f : LB → Int) (q : Qd) : List Int := (JL q).foldl (ownT f) []
def putN (s : Sd) (ins : List (List Sd)) (n : Int) : List (List Sd) := ins.modify n.toNat (· ++ [s])
def putS (f : LB → Int) (ins : List (List Sd)) (q : Qd) : List (List Sd) := (ownM f q).foldl (putN (sdM f q)) ins
theorem Z9d (s : Sd) (ins : List (List Sd)) (n : Int) : (putN s ins n).length = ins.length := by unfold putN; rw [List.length_modify]
theorem JM (s : Sd) : ∀ (l : List Int) (ins : List (List Sd)), (l.foldl (putN s) ins).length = ins.length
 | [], _ => rfl
 | n :: l, ins => by rw [List.foldl_cons, JM s l, Z9d]
theorem Z9e (f : LB → Int) (ins : List (List Sd)) (q : Qd) : (putS f ins q).length = ins.length := JM _ _ _
theorem Z7K (f : LB → Int) (q : Qd) : (ownM f q).length ≤ 4 := by
 have step : ∀ acc t, (ownT f acc t).length ≤ acc.length + 1 := fun acc t => by
   unfold ownT
   split
   · split <;> simp
   · simp
 unfold ownM JL
 simp only [List.foldl_cons, List.foldl_nil]
 have h1 := step [] q.s
 have h2 := step (ownT f [] q.s) q.p
 have h3 := step (ownT f (ownT f [] q.s) q.p) q.o
 have h4 := step (ownT f (ownT f (ownT f [] q.s) q.p) q.o) q.g
 simp only [List.length_nil] at h1
 omega
def Z0T (n : Nat) (l : List Int) : Prop := ∀ x ∈ l, 0 ≤ x ∧ x < (n : Int)
theorem ZbZ {f : LB → Int} {n : Nat} {q : Qd} (h : ∀ x ∈ ZV q, 0 ≤ f x ∧ f x < (n : Int)) : Z0T n (ownM f q) := by
 have step : ∀ acc t, (t.k = 2 → 0 ≤ f t.t ∧ f t.t < (n : Int)) → Z0T n acc → Z0T n (ownT f acc t) := fun acc t ht ha => by
   unfold ownT
   split
   · rename_i hk
     split
     · exact ha
     · intro x hx
       rcases List.mem_append.1 hx with hx | hx
       · exact ha x hx
       · rw [List.mem_singleton.1 hx]; exact ht hk
   · exact ha
 have ht : ∀ t ∈ JL q, t.k = 2 → 0 ≤ f t.t ∧ f t.t < (n : Int) := fun t htm hk => h _ (by
   have hb : t.t ∈ Ym t := by unfold Ym; rw [if_pos hk]; exact List.mem_singleton_self _
   unfold JL at htm
   unfold ZV
   simp only [List.mem_cons, List.not_mem_nil, or_false] at htm
   simp only [List.mem_append]
   rcases htm with rfl | rfl | rfl | rfl
   · exact .inl (.inl (.inl hb))
   · exact .inl (.inl (.inr hb))
   · exact .inl (.inr hb)
   · exact .inr hb)
 unfold ownM
 have all : ∀ (l : List Tm) (acc : List Int), (∀ t ∈ l, t.k = 2 → 0 ≤ f t.t ∧ f t.t < (n : Int)) → Z0T n acc → Z0T n (l.foldl (ownT f) acc) := by
   intro l
   induction l with
   | nil => intro acc _ h; exact h
   | cons t l ih => intro acc hl ha; exact ih _ (fun t ht => hl t (List.mem_cons_of_mem _ ht)) (step acc t (hl t (List.mem_cons_self ..)) ha)
 exact all _ _ ht (fun x hx => by cases hx)
theorem Jp {α β : Type} (g : β → α → β) (b : β) (l : List α) {i : Nat} (h : i < l.length) : (l.take (i + 1)).foldl g b = g ((l.take i).foldl g b) l[i] := by
 rw [List.take_succ_eq_append_getElem h, List.foldl_append]; rfl
end Go.Our
namespace Go.Sx
open Go Go.Sort Go.Shelf Go.Proofs Go.Our
def Z6 (s : List UInt8) : List SV := [.str s]
theorem Ze (l : List (List UInt8)) : Zr (l.map Z6) = true := ZZ _ (fun _ => rfl) l
instance : PlF Z6 := ⟨fun _ => rfl⟩
theorem leS (x y : List UInt8) : decide (x ≤ y) = leC cmpL x y := by
 show decide (x ≤ y) = !decide (Lib.compareBytes y x < 0)
 rw [← V9, Go.Proofs.bytesLess_eq]
 rw [Bool.eq_iff_iff]
 simp [List.not_lt]
theorem JN (w : World) (blk m : Nat) (d : Array (List UInt8)) (os : Array Obj) : (grow (putRow encStr (Sort.ahead w m) blk 0 d) os).heap = (mapBlock w blk (putCells encStr 0 d)).heap ++ os := by simp [grow, putRow, mapBlock, Sort.ahead]
theorem Z2q (w : World) (blk m : Nat) (d : Array (List UInt8)) (os : Array Obj) : w.heap.size ≤ (grow (putRow encStr (Sort.ahead w m) blk 0 d) os).heap.size := by
 rw [JN]; simp [mapBlock]
theorem Z1g (w : World) (blk m : Nat) (d : Array (List UInt8)) (os : Array Obj) {g : Nat} (hg : g < w.heap.size) (hne : g ≠ blk) : (grow (putRow encStr (Sort.ahead w m) blk 0 d) os).heap[g]? = w.heap[g]? := by
 rw [JN, Array.getElem?_append_left (by simpa [mapBlock] using hg)]
 simp only [mapBlock, Array.getElem?_modify]
 rw [if_neg (fun h => hne h.symm)]
theorem Z3y (w : World) (blk m : Nat) (d : Array (List UInt8)) (os : Array Obj) {c : Array Value} {T : TypeId} {fz : Nat × Nat} (h : w.heap[blk]? = some (.cells c T fz)) : (grow (putRow encStr (Sort.ahead w m) blk 0 d) os).heap[blk]? = some (.cells (putCells encStr 0 d c) T fz) := by
 have hlt := (Array.getElem?_eq_some_iff.1 h).1
 rw [JN, Array.getElem?_append_left (by simpa [mapBlock] using hlt)]
 simp only [mapBlock, Array.getElem?_modify, if_true, h, Option.map_eq_map, Option.map_some, onCells]
theorem Z3z {P : Program} {T : Tab} {ρ : Ren} (L : Lays.n190 P ρ) (ef : ∀ args w, (callFunc (ρ.f 190) args).run P w = .ok (.enter (ρ.f 190) args) w) (l : List (List UInt8)) (hl : l.length < 4611686018427387904) :
   Does P T (ρ.f 190) 1 [.sl (.loc 0) 0 1 l.length none] [(0, .rows 1 (l.map Z6))] [] (fun r O nx => r = .tup [] ∧ O = [(0, .rows 1 ((l.mergeSort (leC cmpL)).map Z6))] ∧ nx = 1) := by
 refine ⟨fun M vs hP hT' hF hS H hd => .inl ⟨ρ.f 190, by rw [hP]; exact ef _ _, ?_⟩⟩
 obtain ⟨P', ⟨T', N', S', ro'⟩, w0, F, η0⟩ := M
 simp only at hP hT' hF hS H hd ⊢
 subst hP hT'
 simp only [DenL] at hd
 obtain ⟨v, us, rfl, hv, rfl⟩ := hd
 have hsat := (H.own.1 0 _ rfl).1
 simp only [HpSat, Env.get] at hsat
 simp only [Den, Env.get] at hv
 have fin : ∀ w' (O' : Hps), FrW w0 w' F → HpSat η0 w' true (.loc 0) (.rows 1 ((l.mergeSort (leC cmpL)).map Z6)) →
     ∃ r O' nx' η', (r = SV.tup [] ∧ O' = [(0, Hp.rows 1 ((l.mergeSort (leC cmpL)).map Z6))] ∧ nx' = 1) ∧ η0 <+: η' ∧ HeapOK ⟨P', ⟨T', N', S', ro'⟩, w0, F, η0⟩ η' w' O' nx' ∧ Den η' r (.tuple #[]) := by
   intro w' O' hfr hs
   refine ⟨_, _, _, η0, ⟨rfl, rfl, rfl⟩, List.prefix_rfl, ⟨H.pre, H.len, ⟨fun i h hi => ?_, fun i j h h' k hi hj hij f f' => ?_⟩, hfr, H.sok⟩, ?_⟩
   · rw [Z7] at hi
     split at hi
     · rename_i e; subst e
       injection hi with hi; subst hi
       refine ⟨hs, fun n f => (H.own.1 0 _ rfl).2 n ?_⟩
       obtain ⟨e, h1, h2⟩ := f
       exact ⟨e, h1, h2⟩
     · simp [lkp] at hi
   · rw [Z7] at hi hj
     split at hi
     · rename_i e; subst e
       split at hj
       · rename_i e2; exact (hij e2.symm).elim
       · simp [lkp] at hj
     · simp [lkp] at hi
   · simp only [Den, DenL]; exact ⟨[], rfl, rfl⟩
 rcases hsat with ⟨hn, hnil⟩ | ⟨e, arr, Tt, fz, he, hheap, hown, hcells⟩
 · have hl0 : l = [] := by simpa using hnil
   subst hl0
   have hv2 : v = .slice none 0 0 := by
     rcases hv with ⟨_, h, _⟩ | ⟨e, o, h, _⟩
     · exact h
     · rw [hn] at h; cases h
   subst hv2
   refine (Any.slices_Sort_string_none L none 0 w0).mono ?_
   rintro e w' ⟨rfl, rfl⟩
   refine ⟨_, rfl, fin _ [] (FrW.refl _ _) ?_⟩
   simp only [HpSat, Env.get]
   exact .inl ⟨hn, by simp⟩
 · obtain ⟨hun, hsz, hle, hb0⟩ := hown trivial
   obtain ⟨hel, hvv⟩ : l.length ≤ e.cap ∧ v = .slice (some ⟨e.g, 0, none⟩) l.length e.cap := by
     rcases hv with ⟨h, _⟩ | ⟨e', o, h, h2, h3, h4, h5⟩
     · rw [he] at h; cases h
     · rw [he] at h; cases h
       simp only [Option.getD_none, Nat.zero_add, Nat.sub_zero] at h2 h3
       have := h5 (.inr trivial)
       rw [hb0] at this
       simp only [Nat.zero_mul, Nat.add_zero] at this
       subst this
       exact ⟨h3, h2⟩
   subst hvv
   have hblk : e.g < w0.heap.size := (Array.getElem?_eq_some_iff.1 hheap).1
   have hsize : l.length ≤ arr.size := by rw [hsz]; omega
   have hcell : ∀ (i : Nat) (x : List UInt8), l[i]? = some x → arr[i]? = some (encStr x) := by
     intro i x hi
     obtain ⟨h1, h2⟩ := hcells i (Z6 x) (by rw [List.getElem?_map, hi]; rfl)
     obtain ⟨u, h3, h4, h5⟩ := h2 0 (.str x) rfl
     rw [hb0, Nat.zero_add, Nat.mul_one, Nat.add_zero] at h3
     simp only [Den] at h5
     rw [h3, h5]; try rfl
   have hH : Holds encStr w0 e.g 0 l.toArray := by
     intro t ht
     rw [List.size_toArray] at ht
     have h4 := hcell t l[t] (List.getElem?_eq_getElem ht)
     refine ⟨by rw [Nat.zero_add, Z7w hheap, h4]; simp [ht], ?_⟩
     have := hun t (by omega)
     simp only [World.frozen?, hheap, Nat.zero_add]
     simpa using this
   have hFg : F e.g := by
     rcases (H.own.1 0 _ rfl).2 e.g ⟨e, he, .inl rfl⟩ with h | h
     · exact h
     · have h : w0.heap.size ≤ e.g := h
       omega
   have hmain := Any.slices_Sort_string L e.g 0 e.cap l w0 hH hblk hl
   rw [show (fun x y : List UInt8 => decide (x ≤ y)) = leC cmpL from funext fun x => funext fun y => leS x y] at hmain
   refine hmain.mono ?_
   rintro e1 w' ⟨rfl, n, os, rfl⟩
   refine ⟨_, rfl, fin _ [] ?_ ?_⟩
   · refine ⟨rfl, rfl, rfl, ?_, Z2q .., fun b hb hnF => Z1g w0 e.g n _ os hb (fun e => hnF (e ▸ hFg))⟩
     simp [grow, putRow, mapBlock, Sort.ahead]
   · simp only [HpSat, Env.get]
     have hsl : (l.mergeSort (leC cmpL)).length = l.length := List.length_mergeSort l
     refine .inr ⟨e, _, Tt, fz, he, Z3y w0 e.g n _ os hheap, fun _ => ⟨?_, ?_, ?_, hb0⟩, fun i rw1 hi => ?_⟩
     · simp only [putCells, Array.size_mapIdx]; exact hun
     · simp only [putCells, Array.size_mapIdx]; exact hsz
     · rw [List.length_map, hsl]; exact hel
     · rw [List.getElem?_map] at hi
       obtain ⟨x, hx, rfl⟩ := Option.map_eq_some_iff.1 hi
       refine ⟨rfl, fun j sv hj => ?_⟩
       have hil := (List.getElem?_eq_some_iff.1 hx).1
       match j, hj with
       | 0, hj =>
         injection hj with hj; subst hj
         refine ⟨encStr x, ?_, rfl, by simp only [Den]; try rfl⟩
         have hlt : i < arr.size := by omega
         rw [hb0, Nat.zero_add, Nat.mul_one, Nat.add_zero]
         have hxe := (List.getElem?_eq_some_iff.1 hx).2
         have hil' : i < l.length := by omega
         simp only [putCells, Array.getElem?_mapIdx, Array.getElem?_eq_getElem hlt, Option.map_some, Nat.zero_le, true_and, Nat.zero_add, List.size_toArray, hsl, hil', if_true, Nat.sub_zero]
         rw [Array.getElem!_eq_getD, Array.getD_eq_getD_getElem?]
         simp [hx]
end Go.Sx
namespace Go.Our
section
variable {α : Type} {c : α → α → Int}
end
end Go.Our
namespace Go.Our
open Go.Sx
def Z7O : List UInt8 → List (List UInt8)
 | [] => [[]]
 | c :: t => if c = 45 then [] :: Z7O t else match Z7O t with
   | h :: r => (c :: h) :: r
   | [] => [[c]]
def Zc3 (s : List UInt8) : List SV := [.str s]
instance : PlF Zc3 := ⟨fun _ => rfl⟩
def Zb4 (s : List UInt8) : Bool := Z3G s 1 1 false && !Z2x s
def Z7P (p : List UInt8 → Bool) : List (List UInt8) → Nat
 | [] => 0
 | s :: l => if p s = true then Z7P p l + 1 else 0
abbrev Z5n (least : Int) : List UInt8 → Bool := fun s => Z3G s least 8 false
def extP : Nat → List (List UInt8) → List (List UInt8)
 | 0, l => l
 | _ + 1, [] => []
 | n + 1, s :: l => if Z3G s 3 3 true = true then extP n l else s :: l
def ZcQ : List (List UInt8) → Option (List (List UInt8))
 | [] => none
 | s :: l => if Z3G s 2 8 true = true then (if 3 < s.length then some l else some (extP 3 l)) else none
def Zaj (p : List UInt8 → Bool) : List (List UInt8) → List (List UInt8)
 | [] => []
 | s :: l => if p s = true then l else s :: l
def Zc4 (seen : List (List UInt8)) : List (List UInt8) → Option (List (List UInt8) × List (List UInt8))
 | [] => some ([], seen)
 | s :: l => if Z9g s = true then (if Z3H s ∈ seen then none else Zc4 (seen ++ [Z3H s]) l) else some (s :: l, seen)
def Zc5 (seen : List (List UInt8)) : List (List UInt8) → Option (List (List UInt8))
 | [] => some []
 | s :: l => if Zb4 s = true then
       (if Z7P (Z5n 2) l = 0 ∨ Z3H s ∈ seen then none else Zc5 (seen ++ [Z3H s]) (l.drop (Z7P (Z5n 2) l)))
     else some (s :: l)
termination_by l => l.length
decreasing_by simp; omega
def ZcR (l : List (List UInt8)) : Option (List (List UInt8)) :=
 match Zc4 [] (Zaj Zb3 (Zaj (fun s => Z3G s 4 4 true) l)) with
 | none => none
 | some (l, seen) => Zc5 seen l
def Zc6 (p : List UInt8 → Bool) : List (List UInt8) → Bool
 | [] => false
 | s :: _ => p s
def Zc7 : List (List UInt8) → Bool
 | [] => true
 | s :: l => if Z2x s = true then decide (Z7P (Z5n 1) l ≠ 0 ∧ Z7P (Z5n 1) l = l.length) else false
def tagP (l : List (List UInt8)) : Bool :=
 if Zc6 Z2x l = true then Zc7 l else
 match ZcQ l with
 | none => false
 | some l => match ZcR l with
   | none => false
   | some l => Zc7 l
def Z7Q : List UInt8 := [104, 116, 116, 112, 58, 47, 47, 119, 119, 119, 46, 119, 51, 46, 111, 114, 103, 47, 49, 57, 57, 57, 47, 48, 50, 47, 50, 50, 45, 114, 100, 102, 45, 115, 121, 110, 116, 97, 120, 45, 110, 115, 35, 108, 97, 110, 103, 83, 116, 114, 105, 110, 103]
def litM (t y l : List UInt8) : Int :=
 if 65536 < t.length then 2 else if 0 ≤ chk t 0 then 40 else if iriM y ≠ 0 then iriM y else
 if l ≠ [] ∧ 65536 < l.length then 2 else if l ≠ [] ∧ (¬ tagP (Z7O l) = true ∨ Z3H l ≠ l) then 61 else
 if (l ≠ [] ∧ ¬ y = Z7Q) ∨ (l = [] ∧ y = Z7Q) then 71 else 0
def Z0V (x : Tm) : Int :=
 if x.k = 1 ∨ x.k = 2 then (if x.y ≠ [] ∨ x.l ≠ [] then 70 else if x.k = 1 then iriM x.t else if 65536 < x.t.length then 2 else Zc2 x.t)
 else if x.k = 3 then litM x.t x.y x.l else 70
def Z7R (q : Qd) : Int :=
 if ¬ (q.s.k = 1 ∨ q.s.k = 2) then 70 else if Z0V q.s ≠ 0 then Z0V q.s else
 if ¬ q.p.k = 1 then 70 else if Z0V q.p ≠ 0 then Z0V q.p else
 if Z0V q.o ≠ 0 then Z0V q.o else
 if q.g = ZC then 0 else if ¬ (q.g.k = 1 ∨ q.g.k = 2) then 70 else Z0V q.g
def typB : List UInt8 := [104, 116, 116, 112, 58, 47, 47, 119, 119, 119, 46, 119, 51, 46, 111, 114, 103, 47, 49, 57, 57, 57, 47, 48, 50, 47, 50, 50, 45, 114, 100, 102, 45, 115, 121, 110, 116, 97, 120, 45, 110, 115, 35, 116, 121, 112, 101]
def domB : List UInt8 := [104, 116, 116, 112, 58, 47, 47, 119, 119, 119, 46, 119, 51, 46, 111, 114, 103, 47, 50, 48, 48, 48, 47, 48, 49, 47, 114, 100, 102, 45, 115, 99, 104, 101, 109, 97, 35, 100, 111, 109, 97, 105, 110]
def ranB : List UInt8 := [104, 116, 116, 112, 58, 47, 47, 119, 119, 119, 46, 119, 51, 46, 111, 114, 103, 47, 50, 48, 48, 48, 47, 48, 49, 47, 114, 100, 102, 45, 115, 99, 104, 101, 109, 97, 35, 114, 97, 110, 103, 101]
def subP : List UInt8 := [104, 116, 116, 112, 58, 47, 47, 119, 119, 119, 46, 119, 51, 46, 111, 114, 103, 47, 50, 48, 48, 48, 47, 48, 49, 47, 114, 100, 102, 45, 115, 99, 104, 101, 109, 97, 35, 115, 117, 98, 80, 114, 111, 112, 101, 114, 116, 121, 79, 102]
def subC : List UInt8 := [104, 116, 116, 112, 58, 47, 47, 119, 119, 119, 46, 119, 51, 46, 111, 114, 103, 47, 50, 48, 48, 48, 47, 48, 49, 47, 114, 100, 102, 45, 115, 99, 104, 101, 109, 97, 35, 115, 117, 98, 67, 108, 97, 115, 115, 79, 102]
abbrev iriT (s : List UInt8) : Tm := ⟨1, s, [], []⟩
abbrev dr2 (a b : Qd) : Qd × Bool := (⟨b.s, iriT typB, a.o, a.g⟩, decide (a.p = iriT domB ∧ a.s = b.p))
abbrev dr3 (a b : Qd) : Qd × Bool := (⟨b.o, iriT typB, a.o, a.g⟩, decide (a.p = iriT ranB ∧ a.s = b.p))
abbrev chn (s : List UInt8) (a b : Qd) : Qd × Bool := (⟨a.s, a.p, b.o, a.g⟩, decide (a.p = iriT s ∧ b.p = a.p ∧ a.o = b.s))
abbrev dr7 (a b : Qd) : Qd × Bool := (⟨b.s, a.o, b.o, a.g⟩, decide (a.p = iriT subP ∧ a.s = b.p))
abbrev dr9 (a b : Qd) : Qd × Bool := (⟨b.s, iriT typB, a.o, a.g⟩, decide (a.p = iriT subC ∧ b.p = iriT typB ∧ b.o = a.s))
def Z7S (n : Int) (a b : Qd) : Qd × Bool :=
 if n = 2 then dr2 a b else if n = 3 then dr3 a b else if n = 5 then chn subP a b else if n = 7 then dr7 a b else if n = 9 then dr9 a b else if n = 11 then chn subC a b else (YR, false)
def Z1h (n : Int) (a b : Qd) : Qd × Bool :=
 if Z7R a = 0 ∧ Z7R b = 0 ∧ a.g = b.g ∧ (Z7S n a b).2 = true ∧ Z7R (Z7S n a b).1 = 0 then ((Z7S n a b).1, true) else (YR, false)
structure St where
 r : Int
 a : Qd
 b : Qd
 q : Qd
 deriving DecidableEq
def St.row (s : St) : List SV := [.int .i64 s.r,
 .int .i64 s.a.s.k, .str s.a.s.t, .str s.a.s.y, .str s.a.s.l, .int .i64 s.a.p.k, .str s.a.p.t, .str s.a.p.y, .str s.a.p.l, .int .i64 s.a.o.k, .str s.a.o.t, .str s.a.o.y, .str s.a.o.l, .int .i64 s.a.g.k, .str s.a.g.t, .str s.a.g.y, .str s.a.g.l,
 .int .i64 s.b.s.k, .str s.b.s.t, .str s.b.s.y, .str s.b.s.l, .int .i64 s.b.p.k, .str s.b.p.t, .str s.b.p.y, .str s.b.p.l, .int .i64 s.b.o.k, .str s.b.o.t, .str s.b.o.y, .str s.b.o.l, .int .i64 s.b.g.k, .str s.b.g.t, .str s.b.g.y, .str s.b.g.l,
 .int .i64 s.q.s.k, .str s.q.s.t, .str s.q.s.y, .str s.q.s.l, .int .i64 s.q.p.k, .str s.q.p.t, .str s.q.p.y, .str s.q.p.l, .int .i64 s.q.o.k, .str s.q.o.t, .str s.q.o.y, .str s.q.o.l, .int .i64 s.q.g.k, .str s.q.g.t, .str s.q.g.y, .str s.q.g.l]
abbrev ZcS (s : St) : List SV := s.row
instance : PlF ZcS := ⟨fun _ => rfl⟩
structure Wd where
 all : List Qd
 why : List St
 place : List (Qd × Int)
 at' : List (Qd × List Qd)
def Zc9 (q : Qd) : Qd := ⟨q.g, ZC, q.p, ZC⟩
def Zca (q : Qd) : Qd := ⟨q.g, q.s, q.p, ZC⟩
def Zcb (q : Qd) : Qd := ⟨q.g, ZC, q.p, q.o⟩
def atL (k : Qd) (l : List (Qd × List Qd)) : List Qd := (getA k l).getD []
def Z6g (k q : Qd) (l : List (Qd × List Qd)) : List (Qd × List Qd) := setA k (atL k l ++ [q]) l
def putM (w : Wd) (s : St) : Wd :=
 if (getA s.q w.place).isSome then w else ⟨w.all ++ [s.q], w.why ++ [s], setA s.q (w.all.length : Int) w.place, Z6g (Zcb s.q) s.q (Z6g (Zca s.q) s.q (Z6g (Zc9 s.q) s.q w.at'))⟩
def Zcc : Wd := ⟨[], [], [], []⟩
def Zcd (q : Qd) : St := ⟨0, YR, YR, q⟩
def Zce (l : List Qd) : Wd := l.foldl (fun w q => putM w (Zcd q)) Zcc
abbrev intV (n : Int) : SV := .int .i64 n
abbrev qdsV (l : List Qd) : List (List SV) := l.map Zc
abbrev Zak (l : List (Qd × Int)) : List (List SV) := Vz KQ intV l
abbrev atR (l : List (Qd × List Qd)) : List (List DC) := Z1K KQ 16 qdsV l
theorem Z6h (l : List (Qd × Int)) : Zr (Zak l) = true := Z7H KQ _ (fun _ => rfl) l
instance {l : List (Qd × Int)} : Pl (Zak l) := ⟨Z6h l⟩
theorem Zb5 (l : List (Qd × List Qd)) : Zw (atR l) = true := Z5j KQ 16 _ (fun b => ZZ _ (fun _ => rfl) b) l
instance {l : List (Qd × List Qd)} : PlD (atR l) := ⟨Zb5 l⟩
theorem Zb6 (k q k' : Qd) (m : List (Qd × List Qd)) : atL k' (Z6g k q m) = if k' = k then atL k m ++ [q] else atL k' m := by
 unfold Z6g atL
 rw [Z2o]
 split <;> rfl
def Z9h (i : Nat) (q : Qd) : Qd := match i with | 0 => Zc9 q | 1 => Zca q | _ => Zcb q
def atN (q : Qd) (l : List (Qd × List Qd)) : Nat → List (Qd × List Qd)
 | 0 => l
 | i + 1 => Z6g (Z9h i q) q (atN q l i)
structure WdOK (w : Wd) : Prop where
 len : w.why.length = w.all.length
 mem : ∀ q, q ∈ w.all ↔ (getA q w.place).isSome = true
 at3 : ∀ k, (atL k w.at').length ≤ 3 * w.all.length
theorem Zb7 {w : Wd} {s : St} (h : (getA s.q w.place).isSome = true) : putM w s = w := by unfold putM; rw [if_pos h]
theorem Zcf {w : Wd} {s : St} (h : getA s.q w.place = none) : putM w s = ⟨w.all ++ [s.q], w.why ++ [s], setA s.q (w.all.length : Int) w.place, atN s.q w.at' 3⟩ := by unfold putM; rw [h]; rfl
inductive Der (l : List Qd) : Qd → Prop
 | base {q : Qd} (h : q ∈ l) : Der l q
 | step {n : Int} {a b : Qd} (ha : Der l a) (hb : Der l b) (h : (Z1h n a b).2 = true) : Der l (Z1h n a b).1
def ZcT (first : Bool) (q o : Qd) (n : Int) : Option St :=
 let a := if first then q else o
 let b := if first then o else q
 if (Z1h n a b).2 then some ⟨n, a, b, (Z1h n a b).1⟩ else none
def ZcU (first : Bool) (q : Qd) (others : List Qd) (ns : List Int) : List St := others.flatMap fun o => ns.filterMap (ZcT first q o)
def Zcg {σ : Type} (T : σ → St → σ × Bool) : List St → σ → σ × Bool
 | [], s => (s, true)
 | c :: cs, s => if (T s c).2 then Zcg T cs (T s c).1 else ((T s c).1, false)
abbrev Ask := Bool × Qd × List Int
def asks (q : Qd) : List Ask := [(true, ⟨q.g, ZC, q.s, ZC⟩, [2, 3, 7]), (true, ⟨q.g, q.o, q.p, ZC⟩, [5, 11]), (true, ⟨q.g, ZC, iriT typB, q.s⟩, [9]),
 (false, ⟨q.g, q.p, iriT domB, ZC⟩, [2]), (false, ⟨q.g, q.p, iriT ranB, ZC⟩, [3]), (false, ⟨q.g, q.p, iriT subP, ZC⟩, [7]),
 (false, ⟨q.g, ZC, q.p, q.s⟩, [5, 11]), (false, ⟨q.g, q.o, iriT subC, ZC⟩, [9])]
def askM {σ : Type} (T : σ → St → σ × Bool) (rd : σ → List (Qd × List Qd)) (q : Qd) (a : Ask) (s : σ) : σ × Bool := Zcg T (ZcU a.1 q (atL a.2.1 (rd s)) a.2.2) s
def askL {σ : Type} (T : σ → St → σ × Bool) (rd : σ → List (Qd × List Qd)) (q : Qd) : List Ask → σ → σ × Bool
 | [], s => (s, true)
 | a :: as', s => if (askM T rd q a s).2 then askL T rd q as' (askM T rd q a s).1 else ((askM T rd q a s).1, false)
structure AtOK (w : Wd) : Prop where
 sub : ∀ k o, o ∈ atL k w.at' → o ∈ w.all
 all : ∀ o ∈ w.all, ∀ k, k < 3 → o ∈ atL (Z9h k o) w.at'
 nodup : w.all.Nodup
theorem Z7T (q : Qd) (m : List (Qd × List Qd)) (k o : Qd) : ∀ i, o ∈ atL k (atN q m i) ↔ o ∈ atL k m ∨ (o = q ∧ ∃ j, j < i ∧ k = Z9h j q)
 | 0 => by simp [atN]
 | i + 1 => by
   unfold atN
   rw [Zb6]
   have ih := fun k => Z7T q m k o i
   by_cases e : k = Z9h i q
   · subst e
     rw [if_pos rfl, List.mem_append, ih, List.mem_singleton]
     constructor
     · rintro ((h | ⟨h1, j, h2, h3⟩) | rfl)
       · exact .inl h
       · exact .inr ⟨h1, j, by omega, h3⟩
       · exact .inr ⟨rfl, i, by omega, rfl⟩
     · rintro (h | ⟨h1, j, h2, h3⟩)
       · exact .inl (.inl h)
       · exact .inr h1
   · rw [if_neg e, ih]
     constructor
     · rintro (h | ⟨h1, j, h2, h3⟩)
       · exact .inl h
       · exact .inr ⟨h1, j, by omega, h3⟩
     · rintro (h | ⟨h1, j, h2, h3⟩)
       · exact .inl h
       · refine .inr ⟨h1, j, ?_, h3⟩
         rcases Nat.lt_or_eq_of_le (Nat.le_of_lt_succ h2) with h | rfl
         · exact h
         · exact (e h3).elim
def Zb8 (most : Int) (w : Wd) (s : St) : Wd × Bool := (putM w s, decide (((putM w s).all.length : Int) ≤ most))
def SOK (known : List Qd) (s : St) : Prop := s.a ∈ known ∧ s.b ∈ known ∧ (Z1h s.r s.a s.b).2 = true ∧ (Z1h s.r s.a s.b).1 = s.q
theorem SOK.mono {k k' : List Qd} {s : St} (h : SOK k s) (hs : ∀ q ∈ k, q ∈ k') : SOK k' s := ⟨hs _ h.1, hs _ h.2.1, h.2.2⟩
structure WhyI (l : List Qd) (w : Wd) : Prop where
 here : ∀ (i : Nat) q, w.all[i]? = some q → getA q w.place = some (i : Int)
 why : ∀ (i : Nat) s, w.why[i]? = some s → w.all[i]? = some s.q ∧ (s.q ∈ l ∨ SOK (w.all.take i) s)
structure CInv (l : List Qd) (w : Wd) : Prop where
 ok : WdOK w
 spots : AtOK w
 sub : ∀ q ∈ l, q ∈ w.all
 der : ∀ q ∈ w.all, Der l q
 why : WhyI l w
 pre : (Zce l).all <+: w.all
theorem Z6W (w : Wd) (s : St) (k o : Qd) (h : o ∈ atL k w.at') : o ∈ atL k (putM w s).at' := by
 cases hg : getA s.q w.place with
 | some v => rw [Zb7 (by rw [hg]; rfl)]; exact h
 | none => rw [Zcf hg]; exact (Z7T s.q w.at' k o 3).2 (.inl h)
structure Grown (l : List Qd) (most : Int) (w : Wd) (r : Wd × Bool) : Prop where
 inv : CInv l r.1
 pre : w.all <+: r.1.all
 spots : ∀ k o, o ∈ atL k w.at' → o ∈ atL k r.1.at'
 less : r.2 = false → most < (r.1.all.length : Int)
 upto : (w.all.length : Int) ≤ most → (r.1.all.length : Int) ≤ most + 1
 yes : r.2 = true → (w.all.length : Int) ≤ most → (r.1.all.length : Int) ≤ most
theorem Grown.refl {l : List Qd} {most : Int} {w : Wd} (h : CInv l w) : Grown l most w (w, true) := ⟨h, List.prefix_rfl, fun _ _ h => h, (fun h => by cases h), (fun h => by show (w.all.length : Int) ≤ most + 1; omega), fun _ h => h⟩
def ZcV (most : Int) (q : Qd) (w : Wd) : Wd × Bool := askL (Zb8 most) Wd.at' q (asks q) w
def runW (most : Int) (w : Wd) : Nat → Wd
 | 0 => w
 | i + 1 => match (runW most w i).all[i]? with
   | some q => (ZcV most q (runW most w i)).1
   | none => runW most w i
abbrev More (most : Int) (i : Nat) (w : Wd) : Prop := i < w.all.length ∧ (w.all.length : Int) ≤ most
def ZcW (most : Int) (w : Wd) (n : Nat) (v : Wd) : Prop := v = runW most w n ∧ ∀ j, j < n → More most j (runW most w j)
theorem YY (most : Int) (w : Wd) : ZcW most w 0 w := ⟨rfl, fun j h => by omega⟩
structure DrIn (l out : List Qd) : Prop where
 nodup : out.Nodup
 new : ∀ r ∈ out, r ∉ l
 drawn : ∀ r ∈ out, ∃ n a b, a ∈ l ∧ b ∈ l ∧ (Z1h n a b).2 = true ∧ r = (Z1h n a b).1
structure DrawsOf (l out : List Qd) : Prop extends DrIn l out where
 all : ∀ a ∈ l, ∀ b ∈ l, ∀ n, (Z1h n a b).2 = true → (Z1h n a b).1 ∈ l ++ out
def ObIn (base l : List Qd) : Prop := ∀ q ∈ l, ∃ t ∈ base, q.o = t.o
structure RInv (l m : List Qd) : Prop where
 rise : Rise Zx m
 sub : ∀ q ∈ l, q ∈ m
 der : ∀ q ∈ m, Der l q
 ob : ObIn l m
end Go.Our
set_option maxRecDepth 20000
namespace Go.Our
open Go.Sx
end Go.Our
namespace Go.Our
open Go.Sx
abbrev KS : Bool × List CK := (false, [CK.str])
theorem Z3I (a b : List UInt8) : U1 KS (.str a) (.str b) = (a == b) := by simp [U1, J6, ZH, Zb]
theorem Z7X (a : List UInt8) : Xx KS (.str a) = true := by simp [Xx, J6, ZH, Zb]
def StrRows (rs : List (List SV)) : Prop := ∀ r ∈ rs, ∃ (k : List UInt8) (v : SV), r = [.str k, v]
theorem StrRows.ok {rs : List (List SV)} (h : StrRows rs) : Jf KS rs := fun r hr => let ⟨k, v, e⟩ := h r hr; ⟨_, v, e, Z7X k⟩
def valM (rs : List (List SV)) (a : List UInt8) : Option SV := (YH KS (.str a) 0 rs).map Prod.snd
theorem Z1O (key : SV) : ∀ (rs : List (List SV)) (i j : Nat), (YH KS key i rs).map Prod.snd = (YH KS key j rs).map Prod.snd
 | [], i, j => rfl
 | r :: rs, i, j => by
   unfold YH
   split
   · split
     · rfl
     · exact Z1O key rs (i + 1) (j + 1)
   · rfl
theorem Xr (k a : List UInt8) (v : SV) (rs : List (List SV)) : valM ([.str k, v] :: rs) a = if a = k then some v else valM rs a := by
 unfold valM
 conv => lhs; unfold YH
 simp only [Z3I]
 by_cases e : a = k
 · subst e; simp
 · have : (a == k) = false := by simpa using e
   rw [this, if_neg e]
   exact Z1O _ rs 1 0
theorem Z4s {rs : List (List SV)} (h : StrRows rs) (k a : List UInt8) (v : SV) (hk : valM rs k = none) : valM (rs ++ [[.str k, v]]) a = if a = k then some v else valM rs a := by
 induction rs with
 | nil => rw [List.nil_append, Xr]
 | cons r rs ih =>
   obtain ⟨k', v', rfl⟩ := h r (List.mem_cons_self ..)
   rw [Xr] at hk
   have hne : k ≠ k' := fun e => by rw [if_pos e] at hk; cases hk
   rw [if_neg hne] at hk
   rw [List.cons_append, Xr, Xr, ih (fun r hr => h r (List.mem_cons_of_mem _ hr)) hk]
   by_cases e : a = k'
   · subst e; rw [if_pos rfl, if_pos rfl, if_neg (fun e => hne e.symm)]
   · rw [if_neg e, if_neg e]
theorem Z0W {k : List UInt8} {v : SV} : ∀ {rs : List (List SV)} (h : StrRows rs) {i j : Nat} {u : SV} (hf : YH KS (.str k) i rs = some (i + j, u)) (a : List UInt8), StrRows (rs.modify j (putV v)) ∧ valM (rs.modify j (putV v)) a = if a = k then some v else valM rs a
 | [], h, i, j, u, hf, a => by simp [YH] at hf
 | r :: rs, h, i, j, u, hf, a => by
   obtain ⟨k', v', rfl⟩ := h r (List.mem_cons_self ..)
   have ht : StrRows rs := fun r hr => h r (List.mem_cons_of_mem _ hr)
   unfold YH at hf
   simp only [Z3I] at hf
   by_cases e : k = k'
   · subst e
     simp at hf
     obtain ⟨rfl, _⟩ := hf
     rw [List.modify_zero_cons]
     refine ⟨fun r hr => ?_, ?_⟩
     · rcases List.mem_cons.1 hr with rfl | hr
       · exact ⟨k, v, rfl⟩
       · exact ht r hr
     · show valM ([.str k, v] :: rs) a = _
       rw [Xr, Xr]
       by_cases e : a = k
       · rw [if_pos e, if_pos e]
       · rw [if_neg e, if_neg e, if_neg e]
   · have hb : (k == k') = false := by simpa using e
     rw [hb] at hf
     simp only at hf
     cases j with
     | zero =>
       have hge : ∀ (rs : List (List SV)) (m n : Nat) (x : SV), YH KS (.str k) m rs = some (n, x) → m ≤ n := by
         intro rs
         induction rs with
         | nil => intro m n x hh; simp [YH] at hh
         | cons r rs ih =>
           intro m n x hh
           unfold YH at hh
           split at hh
           · split at hh
             · injection hh with hh; injection hh with h1 h2; omega
             · have := ih _ _ _ hh; omega
           · cases hh
       have := hge _ _ _ _ hf
       omega
     | succ j =>
       obtain ⟨h1, h2⟩ := Z0W ht (i := i + 1) (j := j) (u := u) (by rw [hf, show i + 1 + j = i + (j + 1) by omega]) a
       rw [List.modify_succ_cons]
       refine ⟨fun r hr => ?_, ?_⟩
       · rcases List.mem_cons.1 hr with rfl | hr
         · exact ⟨k', v', rfl⟩
         · exact h1 r hr
       · rw [Xr, Xr, h2]
         by_cases e2 : a = k'
         · subst e2; rw [if_pos rfl, if_pos rfl, if_neg (fun e3 => e e3.symm)]
         · rw [if_neg e2, if_neg e2]
theorem Z2A {rs : List (List SV)} (h : StrRows rs) (k : List UInt8) (v : SV) (a : List UInt8) : StrRows (setM KS (.str k) v rs) ∧ valM (setM KS (.str k) v rs) a = if a = k then some v else valM rs a := by
 unfold setM
 cases hf : YH KS (.str k) 0 rs with
 | none =>
   simp only
   refine ⟨fun r hr => ?_, Z4s h k a v (by unfold valM; rw [hf]; rfl)⟩
   rcases List.mem_append.1 hr with hr | hr
   · exact h r hr
   · have := List.mem_singleton.1 hr; subst this; exact ⟨k, v, rfl⟩
 | some x =>
   obtain ⟨j, u⟩ := x
   simp only
   exact Z0W h (i := 0) (j := j) (u := u) (by rw [hf, Nat.zero_add]) a
end Go.Our
namespace Go.Our
open Go.Sx Go.Lib
def Z9j (l : List UInt8) : Nat := l.foldl (fun a c => a * 10 + (c.toNat - 48)) 0
theorem Z3J (u : Nat) : Z9j (decDigits u) = u := by
 induction u using Nat.strongRecOn with
 | _ u ih =>
   rw [decDigits]
   split
   · rename_i h
     simp only [Z9j, List.foldl_cons, List.foldl_nil, Nat.zero_mul, Nat.zero_add, UInt8.toNat_ofNat']
     omega
   · rename_i h
     have := ih (u / 10) (by omega)
     unfold Z9j at this ⊢
     rw [List.foldl_append, this]
     simp only [List.foldl_cons, List.foldl_nil, UInt8.toNat_ofNat']
     omega
def lab (i : Nat) : List UInt8 := 98 :: decDigits i
def ZcY (s : List UInt8) : List SV := [.str s]
instance : PlF ZcY := ⟨fun _ => rfl⟩
theorem Z7Y {rs : List (List SV)} (h : Zr rs = true) (k : List UInt8) (i : Int) : Zr (setM KS (.str k) (.int .i64 i) rs) = true := by
 have iff : ∀ rs : List (List SV), Zr rs = true ↔ ∀ r ∈ rs, YG r = true := by
   intro rs
   induction rs with
   | nil => simp [Zr]
   | cons r rs ih => simp [Zr, ih]
 rw [iff] at h ⊢
 unfold setM
 split
 · intro r hr
   obtain ⟨j, hj, rfl⟩ := List.mem_iff_getElem.1 hr
   rw [List.getElem_modify]
   have h0 := h (rs[j]'(by simpa using hj)) (List.getElem_mem _)
   split
   · generalize rs[j]'(by simpa using hj) = r0 at h0
     unfold putV
     split
     · simp only [YG, plain, Bool.and_true] at h0 ⊢
       simpa using (by simpa using h0 : plain _ = true ∧ plain _ = true).1
     · exact h0
   · exact h0
 · intro r hr
   rcases List.mem_append.1 hr with hr | hr
   · exact h r hr
   · have := List.mem_singleton.1 hr; subst this; rfl
structure Cnt (l : List (List UInt8)) (rs : List (List SV)) : Prop where
 str : StrRows rs
 plain : Zr rs = true
 out : ∀ a, a ∉ l → valM rs a = none
 mem : ∀ a, a ∈ l → ∃ k : Nat, 0 < k ∧ k ≤ l.length ∧ valM rs a = some (.int .i64 (k : Int))
theorem Cnt.nil : Cnt [] [] := ⟨fun _ h => (List.not_mem_nil h).elim, rfl, fun _ _ => rfl, fun _ h => (List.not_mem_nil h).elim⟩
theorem Cnt.step {l : List (List UInt8)} {rs : List (List SV)} (h : Cnt l rs) (s : List UInt8) {k : Nat} (h0 : 0 < k) (h1 : k ≤ l.length + 1) : Cnt (l ++ [s]) (setM KS (.str s) (.int .i64 (k : Int)) rs) := by
 refine ⟨(Z2A h.str s _ []).1, Z7Y h.plain s _, fun a ha => ?_, fun a ha => ?_⟩
 · rw [List.mem_append, List.mem_singleton, not_or] at ha
   rw [(Z2A h.str s _ a).2, if_neg ha.2]
   exact h.out a ha.1
 · rw [(Z2A h.str s _ a).2]
   by_cases e : a = s
   · rw [if_pos e]; exact ⟨k, h0, by simpa using h1, rfl⟩
   · rw [if_neg e]
     have : a ∈ l := by simpa [e] using ha
     obtain ⟨k', g0, g1, g2⟩ := h.mem a this
     exact ⟨k', g0, by simp; omega, g2⟩
end Go.Our
namespace Go.Our
section
variable {α : Type} [DecidableEq α] {c : α → α → Int}
theorem Z4t (h : Tri c) {l : List α} (hl : Rise c l) : l.Nodup := List.Pairwise.imp (fun h1 => h.ne h1) hl
theorem Z1P (h : Tri c) : ∀ {l m : List α}, l.Pairwise (fun a b => c a b ≤ 0) → m.Pairwise (fun a b => c a b ≤ 0) → l.Perm m → l = m
 | [], m, _, _, hp => (List.nil_perm.1 hp).symm
 | x :: l, [], _, _, hp => by have := hp.length_eq; simp at this
 | x :: l, y :: m, hl, hm, hp => by
   have hl' := List.pairwise_cons.1 hl
   have hm' := List.pairwise_cons.1 hm
   have h1 : c x y ≤ 0 := by
     rcases List.mem_cons.1 (hp.mem_iff.2 (List.mem_cons_self ..) : y ∈ x :: l) with e | e
     · rw [e, h.self]; omega
     · exact hl'.1 _ e
   have h2 : c y x ≤ 0 := by
     rcases List.mem_cons.1 (hp.mem_iff.1 (List.mem_cons_self ..) : x ∈ y :: m) with e | e
     · rw [e, h.self]; omega
     · exact hm'.1 _ e
   have e : x = y := (h.zero x y).1 (by have := h.anti x y; omega)
   subst e
   rw [Z1P h hl'.2 hm'.2 (List.perm_cons _ |>.1 hp)]
theorem Wb (h : Tri c) (l : List α) : (l.mergeSort (leC c)).Pairwise (fun a b => c a b ≤ 0) := by
 have := List.pairwise_mergeSort (le := leC c) (fun a b d h1 h2 => by rw [Va h] at *; exact h.trans a b d h1 h2) (fun a b => by
   have := h.anti a b
   rw [Bool.or_eq_true, Va h, Va h]; omega) l
 exact this.imp fun h1 => (Va h).1 h1
end
end Go.Our
namespace Go.Our
open Go.Sx Go.Lib
theorem Z0X (u : Nat) : ∀ c ∈ decDigits u, 48 ≤ c.toNat ∧ c.toNat ≤ 57 := by
 induction u using Nat.strongRecOn with
 | _ u ih =>
   rw [decDigits]
   intro c hc
   split at hc
   · rw [List.mem_singleton.1 hc, UInt8.toNat_ofNat']; omega
   · rcases List.mem_append.1 hc with hc | hc
     · exact ih (u / 10) (by omega) c hc
     · rw [List.mem_singleton.1 hc, UInt8.toNat_ofNat']; omega
theorem Z7Z {n : Int} {c : UInt8} (h : c ∈ itoa n) : c = 45 ∨ 48 ≤ c.toNat ∧ c.toNat ≤ 57 := by
 unfold itoa at h
 split at h
 · rcases List.mem_cons.1 h with h | h
   · exact .inl h
   · exact .inr (Z0X _ _ h)
 · exact .inr (Z0X _ _ h)
theorem Z80 {u v : Nat} (h : decDigits u = decDigits v) : u = v := by
 have := congrArg Z9j h
 rwa [Z3J, Z3J] at this
theorem Zan {u : Nat} {l : LB} (h : decDigits u = 45 :: l) : False := by
 have := Z0X u 45 (by rw [h]; exact List.mem_cons_self ..)
 revert this; decide
theorem Z9k {a b : Int} (h : itoa a = itoa b) : a = b := by
 unfold itoa at h
 split at h <;> split at h
 · have := Z80 (List.cons.inj h).2; omega
 · exact (Zan h.symm).elim
 · exact (Zan h).elim
 · have := Z80 h; omega
theorem Zao {d : UInt8} : ∀ {a b r s : LB}, d ∉ a → d ∉ b → a ++ d :: r = b ++ d :: s → a = b ∧ r = s
 | [], [], _, _, _, _, h => ⟨rfl, (List.cons.inj h).2⟩
 | [], y :: b, _, _, _, hb, h => (hb (by rw [(List.cons.inj h).1]; exact List.mem_cons_self ..)).elim
 | x :: a, [], _, _, ha, _, h => (ha (by rw [← (List.cons.inj h).1]; exact List.mem_cons_self ..)).elim
 | x :: a, y :: b, r, s, ha, hb, h => by
   obtain ⟨h1, h2⟩ := List.cons.inj h
   obtain ⟨h3, h4⟩ := Zao (fun hm => ha (List.mem_cons_of_mem _ hm)) (fun hm => hb (List.mem_cons_of_mem _ hm)) h2
   exact ⟨by rw [h1, h3], h4⟩
theorem WE {a b : Int} {d : UInt8} {r s : LB} (hd : d ≠ 45) (hr : d.toNat < 48 ∨ 57 < d.toNat) (h : itoa a ++ d :: r = itoa b ++ d :: s) : a = b ∧ r = s := by
 have hn : ∀ n : Int, d ∉ itoa n := fun n hm => by
   rcases Z7Z hm with e | e
   · exact hd e
   · omega
 obtain ⟨h1, h2⟩ := Zao (hn a) (hn b) h
 exact ⟨Z9k h1, h2⟩
structure Seen where
 self : Bool
 cls : Int
 tm : Tm
 deriving DecidableEq
def Z3K (s : Seen) : Prop := 0 ≤ s.cls ∧ (s.self = true → s.cls = 0 ∧ s.tm = ZC) ∧ (0 < s.cls → s.tm = ZC)
def Wm (s : LB) : LB := 61 :: (itoa (s.length : Int) ++ 58 :: s)
def Z6j (t : Tm) : LB := Wm t.t ++ (Wm t.y ++ (Wm t.l ++ itoa t.k))
def Jr (s : Seen) : LB := (if s.self = true then [64] else if 0 < s.cls then 35 :: itoa (s.cls - 1) else Z6j s.tm) ++ [32]
theorem Z2B {a b r s : LB} (h : Wm a ++ r = Wm b ++ s) : a = b ∧ r = s := by
 unfold Wm at h
 simp only [List.cons_append, List.append_assoc] at h
 obtain ⟨h1, h2⟩ := WE (by decide) (by decide) (List.cons.inj h).2
 exact List.append_inj h2 (by omega)
theorem WF {a b : Seen} {r s : LB} (ha : Z3K a) (hb : Z3K b) (h : Jr a ++ r = Jr b ++ s) : a = b ∧ r = s := by
 obtain ⟨sa, ca, ta⟩ := a
 obtain ⟨sb, cb, tb⟩ := b
 obtain ⟨a1, a2, a3⟩ := ha
 obtain ⟨b1, b2, b3⟩ := hb
 simp only at a1 a2 a3 b1 b2 b3
 unfold Jr at h
 simp only [List.append_assoc] at h
 have e61 : ∀ t : Tm, ∀ w, Z6j t ++ w = 61 :: (itoa (t.t.length : Int) ++ 58 :: (t.t ++ (Wm t.y ++ (Wm t.l ++ (itoa t.k ++ w))))) := fun t w => by unfold Z6j; rw [Wm]; simp
 cases sa
 · cases sb
   · simp only [Bool.false_eq_true, if_false] at h
     by_cases ea : 0 < ca
     · by_cases eb : 0 < cb
       · rw [if_pos ea, if_pos eb] at h
         obtain ⟨h1, h2⟩ := WE (d := 32) (by decide) (by decide) (List.cons.inj h).2
         have hc : ca = cb := by omega
         subst hc
         rw [a3 ea, b3 ea]
         exact ⟨rfl, h2⟩
       · rw [if_pos ea, if_neg eb, e61] at h
         exact absurd (List.cons.inj h).1 (by decide)
     · by_cases eb : 0 < cb
       · rw [if_neg ea, if_pos eb, e61] at h
         exact absurd (List.cons.inj h).1 (by decide)
       · rw [if_neg ea, if_neg eb] at h
         unfold Z6j at h
         simp only [List.append_assoc] at h
         obtain ⟨h1, h⟩ := Z2B h
         obtain ⟨h2, h⟩ := Z2B h
         obtain ⟨h3, h⟩ := Z2B h
         obtain ⟨h4, h5⟩ := WE (d := 32) (by decide) (by decide) h
         have hc : ca = cb := by omega
         obtain ⟨k, t, y, l⟩ := ta
         obtain ⟨k', t', y', l'⟩ := tb
         simp only at h1 h2 h3 h4
         subst hc h1 h2 h3 h4
         exact ⟨rfl, h5⟩
   · simp only [Bool.false_eq_true, if_false, if_true] at h
     by_cases ea : 0 < ca
     · rw [if_pos ea] at h
       exact absurd (List.cons.inj h).1 (by decide)
     · rw [if_neg ea, e61] at h
       exact absurd (List.cons.inj h).1 (by decide)
 · cases sb
   · simp only [Bool.false_eq_true, if_false, if_true] at h
     by_cases eb : 0 < cb
     · rw [if_pos eb] at h
       exact absurd (List.cons.inj h).1 (by decide)
     · rw [if_neg eb, e61] at h
       exact absurd (List.cons.inj h).1 (by decide)
   · simp only [if_true] at h
     obtain ⟨c1, t1⟩ := a2 rfl
     obtain ⟨c2, t2⟩ := b2 rfl
     subst c1 t1 c2 t2
     exact ⟨rfl, by simpa using h⟩
structure Sg where
 a : Seen
 b : Seen
 c : Seen
 d : Seen
 deriving DecidableEq
def Z3L (s : Sg) : Prop := Z3K s.a ∧ Z3K s.b ∧ Z3K s.c ∧ Z3K s.d
def YK (s : Sg) : LB := Jr s.a ++ (Jr s.b ++ (Jr s.c ++ Jr s.d))
theorem Z3M {a b : Sg} {r s : LB} (ha : Z3L a) (hb : Z3L b) (h : YK a ++ r = YK b ++ s) : a = b ∧ r = s := by
 unfold YK at h
 simp only [List.append_assoc] at h
 obtain ⟨h1, h⟩ := WF ha.1 hb.1 h
 obtain ⟨h2, h⟩ := WF ha.2.1 hb.2.1 h
 obtain ⟨h3, h⟩ := WF ha.2.2.1 hb.2.2.1 h
 obtain ⟨h4, h5⟩ := WF ha.2.2.2 hb.2.2.2 h
 obtain ⟨p, q, u, v⟩ := a
 obtain ⟨p', q', u', v'⟩ := b
 simp only at h1 h2 h3 h4
 subst h1 h2 h3 h4
 exact ⟨rfl, h5⟩
theorem Z81 {a b : Sg} (ha : Z3L a) (hb : Z3L b) (h : YK a = YK b) : a = b := (Z3M (r := []) (s := []) ha hb (by rw [h])).1
theorem Z9l (s : Sg) : YK s ≠ [] := by
 unfold YK Jr
 simp
def Jd : List LB → LB
 | [] => []
 | a :: l => 10 :: (a ++ Jd l)
def VB : List LB → LB
 | [] => []
 | a :: l => a ++ Jd l
def IsSg (t : LB) : Prop := ∃ s, Z3L s ∧ t = YK s
theorem IsSg.ne {t : LB} (h : IsSg t) : t ≠ [] := by obtain ⟨s, _, rfl⟩ := h; exact Z9l s
theorem IsSg.cut {a b r s : LB} (ha : IsSg a) (hb : IsSg b) (h : a ++ r = b ++ s) : a = b ∧ r = s := by
 obtain ⟨x, hx, rfl⟩ := ha
 obtain ⟨y, hy, rfl⟩ := hb
 obtain ⟨h1, h2⟩ := Z3M hx hy h
 exact ⟨by rw [h1], h2⟩
theorem Z5p : ∀ {l m : List LB}, (∀ t ∈ l, IsSg t) → (∀ t ∈ m, IsSg t) → Jd l = Jd m → l = m
 | [], [], _, _, _ => rfl
 | [], b :: m, _, _, h => by simp [Jd] at h
 | a :: l, [], _, _, h => by simp [Jd] at h
 | a :: l, b :: m, ha, hb, h => by
   obtain ⟨h1, h2⟩ := (ha a (List.mem_cons_self ..)).cut (hb b (List.mem_cons_self ..)) (List.cons.inj h).2
   rw [h1, Z5p (fun t ht => ha t (List.mem_cons_of_mem _ ht)) (fun t ht => hb t (List.mem_cons_of_mem _ ht)) h2]
theorem Z9m : ∀ {l m : List LB}, (∀ t ∈ l, IsSg t) → (∀ t ∈ m, IsSg t) → VB l = VB m → l = m
 | [], [], _, _, _ => rfl
 | [], b :: m, _, hb, h => by have := (hb b (List.mem_cons_self ..)).ne; simp [VB] at h; exact (this h.1).elim
 | a :: l, [], ha, _, h => by have := (ha a (List.mem_cons_self ..)).ne; simp [VB] at h; exact (this h.1).elim
 | a :: l, b :: m, ha, hb, h => by
   obtain ⟨h1, h2⟩ := (ha a (List.mem_cons_self ..)).cut (hb b (List.mem_cons_self ..)) h
   rw [h1, Z5p (fun t ht => ha t (List.mem_cons_of_mem _ ht)) (fun t ht => hb t (List.mem_cons_of_mem _ ht)) h2]
theorem Z5q {α β : Type} {f : α → β} {p : α → Prop} (hf : ∀ a b, p a → p b → f a = f b → a = b) : ∀ {l m : List α}, (∀ x ∈ l, p x) → (∀ x ∈ m, p x) → (l.map f).Perm (m.map f) → l.Perm m
 | [], m, _, _, h => by
   have : m = [] := by have := h.length_eq; simpa using this.symm
   rw [this]
 | a :: l, m, hl, hm, h => by
   have ha : f a ∈ m.map f := h.mem_iff.1 (List.mem_cons_self ..)
   obtain ⟨b, hb, e⟩ := List.mem_map.1 ha
   have hab := hf b a (hm b hb) (hl a (List.mem_cons_self ..)) e
   subst hab
   obtain ⟨m1, m2, rfl⟩ := List.append_of_mem hb
   have h2 : (b :: (m1 ++ m2)).Perm (m1 ++ b :: m2) := List.perm_middle.symm
   have h3 := h.trans (h2.map f).symm
   simp only [List.map_cons] at h3
   have h4 := List.Perm.cons_inv h3
   exact ((Z5q hf (fun x hx => hl x (List.mem_cons_of_mem _ hx)) (fun x hx => hm x (h2.mem_iff.1 (List.mem_cons_of_mem _ hx))) h4).cons b).trans h2
def seeM (cl : List Int) (x : Nat) (n : Int) (t : Tm) : Seen := if n < 0 then ⟨false, 0, t⟩ else if n = (x : Int) then ⟨true, 0, ZC⟩ else ⟨false, 1 + cl.getD n.toNat 0, ZC⟩
def sgM (cl : List Int) (x : Nat) (s : Sd) : Sg := ⟨seeM cl x s.a s.q.s, seeM cl x s.b s.q.p, seeM cl x s.c s.q.o, seeM cl x s.d s.q.g⟩
theorem WG {cl : List Int} (hc : ∀ c ∈ cl, 0 ≤ c) (x : Nat) (n : Int) (t : Tm) : Z3K (seeM cl x n t) := by
 unfold seeM Z3K
 split
 · exact ⟨Int.le_refl _, fun h => (by cases h), fun h => (by simp at h)⟩
 · split
   · exact ⟨Int.le_refl _, fun _ => ⟨rfl, rfl⟩, fun h => (by simp at h)⟩
   · have : 0 ≤ cl.getD n.toNat 0 := by
       rw [List.getD_eq_getElem?_getD]
       cases h : cl[n.toNat]? with
       | none => simp
       | some c => exact hc c (List.mem_of_getElem? h)
     exact ⟨(by show 0 ≤ 1 + _; omega), fun h => (by cases h), fun _ => rfl⟩
theorem Z82 {cl : List Int} (hc : ∀ c ∈ cl, 0 ≤ c) (x : Nat) (s : Sd) : Z3L (sgM cl x s) := ⟨WG hc _ _ _, WG hc _ _ _, WG hc _ _ _, WG hc _ _ _⟩
def ZL (cl : List Int) (I : List (List Sd)) (x : Nat) : List Sg := (I.getD x []).map (sgM cl x)
def Xv (cl : List Int) (I : List (List Sd)) (x : Nat) : List LB := ((ZL cl I x).map YK).mergeSort (leC cmpL)
def keyM (cl : List Int) (I : List (List Sd)) (x : Nat) : LB := itoa (cl.getD x 0) ++ 10 :: VB (Xv cl I x)
theorem Z5r {cl : List Int} (hc : ∀ c ∈ cl, 0 ≤ c) (I : List (List Sd)) (x : Nat) : ∀ t ∈ Xv cl I x, IsSg t := by
 intro t ht
 have ht : t ∈ (ZL cl I x).map YK := (List.mergeSort_perm _ _).mem_iff.1 ht
 obtain ⟨s, hs, rfl⟩ := List.mem_map.1 ht
 unfold ZL at hs
 obtain ⟨d, _, rfl⟩ := List.mem_map.1 hs
 exact ⟨_, Z82 hc x d, rfl⟩
theorem Z0Y {cl : List Int} (hc : ∀ c ∈ cl, 0 ≤ c) (I : List (List Sd)) (x : Nat) : ∀ s ∈ ZL cl I x, Z3L s := by
 intro s hs
 unfold ZL at hs
 obtain ⟨d, _, rfl⟩ := List.mem_map.1 hs
 exact Z82 hc x d
theorem Zb9 {cl : List Int} (hc : ∀ c ∈ cl, 0 ≤ c) (I : List (List Sd)) (x y : Nat) : keyM cl I x = keyM cl I y ↔ cl.getD x 0 = cl.getD y 0 ∧ (ZL cl I x).Perm (ZL cl I y) := by
 constructor
 · intro h
   obtain ⟨h1, h2⟩ := WE (d := 10) (by decide) (by decide) h
   refine ⟨h1, ?_⟩
   have h3 := Z9m (Z5r hc I x) (Z5r hc I y) h2
   unfold Xv at h3
   have h4 : ((ZL cl I x).map YK).Perm ((ZL cl I y).map YK) := ((List.mergeSort_perm _ _).symm.trans (by rw [h3])).trans (List.mergeSort_perm _ _)
   exact Z5q (p := Z3L) (fun a b ha hb => Z81 ha hb) (Z0Y hc I x) (Z0Y hc I y) h4
 · rintro ⟨h1, h2⟩
   unfold keyM Xv
   rw [h1, Z1P triL (Wb triL _) (Wb triL _) (((List.mergeSort_perm _ _).trans (h2.map YK)).trans (List.mergeSort_perm _ _).symm)]
section
variable {α : Type} [BEq α] [LawfulBEq α]
def Zm (l : List α) : List α := l.foldl (fun acc k => if k ∈ acc then acc else acc ++ [k]) []
theorem Ya (l : List α) {i : Nat} (h : i < l.length) : Zm (l.take (i + 1)) = if l[i] ∈ Zm (l.take i) then Zm (l.take i) else Zm (l.take i) ++ [l[i]] := by
 unfold Zm
 rw [List.take_succ_eq_append_getElem h, List.foldl_append]; rfl
theorem Z1Q (l : List α) : ∀ (i j : Nat), i ≤ j → ∃ m, Zm (l.take j) = Zm (l.take i) ++ m
 | i, j, h => by
   induction j with
   | zero => have : i = 0 := by omega
             subst this; exact ⟨[], by simp⟩
   | succ j ih =>
     by_cases e : i = j + 1
     · subst e; exact ⟨[], by simp⟩
     · obtain ⟨m, hm⟩ := ih (by omega)
       by_cases hl : j < l.length
       · rw [Ya l hl]
         split
         · exact ⟨m, hm⟩
         · exact ⟨m ++ [l[j]], by rw [hm, List.append_assoc]⟩
       · rw [List.take_of_length_le (by omega)]
         rw [List.take_of_length_le (by omega)] at hm
         exact ⟨m, hm⟩
theorem Vv (l : List α) (i : Nat) : (Zm (l.take i)).length ≤ i := by
 induction i with
 | zero => simp [Zm]
 | succ i ih =>
   by_cases hl : i < l.length
   · rw [Ya l hl]
     split
     · omega
     · simp; omega
   · rw [List.take_of_length_le (by omega)] at ih ⊢
     omega
theorem Z1R (l : List α) {i : Nat} (h : i < l.length) : l[i] ∈ Zm (l.take (i + 1)) := by
 rw [Ya l h]
 split
 · assumption
 · simp
theorem Vf (l : List α) (i : Nat) : (Zm (l.take i)).Nodup := by
 induction i with
 | zero => simp [Zm]
 | succ i ih =>
   by_cases hl : i < l.length
   · rw [Ya l hl]
     split
     · exact ih
     · rename_i hn
       exact List.nodup_append.2 ⟨ih, by simp, fun a ha b hb => by rw [List.mem_singleton.1 hb]; exact fun e => hn (e ▸ ha)⟩
   · rw [List.take_of_length_le (by omega)] at ih ⊢
     exact ih
def Yj (l : List α) : List Int := l.map fun k => ((Zm l).idxOf k : Int)
theorem Xi (l : List α) : (Yj l).length = l.length := by simp [Yj]
theorem Zba {a m : List α} {k : α} (h : k ∈ a) : (a ++ m).idxOf k = a.idxOf k := by rw [List.idxOf_append, if_pos h]
theorem Z2C (l : List α) {i : Nat} (h : i < l.length) : (Yj l)[i]? = some (((Zm (l.take (i + 1))).idxOf l[i] : Nat) : Int) := by
 unfold Yj
 rw [List.getElem?_map, List.getElem?_eq_getElem h]
 obtain ⟨m, hm⟩ := Z1Q l (i + 1) l.length (by omega)
 rw [List.take_length] at hm
 simp only [Option.map_some]
 rw [hm, Zba (Z1R l h)]
theorem Z2D (l : List α) {i : Nat} (h : i < l.length) (hm : l[i] ∈ Zm (l.take i)) : (Yj l)[i]? = some (((Zm (l.take i)).idxOf l[i] : Nat) : Int) := by
 rw [Z2C l h, Ya l h, if_pos hm]
theorem WH (l : List α) {i : Nat} (h : i < l.length) (hm : l[i] ∉ Zm (l.take i)) : (Yj l)[i]? = some (((Zm (l.take i)).length : Nat) : Int) := by
 rw [Z2C l h, Ya l h, if_neg hm, List.idxOf_append, if_neg hm]
 simp
theorem Z1S (l : List α) : ∀ c ∈ Yj l, 0 ≤ c ∧ c < ((Zm l).length : Int) := by
 intro c hc
 obtain ⟨i, hi, rfl⟩ := List.mem_iff_getElem.1 hc
 rw [Xi] at hi
 have h1 := Z2C l hi
 rw [List.getElem?_eq_getElem (by rw [Xi]; exact hi)] at h1
 have h2 := List.idxOf_lt_length_of_mem (Z1R l hi)
 obtain ⟨m, hm⟩ := Z1Q l (i + 1) l.length (by omega)
 rw [List.take_length] at hm
 rw [hm, List.length_append]
 injection h1 with h1
 rw [h1]
 omega
end
end Go.Our
namespace Go.Sx
open Go Go.Sort Go.Shelf Go.Proofs
theorem FrW.grew {w0 w : World} {F : Nat → Prop} (h : FrW w0 w F) (q : Nat) (os : Array Obj) : FrW w0 (grow (w.drewN q) os) F := by
 refine ⟨h.os, h.tape, h.output, Nat.le_trans h.drawn (Nat.le_add_right _ _), ?_, fun k hk hF => ?_⟩
 · simp only [grow, World.drewN, Array.size_append]; exact Nat.le_trans h.size (Nat.le_add_right _ _)
 · simp only [grow, World.drewN]
   rw [Array.getElem?_append_left (Nat.lt_of_lt_of_le hk h.size)]
   exact h.block k hk hF
theorem HeapOK.grew {M : Mx} {η : Env} {w : World} {O : Hps} {nx : Nat} (H : HeapOK M η w O nx) (q : Nat) (os : Array Obj) : HeapOK M η (grow (w.drewN q) os) O nx := by
 have hk : ∀ {i h}, lkp i O = some h → ∀ k, feet η w (.loc i) h k → (grow (w.drewN q) os).heap[k]? = w.heap[k]? := fun hi k f => by
   simp only [grow, World.drewN]
   exact Array.getElem?_append_left ((H.own.1 _ _ hi).1.feet_lt f)
 have hb : ∀ {i h}, lkp i O = some h → ∀ k, feet η (grow (w.drewN q) os) (.loc i) h k → feet η w (.loc i) h k := fun hi k f => H.stands List.prefix_rfl hi (hk hi) f
 exact ⟨H.pre, H.len, ⟨fun i h hi => ⟨(H.own.1 i h hi).1.keep (hk hi), fun k f => (H.own.1 i h hi).2 k (hb hi k f)⟩, fun i j h h' k hi hj hij f f' => H.own.2 i j h h' k hi hj hij (hb hi k f) (hb hj k f')⟩, H.fr.grew q os, H.sok⟩
theorem Z84 {P : Program} {T : Tab} {ρ : Ren} (L : LaysM.n243 P ρ) (ef : ∀ args w, (callFunc (ρ.f 243) args).run P w = .ok (.enter (ρ.f 243) args) w) {g : Nat} (hgn : P.globalNamed "internal/strconv.uint64pow10" = some g)
   (hgl : lkp g T.globs = some (.tbl (Lib.pow10Tab.map fun z => Value.int .u64 z))) (n : Int) (h0 : -9223372036854775808 ≤ n) (h1 : n ≤ 9223372036854775807) :
   Does P T (ρ.f 243) 0 [.int .i64 n] [] [] (Val (.str (Lib.itoa n))) := by
 refine ⟨fun M vs hP hT' hF hS H hd => .inl ⟨ρ.f 243, by rw [hP]; exact ef _ _, ?_⟩⟩
 obtain ⟨P', ⟨T', N', S', ro'⟩, w0, F, η0⟩ := M
 simp only at hP hT' hF hS H hd ⊢
 subst hP hT'
 simp only [DenL, Den] at hd
 obtain ⟨v, us, rfl, rfl, rfl⟩ := hd
 have htab : Lib.TabIs P' w0 "internal/strconv.uint64pow10" .u64 Lib.pow10Tab := by
   have h := H.shared (b := .glob g) hgl
   simp only [HpSat, Env.get] at h
   obtain ⟨e, he, hb, T, fz, hc⟩ := h
   injection he with he; injection he with he; subst he
   unfold Lib.TabIs World.var?
   rw [hgn]
   simp only [Option.bind_some]
   rw [hc]
 refine (Any.internal_strconv_Itoa L n h0 h1 w0 htab).mono ?_
 rintro e w' ⟨rfl, q, os, rfl⟩
 exact ⟨_, rfl, _, _, _, η0, ⟨rfl, rfl, rfl⟩, List.prefix_rfl, H.grew q os, by simp only [Den]⟩
end Go.Sx
namespace Go.Our
open Go Go.Sx
section
variable {α : Type} {es : Nat} {f : α → List SV}
def kD (es : Nat) (f : α → List SV) (ss : List (List α)) : List (List DC) := ss.map fun l => [.kid es (l.map f)]
theorem Z8g [p : PlF f] : ∀ ss : List (List α), Zw (kD es f ss) = true
 | [] => rfl
 | l :: ss => by simp only [kD, List.map_cons, Zw, Yu, JT, ZZ f p.h l, Bool.and_self, Bool.true_and]; exact Z8g ss
instance [PlF f] {ss : List (List α)} : PlD (kD es f ss) := ⟨Z8g ss⟩
theorem Z8h {ss : List (List α)} {i k : Nat} (h : i < ss.length) (hk : k = i) : (kD es f ss)[k]? = some [.kid es (ss[i].map f)] := by
 subst hk; unfold kD; rw [List.getElem?_map, List.getElem?_eq_getElem h]; rfl
theorem Z8i {ss : List (List α)} {i k : Nat} (h : i < ss.length) (hk : k = i) : Wf (kD es f ss) k 0 = some (k, .kid es (ss[i].map f)) := by
 unfold Wf; rw [Z8h h hk]; rfl
theorem Z2J {ss : List (List α)} {i k : Nat} {rows : List (List SV)} {n : Nat} {l : List α} (hk : k = i) (hr : rows.take n = l.map f) : (kD es f ss).modify k (fun row => row.set 0 (.kid es (rows.take n))) = kD es f (ss.set i l) := by
 subst hk
 rw [hr]
 unfold kD
 apply List.ext_getElem?
 intro a
 rw [List.getElem?_modify, List.getElem?_map, List.getElem?_map, List.getElem?_set]
 by_cases ha : k = a
 · subst ha
   rw [if_pos rfl]
   cases h : ss[k]? with
   | none => rw [if_neg (by rw [List.getElem?_eq_none_iff] at h; omega)]; simp
   | some x => rw [if_pos (List.getElem?_eq_some_iff.1 h).1]; simp
 · rw [if_neg ha]
   cases ss[a]? <;> simp [ha]
theorem UL {ss : List (List α)} {i k : Nat} {sv : SV} (h : i < ss.length) (hk : k = i) : (setC (kD es f ss) k 0 (.v sv))[i]? = some [.v sv] := by
 subst hk
 rw [Zt, if_pos rfl, Z8h h rfl]; rfl
theorem WN {ss : List (List α)} {i j k : Nat} {sv : SV} (h : j < ss.length) (hk : k = i) (hne : j ≠ i) : (setC (kD es f ss) k 0 (.v sv))[j]? = some [.kid es (ss[j].map f)] := by
 subst hk
 rw [Zt, if_neg hne, Z8h h rfl]
theorem Uu {rs : List (List DC)} {r r' c c' : Nat} {d d' : DC} (h : r ≠ r') : setC (setC rs r c d) r' c' d' = setC (setC rs r' c' d') r c d := by
 apply List.ext_getElem?
 intro a
 rw [Zt, Zt, Zt, Zt]
 by_cases h1 : a = r <;> by_cases h2 : a = r'
 · exact (h (h1.symm.trans h2)).elim
 · rw [if_neg h2, if_pos h1, if_pos h1, if_neg h2]
 · rw [if_pos h2, if_neg h1, if_neg h1, if_pos h2]
 · rw [if_neg h2, if_neg h1, if_neg h1, if_neg h2]
theorem Z2K {ss : List (List α)} {i k n : Nat} {sv : SV} (h : i < ss.length) (hk : k = i) (hn : n = ss[i].length) : setC (setC (kD es f ss) k 0 (.v sv)) i 0 (.kid es ((ss[i].map f).take n)) = kD es f ss := by
 subst hk hn
 rw [setC_setC, List.take_of_length_le (by rw [List.length_map]; exact Nat.le_refl _)]
 apply List.ext_getElem?
 intro a
 rw [Zt]
 by_cases ha : a = k
 · subst ha; rw [if_pos rfl, Z8h h rfl]; rfl
 · rw [if_neg ha]
theorem Z2L {ss : List (List α)} {i j n m : Nat} {sv sv' : SV} (hj : j < ss.length) (hi : i < ss.length) (hne : j ≠ i) (hn : n = ss[j].length) (hm : m = ss[i].length) :
   setC (setC (setC (setC (kD es f ss) j 0 (.v sv)) i 0 (.v sv')) j 0 (.kid es ((ss[j].map f).take n))) i 0 (.kid es ((ss[i].map f).take m)) = kD es f ss := by
 rw [Uu (r := i) (r' := j) (fun e => hne e.symm), Z2K hj rfl hn, Z2K hi rfl hm]
theorem Zcs {ss : List (List α)} {i j : Nat} {sv sv' : SV} (hj : j < ss.length) (hi : i < ss.length) (hne : j ≠ i) :
   (Zo (setC (setC (kD es f ss) j 0 (.v sv)) i 0 (.v sv')))[j]? = some [sv] ∧ (Zo (setC (setC (kD es f ss) j 0 (.v sv)) i 0 (.v sv')))[i]? = some [sv'] ∧
   (setC (setC (kD es f ss) j 0 (.v sv)) i 0 (.v sv'))[j]? = some [.v sv] := by
 refine ⟨?_, YI (WN hi rfl (fun e => hne e.symm)), ?_⟩
 · rw [Uu hne]
   exact YI (WN hj rfl hne)
 · rw [Uu hne, Zt, if_pos rfl, WN hj rfl hne]; rfl
theorem Z8j {ss : List (List α)} {i j n : Nat} {sv sv' : SV} (hj : j < ss.length) (hi : i < ss.length) (hne : j ≠ i) (hn : n = ss[j].length) :
   (setC (setC (setC (kD es f ss) j 0 (.v sv)) i 0 (.v sv')) j 0 (.kid es ((ss[j].map f).take n)))[i]? = some [.v sv'] := by
 rw [Uu (r := i) (r' := j) (fun e => hne e.symm), Z2K hj rfl hn]
 exact UL hi rfl
theorem Z8k (es : Nat) (f : α → List SV) (n : Nat) : Um (List.replicate n [SV.val (.slice none 0 0)]) (kD es f (List.replicate n [])) := by
 refine ⟨by simp [kD], fun a row' h => ?_⟩
 unfold kD at h
 rw [List.map_replicate] at h
 obtain ⟨ha, hr⟩ := List.getElem?_eq_some_iff.1 h
 rw [List.length_replicate] at ha
 rw [List.getElem_replicate] at hr
 subst hr
 refine ⟨_, by rw [List.getElem?_replicate, if_pos ha], ?_⟩
 exact And.intro (.inr ⟨rfl, es, rfl⟩) trivial
end
end Go.Our
