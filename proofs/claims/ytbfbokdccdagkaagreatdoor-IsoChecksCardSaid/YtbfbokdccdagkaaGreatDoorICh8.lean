/- Part 8: SxDrawn, SxDrawnS, SxDrawnT, SxAuto3, CmpM, SetM, SetN, ListM, MapG, ApartM, Sort, SxRange, SortS, SetO, SxKeep, SplitM, TagM, TermM, ValidM, InferM, WorldM, CloseM. Conditions: as each part says. -/
import Derived.Lib.Bytealg
import Derived.Lib.Strings
import Derived.Shelf.SlSortCmp.NoneTotal
import Derived.RangeFuncNested
import Derived.Shelf.Sort.Plain
import Derived.Shelf.Slices.In.SortNone
import Derived.Test.YtbfbokdccdagkaaGreatDoorICh4
import Derived.Test.YtbfbokdccdagkaaGreatDoorICh7
set_option linter.unusedVariables false
set_option linter.unusedSimpArgs false
namespace Go.Sx
open Go
def Det (v : SV) : Prop := ∀ η u u', Den η v u → Den η v u' → u = u'
def DetL (vs : List SV) : Prop := ∀ η us us', DenL η vs us → DenL η vs us' → us = us'
mutual
def detV : SV → Bool
 | .bool _ | .int _ _ | .str _ | .ptr _ _ _ _ | .val _ | .mp _ | .yf _ => true
 | .dfs _ => false
 | .sl _ r _ _ _ => Nat.beq r 0
 | .agg cs => Z2m cs
 | .tup vs => Z2m vs
 | .ifc _ v => detV v
 | .fn _ a b => Z2m a && Z2m b
 | .arr _ _ => false
 | .any => false
 | .nb _ => false
def Z2m : List SV → Bool
 | [] => true
 | c :: cs => detV c && Z2m cs
end
mutual
theorem Det.of : ∀ {v : SV}, detV v = true → Det v
 | .bool _, _ => fun η u u' h h' => by simp only [Den] at h h'; rw [h, h']
 | .int _ _, _ => fun η u u' h h' => by simp only [Den] at h h'; rw [h, h']
 | .str _, _ => fun η u u' h h' => by simp only [Den] at h h'; rw [h, h']
 | .val _, _ => fun η u u' h h' => by simp only [Den] at h h'; rw [h.1, h'.1]
 | .mp b, _ => fun η u u' h h' => by
   simp only [Den] at h h'
   obtain ⟨e, h1, rfl⟩ := h
   obtain ⟨e', h2, rfl⟩ := h'
   rw [h1] at h2; injection h2 with h2; injection h2 with h2; rw [h2]
 | .ptr b r es c, _ => fun η u u' h h' => by
   simp only [Den] at h h'
   obtain ⟨e, h1, rfl⟩ := h
   obtain ⟨e', h2, rfl⟩ := h'
   rw [h1] at h2; injection h2 with h2; injection h2 with h2; rw [h2]
 | .sl b r es len lim, hd => fun η u u' h h' => by
   simp only [detV] at hd
   have hd := Zy hd
   simp only [Den] at h h'
   rcases h with ⟨h1, rfl, _⟩ | ⟨e, o, h1, rfl, _, _, h2⟩
   · rcases h' with ⟨h1', rfl, _⟩ | ⟨e', o', h1', rfl, _, _, h2'⟩
     · rfl
     · rw [h1] at h1'; cases h1'
   · rcases h' with ⟨h1', rfl, _⟩ | ⟨e', o', h1', rfl, _, _, h2'⟩
     · rw [h1] at h1'; cases h1'
     · rw [h1] at h1'; injection h1' with h1'; injection h1' with h1'; subst h1'
       rw [h2 (.inr hd), h2' (.inr hd)]
 | .agg cs, hd => fun η u u' h h' => by
   simp only [detV] at hd
   simp only [Den] at h h'
   obtain ⟨us, rfl, h1, _⟩ := h
   obtain ⟨us', rfl, h2, _⟩ := h'
   rw [DetL.of hd η us us' h1 h2]
 | .tup cs, hd => fun η u u' h h' => by
   simp only [detV] at hd
   simp only [Den] at h h'
   obtain ⟨us, rfl, h1⟩ := h
   obtain ⟨us', rfl, h2⟩ := h'
   rw [DetL.of hd η us us' h1 h2]
 | .ifc t v, hd => fun η u u' h h' => by
   simp only [detV] at hd
   simp only [Den] at h h'
   obtain ⟨us, rfl, h1⟩ := h
   obtain ⟨us', rfl, h2⟩ := h'
   rw [Det.of hd η us us' h1 h2]
 | .fn f a b, hd => fun η u u' h h' => by
   simp only [detV, Bool.and_eq_true] at hd
   simp only [Den] at h h'
   obtain ⟨us, vs, rfl, h1, h3⟩ := h
   obtain ⟨us', vs', rfl, h2, h4⟩ := h'
   rw [DetL.of hd.1 η us us' h1 h2, DetL.of hd.2 η vs vs' h3 h4]
 | .arr _ _, hd => by simp [detV] at hd
 | .any, hd => by simp [detV] at hd
 | .nb _, hd => by simp [detV] at hd
 | .dfs _, hd => by simp [detV] at hd
 | .yf b, _ => fun η u u' h h' => by
   simp only [Den] at h h'
   obtain ⟨e, h1, rfl⟩ := h
   obtain ⟨e', h2, rfl⟩ := h'
   rw [h1] at h2; injection h2 with h2; injection h2 with h2; rw [h2]
theorem DetL.of : ∀ {vs : List SV}, Z2m vs = true → DetL vs
 | [], _ => fun η us us' h h' => by simp only [DenL] at h h'; rw [h, h']
 | c :: cs, hd => fun η us us' h h' => by
   simp only [Z2m, Bool.and_eq_true] at hd
   simp only [DenL] at h h'
   obtain ⟨u, r, rfl, h1, h2⟩ := h
   obtain ⟨u', r', rfl, h1', h2'⟩ := h'
   rw [Det.of hd.1 η u u' h1 h1', DetL.of hd.2 η r r' h2 h2']
end
def We : Hps → List (Blk × Hp)
 | [] => []
 | (i, h) :: r => (.loc i, h) :: We r
def Z4F (C : Cx) (O : Hps) : Cx := ⟨C.T, C.N, We O ++ C.S, C.ro⟩
def Z1F (C : Cx) : Cx := ⟨{ C.T with globs := [], gplain := rfl }, C.N, [], C.ro⟩
def shMx (M : Mx) (O : Hps) (η : Env) (w : World) : Mx := ⟨M.P, Z4F M.C O, w, fun _ => False, η⟩
def blMx (M : Mx) (η : Env) (w : World) : Mx := ⟨M.P, Z1F M.C, w, fun _ => False, η⟩
def Z3C : SV → Prop → Prop
 | .bool _, K | .int _ _, K | .str _, K | .ptr _ _ _ _, K | .val _, K => K
 | .agg cs, K => match Z2m cs with | true => K | false => NEED (Det (.agg cs)) K
 | .tup cs, K => match Z2m cs with | true => K | false => NEED (Det (.tup cs)) K
 | v, K => NEED (Det v) K
def Z7t (N : Nat) (C : Cx) (o : Oper) (fr : Fr) (nx : Nat) (K : SV → Prop) : Prop :=
 match V2 N o.dst with
 | false => STOP "slot"
 | true => match o.op with
   | .move x => match VC fr x with | some v => K v | none => STOP "operand"
   | .assign x => match VC fr x with | some v => K v | none => STOP "operand"
   | op => match ZaT op with
     | true => STOP "writes"
     | false => (opR C (VC fr) [] nx op).gv fun v => Z3C v (K v)
structure ADD (M : Mx) (o : Oper) (fr : Fr) (O : Hps) (nx : Nat) (K : SV → Hps → Nat → Prop) : Prop where
 out : ∀ η w, Z2l (shMx M O η w) o (VC fr) [] nx fun v O2 nx => K v (O2 ++ O) nx
def Z8G (M : Mx) (m : Nat) (o : Oper) (fr : Fr) (O : Hps) (nx : Nat) (K : SV → Hps → Nat → Prop) : Prop :=
 match m with
 | 0 => Z2l M o (VC fr) O nx K
 | 1 => Z7t M.C.N (Z1F M.C) o fr nx fun v => K v O nx
 | 2 => Z7t M.C.N (Z4F M.C O) o fr nx fun v => K v O nx
 | _ => ADD M o fr O nx K
inductive Plan where
 | nil
 | take (i m : Nat) (t : Plan)
 | fork (i mi j mj : Nat) (a b : Plan)
 | fork3 (i mi j mj k mk : Nat) (a b c : Plan)
 | join (t : Plan)
def ZO : List (Nat × Nat) → Plan
 | [] => .nil
 | (i, m) :: r => .take i m (ZO r)
def Plan.depth : Plan → Nat
 | .nil => 0
 | .take _ _ t => t.depth + 1
 | .fork _ _ _ _ a _ => a.depth + 1
 | .fork3 _ _ _ _ _ _ a _ _ => a.depth + 1
 | .join t => t.depth
structure FORK (A B : Prop) : Prop where
 a : A
 b : B
structure JOIN (A : Fr → Prop) (fr : Fr) : Prop where
 out : ∃ fr', (∀ t, lkp t fr' = lkp t fr) ∧ A fr'
theorem JOIN.go {A : Fr → Prop} {fr : Fr} (h : A fr) : JOIN A fr := ⟨fr, fun _ => rfl, h⟩
theorem JOIN.ij {A : Fr → Prop} {fr : Fr} {a b c s : Nat} {x y z g : SV} (h : A ((b, y) :: (c, z) :: (a, x) :: (s, g) :: fr)) (hd : (a ≠ s ∧ b ≠ s ∧ c ≠ s) ∧ a ≠ b ∧ a ≠ c ∧ b ≠ c) : JOIN A ((b, y) :: (s, g) :: (c, z) :: (s, g) :: (a, x) :: (s, g) :: fr) := by
 refine ⟨_, fun t => ?_, h⟩
 obtain ⟨⟨h1, h2, h3⟩, h4, h5, h6⟩ := hd
 simp only [Zk]
 repeat' split
 all_goals first | rfl | (exfalso; omega)
theorem JOIN.ji {A : Fr → Prop} {fr : Fr} {a b c s : Nat} {x y z g : SV} (h : A ((b, y) :: (c, z) :: (a, x) :: (s, g) :: fr)) (hd : (a ≠ s ∧ b ≠ s ∧ c ≠ s) ∧ a ≠ b ∧ a ≠ c ∧ b ≠ c) : JOIN A ((c, z) :: (s, g) :: (a, x) :: (s, g) :: (b, y) :: (s, g) :: fr) := by
 refine ⟨_, fun t => ?_, h⟩
 obtain ⟨⟨h1, h2, h3⟩, h4, h5, h6⟩ := hd
 simp only [Zk]
 repeat' split
 all_goals first | rfl | (exfalso; omega)
def oneD (M : Mx) (ops : List Oper) (i m : Nat) (fr : Fr) (O : Hps) (nx : Nat) (K : Fr → Hps → Nat → Prop) : Prop :=
 match nth ops i with
 | none => STOP "order"
 | some o => match o.guard with
   | none => Z8G M m o fr O nx fun v O nx => putK o.dst v fr fun fr => K fr O nx
   | some (j, want) =>
     match VE ops j with
     | none => STOP "guard"
     | some s => match lkp s fr with
       | some (.bool b) => IF b
         (fun J => match want with
          | true => Z8G M m o ((s, .bool true) :: fr) O nx fun v O nx => putK o.dst v ((s, .bool true) :: fr) fun fr => J fr O nx
          | false => match V2 M.C.N o.dst with | true => putK o.dst YT ((s, .bool true) :: fr) fun fr => J fr O nx | false => STOP "slot")
         (fun J => match want with
          | false => Z8G M m o ((s, .bool false) :: fr) O nx fun v O nx => putK o.dst v ((s, .bool false) :: fr) fun fr => J fr O nx
          | true => match V2 M.C.N o.dst with | true => putK o.dst YT ((s, .bool false) :: fr) fun fr => J fr O nx | false => STOP "slot")
         K
       | some (.tup []) => match V2 M.C.N o.dst with | true => putK o.dst YT fr fun fr => K fr O nx | false => STOP "slot"
       | _ => STOP "guard"
def runD (M : Mx) (ops : List Oper) : Plan → Fr → Hps → Nat → (Fr → Hps → Nat → Prop) → Prop
 | .nil, fr, O, nx, K => K fr O nx
 | .take i m rest, fr, O, nx, K => oneD M ops i m fr O nx fun fr O nx => runD M ops rest fr O nx K
 | .fork i mi j mj a b, fr, O, nx, K => FORK (oneD M ops i mi fr O nx fun fr O nx => runD M ops a fr O nx K) (oneD M ops j mj fr O nx fun fr O nx => runD M ops b fr O nx K)
 | .fork3 i mi j mj k mk a b c, fr, O, nx, K => FORK (oneD M ops i mi fr O nx fun fr O nx => runD M ops a fr O nx K) (FORK (oneD M ops j mj fr O nx fun fr O nx => runD M ops b fr O nx K) (oneD M ops k mk fr O nx fun fr O nx => runD M ops c fr O nx K))
 | .join t, fr, O, nx, K => JOIN (fun fr => runD M ops t fr O nx K) fr
theorem FORK.skip {M : Mx} {ops : List Oper} {i mi j mj k mk : Nat} {p : Plan} {fr : Fr} {O : Hps} {nx : Nat} {K : Fr → Hps → Nat → Prop} (a b c s : Nat)
   (ha : runD M ops p ((b, YT) :: (c, YT) :: (a, YT) :: (s, .bool false) :: fr) O nx K → oneD M ops i mi fr O nx fun fr O nx => runD M ops (.take k mk (.take j mj (.join p))) fr O nx K)
   (hb : runD M ops p ((b, YT) :: (c, YT) :: (a, YT) :: (s, .bool false) :: fr) O nx K → oneD M ops j mj fr O nx fun fr O nx => runD M ops (.take i mi (.take k mk (.join p))) fr O nx K)
   (r : runD M ops p ((b, YT) :: (c, YT) :: (a, YT) :: (s, .bool false) :: fr) O nx K) :
   FORK (oneD M ops i mi fr O nx fun fr O nx => runD M ops (.take k mk (.take j mj (.join p))) fr O nx K) (oneD M ops j mj fr O nx fun fr O nx => runD M ops (.take i mi (.take k mk (.join p))) fr O nx K) := ⟨ha r, hb r⟩
theorem oneD.pass {M : Mx} {ops : List Oper} {i m : Nat} {fr : Fr} {O : Hps} {nx : Nat} {K : Fr → Hps → Nat → Prop} {o : Oper} {g s a : Nat} {e : Bool}
   (h1 : nth ops i = some o) (h2 : o.guard = some (g, true)) (h3 : VE ops g = some s) (h4 : lkp s fr = some (.bool e)) (he : e = false) (h5 : o.dst = some a) (h6 : Nat.blt a M.C.N = true)
   (h : K ((a, YT) :: (s, .bool false) :: fr) O nx) : oneD M ops i m fr O nx K := by
 subst he
 unfold oneD
 simp only [h1, h2, h3, h4, h5, V2, h6, putK]
 exact IF.ff h
theorem FORK.pass {M : Mx} {ops : List Oper} {i mi j mj k mk : Nat} {p : Plan} {fr : Fr} {O : Hps} {nx : Nat} {K : Fr → Hps → Nat → Prop} (a b c s : Nat) {oi oj ok : Oper} {gi gj gk : Nat} {e : Bool}
   (hi : nth ops i = some oi) (hj : nth ops j = some oj) (hk : nth ops k = some ok)
   (ei : oi.guard = some (gi, true)) (ej : oj.guard = some (gj, true)) (ek : ok.guard = some (gk, true))
   (si : VE ops gi = some s) (sj : VE ops gj = some s) (sk : VE ops gk = some s)
   (di : oi.dst = some a) (dj : oj.dst = some b) (dk : ok.dst = some c)
   (ni : Nat.blt a M.C.N = true) (nj : Nat.blt b M.C.N = true) (nk : Nat.blt c M.C.N = true)
   (hf : lkp s fr = some (.bool e)) (he : e = false)
   (hd : (a ≠ s ∧ b ≠ s ∧ c ≠ s) ∧ a ≠ b ∧ a ≠ c ∧ b ≠ c)
   (r : runD M ops p ((b, YT) :: (c, YT) :: (a, YT) :: (s, .bool false) :: fr) O nx K) :
   FORK (oneD M ops i mi fr O nx fun fr O nx => runD M ops (.take k mk (.take j mj (.join p))) fr O nx K) (oneD M ops j mj fr O nx fun fr O nx => runD M ops (.take i mi (.take k mk (.join p))) fr O nx K) := by
 have l1 : ∀ {v : SV} {t : Nat}, t ≠ s → lkp s ((t, v) :: (s, .bool false) :: fr) = some (.bool false) := fun h => by
   rw [Zk, if_neg (fun h' => h h'.symm), Zk, if_pos rfl]
 obtain ⟨⟨a1, a2, a3⟩, hd2⟩ := id hd
 have l2 : ∀ {v w : SV} {t u : Nat}, t ≠ s → u ≠ s → lkp s ((t, v) :: (s, .bool false) :: (u, w) :: (s, .bool false) :: fr) = some (.bool false) := fun h _ => by
   rw [Zk, if_neg (fun h' => h h'.symm), Zk, if_pos rfl]
 constructor
 · refine oneD.pass hi ei si hf he di ni ?_
   show oneD M ops k mk _ O nx fun fr O nx => runD M ops (.take j mj (.join p)) fr O nx K
   refine oneD.pass hk ek sk (l1 a1) rfl dk nk ?_
   show oneD M ops j mj _ O nx fun fr O nx => runD M ops (.join p) fr O nx K
   refine oneD.pass hj ej sj (l2 a3 a1) rfl dj nj ?_
   exact JOIN.ij r hd
 · refine oneD.pass hj ej sj hf he dj nj ?_
   show oneD M ops i mi _ O nx fun fr O nx => runD M ops (.take k mk (.join p)) fr O nx K
   refine oneD.pass hi ei si (l1 a2) rfl di ni ?_
   show oneD M ops k mk _ O nx fun fr O nx => runD M ops (.join p) fr O nx K
   refine oneD.pass hk ek sk (l2 a1 a2) rfl dk nk ?_
   exact JOIN.ji r hd
def Va (acc : List Nat) (o : Oper) : Nat := o.after.foldl (fun s e => if Region.binds .any e then s ||| 2 ^ e.on ||| acc.getD e.on 0 else s) 0
def Z0r : List Oper → List Nat → List Nat
 | [], acc => acc
 | o :: r, acc => Z0r r (acc ++ [Va acc o])
def Z1G (i : Nat) : Nat → List Nat → List Nat
 | 0, l => i :: l
 | _, l => l
def Z0a (m : Nat) : Bool := m == 0 || m == 3
def Zz : Plan → List Nat
 | .nil => []
 | .take i 0 t => i :: Zz t
 | .take _ _ t => Zz t
 | .fork i mi j mj a b => Z1G i mi (Z1G j mj (Zz a ++ Zz b))
 | .fork3 i mi j mj k mk a b c => Z1G i mi (Z1G j mj (Z1G k mk (Zz a ++ (Zz b ++ Zz c))))
 | .join t => Zz t
def XE (ops : Array Oper) (ms : List Nat) : Plan → Array Bool → Bool
 | .nil, l => (Region.ready .any ops l).isEmpty
 | .take i m rest, l =>
   (match m with
    | 0 => Region.ready .any ops l == [i]
    | 1 => (Region.ready .any ops l).contains i && Region.free .any ops l i && (Zz rest).all (fun k => k != i)
    | 2 => (Region.ready .any ops l).contains i && Region.free .any ops l i && (Zz rest).all (fun k => k != i && (ms.getD k 0).testBit i)
    | _ => Region.ready .any ops l == [i]) &&
   XE ops ms rest (l.setIfInBounds i true)
 | .fork i mi j mj a b, l => Region.ready .any ops l == [i, j] && Z0a mi && Z0a mj && a.depth == b.depth && XE ops ms a (l.setIfInBounds i true) && XE ops ms b (l.setIfInBounds j true)
 | .fork3 i mi j mj k mk a b c, l => Region.ready .any ops l == [i, j, k] && Z0a mi && Z0a mj && Z0a mk && a.depth == b.depth && a.depth == c.depth && XE ops ms a (l.setIfInBounds i true) && XE ops ms b (l.setIfInBounds j true) && XE ops ms c (l.setIfInBounds k true)
 | .join t, l => XE ops ms t l
def Z8H (ops : Array Oper) (steps : Plan) : Bool :=
 Region.noSelect ops && steps.depth == ops.size && XE ops (Z0r ops.toList []) steps (Array.replicate ops.size false)
end Go.Sx
namespace Go.Sx
open Go
theorem Z2Z : ∀ (os : List Oper) (acc : List Nat), (Z0r os acc).take acc.length = acc ∧ ∀ j o, os[j]? = some o → (Z0r os acc)[acc.length + j]? = some (Va ((Z0r os acc).take (acc.length + j)) o)
 | [], acc => ⟨by simp [Z0r], fun j o h => by simp at h⟩
 | o :: os, acc => by
   simp only [Z0r]
   obtain ⟨h1, h2⟩ := Z2Z os (acc ++ [Va acc o])
   simp only [List.length_append, List.length_singleton] at h1 h2
   have h0 : (Z0r os (acc ++ [Va acc o])).take acc.length = acc := by
     have := congrArg (List.take acc.length) h1
     rw [List.take_take] at this
     simpa using this
   refine ⟨h0, fun j o' hj => ?_⟩
   cases j with
   | zero =>
     simp at hj; subst hj
     rw [Nat.add_zero, h0]
     have := congrArg (fun l : List Nat => l[acc.length]?) h1
     simpa [List.getElem?_take] using this
   | succ j =>
     have := h2 j o' (by simpa using hj)
     rw [show acc.length + (j + 1) = acc.length + 1 + j by omega]
     exact this
theorem Z2n {acc : List Nat} {o : Oper} {i : Nat} (h : (Va acc o).testBit i = true) : ∃ e ∈ o.after, Region.binds .any e = true ∧ (e.on = i ∨ (acc.getD e.on 0).testBit i = true) := by
 unfold Va at h
 rw [← Array.foldl_toList] at h
 have key : ∀ (es : List Edge) (s : Nat), (es.foldl (fun s e => if Region.binds .any e then s ||| 2 ^ e.on ||| acc.getD e.on 0 else s) s).testBit i = true →
     s.testBit i = true ∨ ∃ e ∈ es, Region.binds .any e = true ∧ (e.on = i ∨ (acc.getD e.on 0).testBit i = true) := by
   intro es
   induction es with
   | nil => intro s h; exact .inl h
   | cons e es ih =>
     intro s h
     simp only [List.foldl_cons] at h
     rcases ih _ h with h | ⟨e', he', h⟩
     · split at h
       · rename_i hb
         simp only [Nat.testBit_or, Bool.or_eq_true] at h
         rcases h with (h | h) | h
         · exact .inl h
         · refine .inr ⟨e, List.mem_cons_self .., hb, .inl ?_⟩
           rw [Nat.testBit_two_pow] at h
           simpa using h
         · exact .inr ⟨e, List.mem_cons_self .., hb, .inr h⟩
       · exact .inl h
     · exact .inr ⟨e', List.mem_cons_of_mem _ he', h⟩
 rcases key _ _ h with h | ⟨e, he, h⟩
 · simp at h
 · exact ⟨e, by simpa using he, h⟩
theorem Z4G {ops : Array Oper} {l : Array Bool} (hc : Closed .any ops l) {i : Nat} : ∀ (k : Nat), ((Z0r ops.toList []).getD k 0).testBit i = true → l.getD k false = true → l.getD i false = true := by
 intro k
 induction k using Nat.strongRecOn with
 | _ k ih =>
   intro h hk
   cases hg : (Z0r ops.toList [])[k]? with
   | none => rw [List.getD_eq_getElem?_getD, hg] at h; simp at h
   | some m =>
     have hlt : k < ops.size := by
       rcases Nat.lt_or_ge k ops.size with h' | h'
       · exact h'
       · rw [← hc.1] at h'
         simp [Array.getElem?_eq_none h'] at hk
     have ho : ops[k]? = some ops[k] := Array.getElem?_eq_getElem hlt
     have hm := (Z2Z ops.toList []).2 k ops[k] (by simp)
     simp only [List.length_nil, Nat.zero_add] at hm
     rw [List.getD_eq_getElem?_getD, hm, Option.getD_some] at h
     obtain ⟨e, he, hb, h⟩ := Z2n h
     have hon := hc.2 k _ ho hk e he hb
     rcases h with rfl | h
     · exact hon
     · rw [List.getD_eq_getElem?_getD, List.getElem?_take] at h
       split at h
       · rename_i hlt'
         exact ih e.on hlt' (by rw [List.getD_eq_getElem?_getD]; exact h) hon
       · simp at h
def agree (w w' : World) : Prop := ∀ k, k < w.heap.size → w'.heap[k]? = w.heap[k]?
theorem agree.refl (w : World) : agree w w := fun _ _ => rfl
theorem agree.trans {a b c : World} (h : agree a b) (k : agree b c) : agree a c := fun n hn => by
 have h1 := h n hn
 have hlt : n < b.heap.size := by
   rw [Array.getElem?_eq_getElem hn] at h1
   exact (Array.getElem?_eq_some_iff.1 h1).1
 rw [k n hlt, h1]
section
variable {M : Mx} {η : Env} {w : World} {O : Hps} {nx : Nat}
theorem Z1H {C : Cx} : ∀ {O : Hps} {j : Nat}, lkpB (.loc j) (We O ++ C.S) = JD C O (.loc j)
 | [], j => by simp [We, JD, lkp]
 | (i, h) :: r, j => by
   have ih := Z1H (C := C) (O := r) (j := j)
   simp only [We, List.cons_append, lkpB, Z89, JD, lkp]
   cases e : Nat.beq j i
   · simp only [e]; rw [ih]; rfl
   · simp only [e]
theorem Z7u {C : Cx} {O : Hps} {b : Blk} : lkS (Z4F C O) b = JD C O b := by
 cases b with
 | glob g => rfl
 | loc j => exact Z1H
theorem HeapOK.read (H : HeapOK M η w O nx) {w' : World} (hag : agree w w') : HeapOK (shMx M O η w') η w' [] nx := by
 refine ⟨List.prefix_rfl, H.len, ⟨fun i h hi => by simp [lkp] at hi, fun i j h h' n hi => by simp [lkp] at hi⟩, FrW.refl _ _, fun b h hb => ?_⟩
 have hb' : JD M.C O b = some h := by rw [← Z7u]; exact hb
 have hsat := H.look hb'
 have hag' : ∀ k, feet η w b h k → w'.heap[k]? = w.heap[k]? := fun k f => hag _ (hsat.feet_lt f)
 have hs' := hsat.keep hag'
 exact ⟨hs', fun k f => ⟨hs'.feet_lt f, fun h => h⟩⟩
theorem HeapOK.blind (hl : η.length = nx) (w : World) : HeapOK (blMx M η w) η w [] nx :=
 ⟨List.prefix_rfl, hl, ⟨fun i h hi => by simp [lkp] at hi, fun i j h h' n hi => by simp [lkp] at hi⟩, FrW.refl _ _, fun b h hb => by cases b <;> simp [blMx, Z1F, lkS, lkpB, lkp] at hb⟩
theorem HeapOK.join (H : HeapOK M η w O nx) {η' : Env} {w' : World} {O2 : Hps} {nx2 : Nat} (H2 : HeapOK (shMx M O η w) η' w' O2 nx2) : HeapOK M η' w' (O2 ++ O) nx2 ∧ agree w w' := by
 have hag : agree w w' := fun k hk => H2.fr.block k hk (fun h => h)
 have hp : η <+: η' := H2.pre
 have old : ∀ {i : Nat} {h : Hp}, lkp i O = some h → HpSat η' w' true (.loc i) h ∧ ∀ k, feet η' w' (.loc i) h k → feet η w (.loc i) h k ∧ k < w.heap.size := by
   intro i h hi
   obtain ⟨hsat, hF⟩ := H.own.1 i h hi
   have hk : ∀ k, feet η w (.loc i) h k → w'.heap[k]? = w.heap[k]? := fun k f => hag _ (hsat.feet_lt f)
   refine ⟨(hsat.keep (w' := w') hk).mono hp, fun k f => ?_⟩
   have f' := H.stands hp hi hk f
   exact ⟨f', hsat.feet_lt f'⟩
 refine ⟨⟨H.pre.trans hp, H2.len, ⟨fun i h hi => ?_, fun i j h h' k hi hj hij f f' => ?_⟩, H.fr.trans H2.fr (fun n hn => hn.elim), H.sok⟩, hag⟩
 · rcases XA hi with hi | ⟨_, hi⟩
   · obtain ⟨h1, h2⟩ := H2.own.1 i h hi
     refine ⟨h1, fun k f => .inr ?_⟩
     rcases h2 k f with h3 | h3
     · exact h3.elim
     · exact Nat.le_trans H.fr.size h3
   · obtain ⟨h1, h2⟩ := old hi
     exact ⟨h1, fun k f => (H.own.1 i h hi).2 k (h2 k f).1⟩
 · rcases XA hi with hi | ⟨_, hi⟩
   · rcases XA hj with hj | ⟨_, hj⟩
     · exact H2.own.2 i j h h' k hi hj hij f f'
     · have h1 := ((old hj).2 k f').2
       rcases (H2.own.1 i h hi).2 k f with h3 | h3
       · exact h3.elim
       · have h3 : w.heap.size ≤ k := h3
         omega
   · rcases XA hj with hj | ⟨_, hj⟩
     · have h1 := ((old hi).2 k f).2
       rcases (H2.own.1 j h' hj).2 k f' with h3 | h3
       · exact h3.elim
       · have h3 : w.heap.size ≤ k := h3
         omega
     · exact H.own.2 i j h h' k hi hj hij ((old hi).2 k f).1 ((old hj).2 k f').1
theorem Z5T {v : SV} {K : Prop} (h : Z3C v K) : Det v ∧ K := by
 cases v with
 | agg cs =>
   simp only [Z3C] at h
   split at h
   · rename_i e; exact ⟨Det.of (by simpa only [detV] using e), h⟩
   · exact ⟨h.p, h.k⟩
 | tup cs =>
   simp only [Z3C] at h
   split at h
   · rename_i e; exact ⟨Det.of (by simpa only [detV] using e), h⟩
   · exact ⟨h.p, h.k⟩
 | _ => first | exact ⟨h.p, h.k⟩ | exact ⟨Det.of rfl, h⟩
theorem Z0b {P : Program} {C' : Cx} (hT : TabOK P C'.T) {N : World → Prop} {o : Oper} {a : Act} {fr : Fr} {nx N0 : Nat} {K : SV → Prop} (hf : FrOK η a fr)
   (hN : ∀ w', N w' → HeapOK ⟨P, C', w', fun _ => False, η⟩ η w' [] nx) (hw : N w) (h : Z7t N0 C' o fr nx K) :
   V2 N0 o.dst = true ∧ ∃ u v, (∀ w', N w' → (execOp a.eval o).run P w' = .ok (.value u) w' ∨ ((execOp a.eval o).run P w' = .ok .skip w' ∧ u = undef)) ∧ Den η v u ∧ K v := by
 unfold Z7t at h
 split at h
 · exact h.out.elim
 rename_i hd
 refine ⟨hd, ?_⟩
 split at h
 · rename_i x ho
   split at h
   case h_2 => exact h.out.elim
   rename_i v hv
   exact ⟨a.eval x, v, fun w' _ => .inl (by simp [execOp, ho]), Yf hf hv, h⟩
 · rename_i x ho
   split at h
   case h_2 => exact h.out.elim
   rename_i v hv
   exact ⟨a.eval x, v, fun w' _ => .inl (by simp [execOp, ho]), Yf hf hv, h⟩
 · split at h
   · exact h.out.elim
   rename_i hst
   obtain ⟨v, hok, h⟩ := Res.gv_ok h
   obtain ⟨hdet, h⟩ := Z5T h
   have one : ∀ w', N w' → ∃ u, ((execOp a.eval o).run P w' = .ok (.value u) w' ∨ ((execOp a.eval o).run P w' = .ok .skip w' ∧ u = undef)) ∧ Den η v u := by
     intro w' hw'
     have H := hN w' hw'
     obtain ⟨u, w'', η'', h1, h2, h3, h4, h5⟩ := Z3u (M := ⟨P, C', w', fun _ => False, η⟩) (w := w') (ρ := a.eval) ⟨H, hT, fun x sv hx => Yf hf hx⟩ o (hok [] nx)
     have he : η'' = η := (h2.eq_of_length (by rw [H.len, h3.len])).symm
     subst he
     have hww := h5 hst rfl
     subst hww
     exact ⟨u, h1, h4⟩
   obtain ⟨u, h1, h2⟩ := one w hw
   refine ⟨u, v, fun w' hw' => ?_, h2, h⟩
   obtain ⟨u', h3, h4⟩ := one w' hw'
   rw [hdet η u u' h2 h4]
   exact h3
end
def SS (ks : List Nat) (wc : World) (l : Array Bool) (w : World) : Prop := (∀ k ∈ ks, l.getD k false = false) → agree wc w
section
variable {M : Mx} {ops : Array Oper} {Q : Exit → Act → World → Prop}
theorem Xo {i m : Nat} {rest : Plan} (h : m ≠ 0) : Zz (.take i m rest) = Zz rest := by
 cases m with
 | zero => exact (h rfl).elim
 | succ m => rfl
theorem Z4H {i : Nat} {rest : Plan} : Zz (.take i 0 rest) = i :: Zz rest := rfl
theorem Wf {l : Array Bool} {i : Nat} (h : l.getD i true = false) : l.getD i false = false := by
 rcases Nat.lt_or_ge i l.size with h' | h'
 · simp [h'] at h ⊢; exact h
 · simp [Array.getElem?_eq_none h'] at h
theorem U8 {η : Env} {fr : Fr} {O : Hps} {nx : Nat} {a : Act} {w : World} (hm : Models M η fr O nx a w) {o : Oper} (hd : V2 M.C.N o.dst = true) {u : Value} {v : SV} (hv : Den η v u) {Kp : Fr → Prop} (hk : putK o.dst v fr Kp) :
   ∃ fr', Kp fr' ∧ Models M η fr' O nx (a.put o.dst u) w := hm.put hd List.prefix_rfl hm.heap hv hk
theorem Vo (hQ : ∀ c a w, ¬ Q (.panic c) a w) (hs : Region.noSelect ops = true) {i n : Nat} {o : Oper} {l : Array Bool} {ks : List Nat} (ho : ops[i]? = some o) (hready : i ∈ Region.ready .any ops l) (hfree : Region.free .any ops l i = true) (hne : ∀ k ∈ ks, k ≠ i) (hc : Closed .any ops l)
   {N : World → Prop} {wc : World} (hN : ∀ l w, Closed .any ops l → l.getD i true = false → SS ks wc l w → N w) {a : Act} {w : World} {u : Value} (hy : YieldsN M.P ops N o u a) (hag : agree wc w)
   (h : wpH M.fence M.P .any ops Q (SS ks wc) n (l.setIfInBounds i true) (a.put o.dst u) w) : wpH M.fence M.P .any ops Q (SS ks wc) (n + 1) l a w := by
 refine Z8F M.all ho (Region.noSelect_spec hs) (fun c a w hq => (hQ _ _ _ hq).elim) hN (fun l' w' hc' hun hr hS hk => hS fun k hk' => ?_) n l a w hc (Region.free_spec ho hfree) hready hy (fun _ => hag) (fun _ => hag) h
 rw [getD_set_ne false (Ne.symm (hne k hk'))]; exact hk k hk'
theorem HeapOK.drawn {η : Env} {w : World} {O : Hps} {nx : Nat} (H : HeapOK M η w O nx) {n : Nat} (hn : w.drawn ≤ n) : HeapOK M η { w with drawn := n } O nx :=
 ⟨H.pre, H.len, H.own.still rfl, ⟨H.fr.os, H.fr.tape, H.fr.output, Nat.le_trans H.fr.drawn hn, H.fr.size, H.fr.block⟩, H.sok⟩
theorem Z4I {m : Nat} (h : Z0a m = true) : m = 0 ∨ m = 3 := by
 unfold Z0a at h
 simpa using h
theorem ZG {i m : Nat} {l : List Nat} {x : Nat} (h : x ∈ l) : x ∈ Z1G i m l := by
 cases m with
 | zero => exact List.mem_cons_of_mem _ h
 | succ m => exact h
theorem Jl {i : Nat} {l : List Nat} : i ∈ Z1G i 0 l := List.mem_cons_self ..
theorem Zbn (hT : TabOK M.P M.C.T) {i m : Nat} (hmode : m = 0 ∨ m = 3) {fr : Fr} {O : Hps} {nx : Nat} {Kn : Fr → Hps → Nat → Prop} (h : oneD M ops.toList i m fr O nx Kn) {η : Env} {a : Act} {w : World} (hm : Models M η fr O nx a w) {R : Act → World → Prop}
   (hR : ∀ {fr : Fr} {O : Hps} {nx : Nat} {η : Env} {a : Act} {w' : World}, Kn fr O nx → Models M η fr O nx a w' → (m = 3 → agree w w') → R a w') : wpOpIn M.fence 0 M.P ops Q i R a w := by
 unfold oneD at h
 split at h
 · exact h.out.elim
 rename_i o ho
 have ho : ops[i]? = some o := by rw [JT] at ho; simpa using ho
 have skip : ∀ {fr' : Fr}, Models M η fr' O nx a w → Region.wanted o (yielded ops a.tmps) ≠ true → (match V2 M.C.N o.dst with | true => putK o.dst YT fr' fun fr => Kn fr O nx | false => STOP "slot") → wpOpIn M.fence 0 M.P ops Q i R a w := by
   intro fr' hm' hw h
   split at h
   case h_2 => exact h.out.elim
   rename_i hd
   obtain ⟨fr2, h1, h2⟩ := U8 hm' hd (Vg η) h
   unfold wpOpIn
   simp only [ho]
   rw [if_neg hw]; exact ⟨fun f _ => M.all f, hR h1 h2 fun _ => agree.refl w⟩
 have go : ∀ {fr' : Fr}, Models M η fr' O nx a w → Region.wanted o (yielded ops a.tmps) = true → (Z8G M m o fr' O nx fun v O nx => putK o.dst v fr' fun fr => Kn fr O nx) → wpOpIn M.fence 0 M.P ops Q i R a w := by
   intro fr' hm' hw h
   unfold wpOpIn
   simp only [ho]
   rw [if_pos hw]
   rcases hmode with rfl | rfl
   · have h : Z2l M o (VC fr') O nx fun v O nx => putK o.dst v fr' fun fr => Kn fr O nx := h
     refine (W9 hT hm' (fun x sv hx => Yf hm'.frame hx) h fun u v O' nx' η' w' hd hp hH hv hk => ?_)
     obtain ⟨fr2, h1, h2⟩ := hm'.put hd hp hH hv hk
     exact hR h1 h2 fun h => by cases h
   · have h : ADD M o fr' O nx fun v O nx => putK o.dst v fr' fun fr => Kn fr O nx := h
     have hm2 : Models (shMx M O η w) η fr' [] nx a w := ⟨hm'.heap.read (agree.refl w), hm'.size, hm'.nds, hm'.defers, hm'.ro, hm'.frame⟩
     refine (W9 (M := shMx M O η w) hT hm2 (fun x sv hx => Yf hm'.frame hx) (h.out η w) fun u v O2 nx2 η' w' hd hp hH hv hk => ?_)
     obtain ⟨hJ, hag2⟩ := hm'.heap.join hH
     obtain ⟨fr2, h1, h2⟩ := hm'.put hd hp hJ hv hk
     exact hR h1 h2 fun _ => hag2
 split at h
 · rename_i hg
   exact go hm (Vj hg) h
 · rename_i j want hg
   split at h
   · exact h.out.elim
   rename_i s hsl
   split at h
   · rename_i b hb
     have hbv := YE (hm.frame s _ hb)
     have hy := U6 hsl hbv
     cases b with
     | true =>
       have h := h.t rfl
       have hm' : Models M η ((s, .bool true) :: fr) O nx a w := hm.know hb rfl rfl hbv
       cases want with
       | true => exact go hm' ((ZC hg).2 hy) h
       | false => exact skip hm' (fun hw => by rw [ZC hg, hy] at hw; cases hw) h
     | false =>
       have h := h.f rfl
       have hm' : Models M η ((s, .bool false) :: fr) O nx a w := hm.know hb rfl rfl hbv
       cases want with
       | false => exact go hm' ((ZC hg).2 hy) h
       | true => exact skip hm' (fun hw => by rw [ZC hg, hy] at hw; cases hw) h
   · rename_i hb
     have hbv := hm.frame s _ hb
     simp only [Den, DenL] at hbv
     obtain ⟨vs, hbv, rfl⟩ := hbv
     exact skip hm (fun hw => by rw [ZC hg] at hw; exact Vi hsl (by rw [hbv]; simp) hw) h
   · exact h.out.elim
theorem arm (hT : TabOK M.P M.C.T) {fk t : Plan} {d : Nat} {fr : Fr} {O : Hps} {nx : Nat} {K : Fr → Hps → Nat → Prop} {η : Env} {a : Act} {w wc : World} {l : Array Bool} (hm : Models M η fr O nx a w) (hag : agree wc w) (hc : Closed .any ops l)
   {x m : Nat} (hmo : Z0a m = true) (hx : x ∈ Region.ready .any ops l) (hxk : m = 0 → x ∈ Zz fk) (hsub : ∀ k ∈ Zz t, k ∈ Zz fk) (hd : t.depth = d)
   (ih : ∀ {fr : Fr} {O : Hps} {nx : Nat} {η : Env} {a : Act} {w wc : World}, runD M ops.toList t fr O nx K → Models M η fr O nx a w → agree wc w → wpH M.fence M.P .any ops Q (SS (Zz t) wc) t.depth (l.setIfInBounds x true) a w)
   (hrun : oneD M ops.toList x m fr O nx fun fr O nx => runD M ops.toList t fr O nx K) :
   wpOpIn M.fence 0 M.P ops Q x (fun a' w' => SS (Zz fk) wc (l.setIfInBounds x true) w' ∧ wpH M.fence M.P .any ops Q (SS (Zz fk) wc) d (l.setIfInBounds x true) a' w') a w := by
 have hin : x < l.size := by
   obtain ⟨h1, o, ho, _⟩ := mem_ready.1 hx
   rw [hc.1]; exact (Array.getElem?_eq_some_iff.1 ho).1
 have hset : (l.setIfInBounds x true).getD x false = true := by simp [hin]
 refine Zbn hT (Z4I hmo) hrun hm fun {fr O nx η a w'} hk hm' hag' => ?_
 rcases Z4I hmo with h0 | h3
 · have hno : ∀ l' w', Grows (l.setIfInBounds x true) l' → SS (Zz fk) wc l' w' := by
     intro l' w' hg hk
     have h1 := hk x (hxk h0)
     rw [hg x hset] at h1; cases h1
   refine ⟨hno _ _ (fun _ h => h), ?_⟩
   have := ih hk hm' (agree.refl _)
   rw [hd] at this
   exact Wc (l0 := l.setIfInBounds x true) (fun l' w' hg _ => hno l' w' hg) _ _ _ _ (fun _ h => h) this
 · have hag2 : agree wc w' := hag.trans (hag' h3)
   refine ⟨fun _ => hag2, ?_⟩
   have := ih hk hm' hag2
   rw [hd] at this
   exact Wc (l0 := l.setIfInBounds x true) (fun l' w'' hg hS hk => hS fun k hkt => hk k (hsub k hkt)) _ _ _ _ (fun _ h => h) this
theorem Xa (hT : TabOK M.P M.C.T) (hQ : ∀ c a w, ¬ Q (.panic c) a w) (hs : Region.noSelect ops = true) : ∀ (steps : Plan) {fr : Fr} {O : Hps} {nx : Nat} {K : Fr → Hps → Nat → Prop}, runD M ops.toList steps fr O nx K →
   ∀ {l : Array Bool}, XE ops (Z0r ops.toList []) steps l = true → Closed .any ops l → ∀ {η : Env} {a : Act} {w : World}, Models M η fr O nx a w → (∀ η fr O nx a w, Models M η fr O nx a w → K fr O nx → Q .normal a w) →
   ∀ {wc : World}, agree wc w → wpH M.fence M.P .any ops Q (SS (Zz steps) wc) steps.depth l a w
 | .nil, fr, O, nx, K, h, l, hl, hc, η, a, w, hm, hq, wc, hag => by
   simp only [XE, List.isEmpty_iff] at hl
   exact ⟨hl, hq η fr O nx a w hm h⟩
 | .take i m rest, fr, O, nx, K, h, l, hl, hc, η, a, w, hm, hq, wc, hag => by
   have IH := @Xa hT hQ hs rest
   unfold runD oneD at h
   split at h
   · exact h.out.elim
   rename_i o ho
   have ho : ops[i]? = some o := by rw [JT] at ho; simpa using ho
   simp only [XE, Bool.and_eq_true] at hl
   obtain ⟨hl1, hl2⟩ := hl
   have hready : i ∈ Region.ready .any ops l := by
     revert hl1
     split <;> intro hl1
     · rw [beq_iff_eq.1 hl1]; exact List.mem_singleton.2 rfl
     · simp only [Bool.and_eq_true] at hl1; simpa using hl1.1.1
     · simp only [Bool.and_eq_true] at hl1; simpa using hl1.1.1
     · rw [beq_iff_eq.1 hl1]; exact List.mem_singleton.2 rfl
   have hc' := hc.set hready
   have hin : i < l.size := by rw [hc.1]; exact (Array.getElem?_eq_some_iff.1 ho).1
   have hset : (l.setIfInBounds i true).getD i false = true := by simp [hin]
   have modes : ∀ {p : Prop}, (m = 0 → p) → (m = 1 → p) → (m = 2 → p) → (3 ≤ m → p) → p := by
     intro p h0 h1 h2 h3
     match m, h0, h1, h2, h3 with
     | 0, h0, _, _, _ => exact h0 rfl
     | 1, _, h1, _, _ => exact h1 rfl
     | 2, _, _, h2, _ => exact h2 rfl
     | m + 3, _, _, _, h3 => exact h3 (by omega)
   have alone : Region.ready .any ops l = [i] → ∀ {a : Act} {w : World}, agree wc w → wpOpIn M.fence 0 M.P ops Q i (fun a' w' => SS (Zz (.take i m rest)) wc (l.setIfInBounds i true) w' ∧ wpH M.fence M.P .any ops Q (SS (Zz (.take i m rest)) wc) rest.depth (l.setIfInBounds i true) a' w') a w →
       wpH M.fence M.P .any ops Q (SS (Zz (.take i m rest)) wc) (Plan.take i m rest).depth l a w := fun hr a w hag h => Zbm hr h
   have afterKill : m = 0 → ∀ {fr : Fr} {O : Hps} {nx : Nat} {η : Env} {a : Act} {w : World}, runD M ops.toList rest fr O nx K → Models M η fr O nx a w →
       SS (Zz (.take i m rest)) wc (l.setIfInBounds i true) w ∧ wpH M.fence M.P .any ops Q (SS (Zz (.take i m rest)) wc) rest.depth (l.setIfInBounds i true) a w := by
     intro h0 fr O nx η a w hrun hm
     subst h0
     rw [Z4H]
     have hno : ∀ l' w', Grows (l.setIfInBounds i true) l' → SS (i :: Zz rest) wc l' w' := by
       intro l' w' hg hk
       have h1 := hk i (List.mem_cons_self ..)
       rw [hg i hset] at h1; cases h1
     exact ⟨hno _ _ (fun _ h => h), Wc (l0 := l.setIfInBounds i true) (fun l' w' hg _ => hno l' w' hg) _ _ _ _ (fun _ h => h) (IH hrun hl2 hc' hm hq (agree.refl w))⟩
   have afterElse : m ≠ 0 → ∀ {fr : Fr} {O : Hps} {nx : Nat} {η : Env} {a : Act} {w : World}, runD M ops.toList rest fr O nx K → Models M η fr O nx a w → agree wc w →
       SS (Zz (.take i m rest)) wc (l.setIfInBounds i true) w ∧ wpH M.fence M.P .any ops Q (SS (Zz (.take i m rest)) wc) rest.depth (l.setIfInBounds i true) a w := by
     intro h0 fr O nx η a w hrun hm hag
     rw [Xo h0]
     exact ⟨fun _ => hag, IH hrun hl2 hc' hm hq hag⟩
   have quiet1 : m = 1 → Region.free .any ops l i = true ∧ ∀ k ∈ Zz rest, k ≠ i := by
     intro h1; subst h1
     simp only [Bool.and_eq_true, List.all_eq_true, bne_iff_ne] at hl1
     exact ⟨hl1.1.2, hl1.2⟩
   have quiet2 : m = 2 → Region.free .any ops l i = true ∧ ∀ k ∈ Zz rest, k ≠ i ∧ ((Z0r ops.toList []).getD k 0).testBit i = true := by
     intro h1; subst h1
     simp only [Bool.and_eq_true, List.all_eq_true, bne_iff_ne] at hl1
     exact ⟨hl1.1.2, hl1.2⟩
   have alone0 : m = 0 → Region.ready .any ops l = [i] := by intro h1; subst h1; exact beq_iff_eq.1 hl1
   have alone3 : 3 ≤ m → Region.ready .any ops l = [i] := by
     intro h1
     match m, h1, hl1 with
     | m + 3, _, hl1 => exact beq_iff_eq.1 hl1
   have skip : ∀ {fr' : Fr}, Models M η fr' O nx a w → Region.wanted o (yielded ops a.tmps) ≠ true → (match V2 M.C.N o.dst with | true => putK o.dst YT fr' fun fr => runD M ops.toList rest fr O nx K | false => STOP "slot") →
       wpH M.fence M.P .any ops Q (SS (Zz (.take i m rest)) wc) (Plan.take i m rest).depth l a w := by
     intro fr' hm' hw h
     split at h
     case h_2 => exact h.out.elim
     rename_i hd
     obtain ⟨fr2, h1, h2⟩ := U8 hm' hd (Vg η) h
     have hwf : Region.wanted o (yielded ops a.tmps) = false := by simpa using hw
     have op : ∀ {K' : Act → World → Prop}, K' (a.put o.dst undef) w → wpOpIn M.fence 0 M.P ops Q i K' a w := by
       intro K' hk
       unfold wpOpIn
       simp only [ho]
       rw [if_neg hw]; exact ⟨fun f _ => M.all f, hk⟩
     refine modes (fun h0 => alone (alone0 h0) hag (op (afterKill h0 h1 h2))) (fun h0 => ?_) (fun h0 => ?_) (fun h0 => alone (alone3 h0) hag (op (afterElse (by omega) h1 h2 hag)))
     · have hn : m ≠ 0 := by omega
       have := (afterElse hn h1 h2 hag).2
       rw [Xo hn] at this ⊢
       exact Vo hQ hs ho hready (quiet1 h0).1 (quiet1 h0).2 hc (N := fun _ => True) (fun _ _ _ _ _ => trivial) (.inr ⟨hwf, rfl⟩) hag this
     · have hn : m ≠ 0 := by omega
       have := (afterElse hn h1 h2 hag).2
       rw [Xo hn] at this ⊢
       exact Vo hQ hs ho hready (quiet2 h0).1 (fun k hk => ((quiet2 h0).2 k hk).1) hc (N := fun _ => True) (fun _ _ _ _ _ => trivial) (.inr ⟨hwf, rfl⟩) hag this
   have go : ∀ {fr' : Fr}, Models M η fr' O nx a w → Region.wanted o (yielded ops a.tmps) = true → (Z8G M m o fr' O nx fun v O nx => putK o.dst v fr' fun fr => runD M ops.toList rest fr O nx K) →
       wpH M.fence M.P .any ops Q (SS (Zz (.take i m rest)) wc) (Plan.take i m rest).depth l a w := by
     intro fr' hm' hw h
     have op : ∀ {K' : Act → World → Prop}, o.wpIn M.fence 0 M.P a w K' Q → wpOpIn M.fence 0 M.P ops Q i K' a w := by
       intro K' hk
       unfold wpOpIn
       simp only [ho]
       rw [if_pos hw]; exact hk
     refine modes (fun h0 => ?_) (fun h0 => ?_) (fun h0 => ?_) (fun h0 => ?_)
     · have h : Z2l M o (VC fr') O nx fun v O nx => putK o.dst v fr' fun fr => runD M ops.toList rest fr O nx K := by subst h0; exact h
       refine alone (alone0 h0) hag (op (W9 hT hm' (fun x sv hx => Yf hm'.frame hx) h fun u v O' nx' η' w' hd hp hH hv hk => ?_))
       obtain ⟨fr2, h1, h2⟩ := hm'.put hd hp hH hv hk
       exact afterKill h0 h1 h2
     · have h : Z7t M.C.N (Z1F M.C) o fr' nx fun v => putK o.dst v fr' fun fr => runD M ops.toList rest fr O nx K := by subst h0; exact h
       obtain ⟨hd, u, v, hy, hv, hk⟩ := Z0b (P := M.P) (C' := Z1F M.C) ⟨hT.und, hT.info, hT.zero, hT.zsh, hT.flat, hT.key⟩ (N := fun _ => True) (w := w) hm'.frame (fun w' _ => HeapOK.blind (M := M) hm'.heap.len w') trivial h
       obtain ⟨fr2, h1, h2⟩ := U8 hm' hd hv hk
       have hn : m ≠ 0 := by omega
       have := (afterElse hn h1 h2 hag).2
       rw [Xo hn] at this ⊢
       exact Vo hQ hs ho hready (quiet1 h0).1 (quiet1 h0).2 hc (N := fun _ => True) (fun _ _ _ _ _ => trivial) (.inl ⟨hw, fun w' h => hy w' h⟩) hag this
     · have h : Z7t M.C.N (Z4F M.C O) o fr' nx fun v => putK o.dst v fr' fun fr => runD M ops.toList rest fr O nx K := by subst h0; exact h
       obtain ⟨hd, u, v, hy, hv, hk⟩ := Z0b (P := M.P) (C' := Z4F M.C O) hT (N := agree w) hm'.frame (fun w' h => hm'.heap.read h) (agree.refl w) h
       obtain ⟨fr2, h1, h2⟩ := U8 hm' hd hv hk
       have hn : m ≠ 0 := by omega
       have := IH h1 hl2 hc' h2 hq (agree.refl w)
       rw [Xo hn]
       refine Wc (S' := SS (Zz rest) w) (l0 := l) (fun l' w' _ hS hk => hag.trans (hS hk)) _ _ _ _ (fun _ h => h) ?_
       refine Vo hQ hs ho hready (quiet2 h0).1 (fun k hk => ((quiet2 h0).2 k hk).1) hc (N := agree w) (fun l' w' hcl hun hS => hS fun k hk => ?_) (.inl ⟨hw, fun w' h => hy w' h⟩) (agree.refl w) this
       cases hlk : l'.getD k false with
       | false => rfl
       | true =>
         have := Z4G hcl k ((quiet2 h0).2 k hk).2 hlk
         rw [Wf hun] at this; cases this
     · have h : ADD M o fr' O nx fun v O nx => putK o.dst v fr' fun fr => runD M ops.toList rest fr O nx K := by
         match m, h0, h with
         | m + 3, _, h => exact h
       have hm2 : Models (shMx M O η w) η fr' [] nx a w := ⟨hm'.heap.read (agree.refl w), hm'.size, hm'.nds, hm'.defers, hm'.ro, hm'.frame⟩
       refine alone (alone3 h0) hag (op (W9 (M := shMx M O η w) hT hm2 (fun x sv hx => Yf hm'.frame hx) (h.out η w) fun u v O2 nx2 η' w' hd hp hH hv hk => ?_))
       obtain ⟨hJ, hag2⟩ := hm'.heap.join hH
       obtain ⟨fr2, h1, h2⟩ := hm'.put hd hp hJ hv hk
       exact afterElse (by omega) h1 h2 (hag.trans hag2)
   split at h
   · rename_i hg
     exact go hm (Vj hg) h
   · rename_i j want hg
     split at h
     · exact h.out.elim
     rename_i s hsl
     split at h
     · rename_i b hb
       have hbv := YE (hm.frame s _ hb)
       have hy := U6 hsl hbv
       cases b with
       | true =>
         have h := h.t rfl
         have hm' : Models M η ((s, .bool true) :: fr) O nx a w := hm.know hb rfl rfl hbv
         cases want with
         | true => exact go hm' ((ZC hg).2 hy) h
         | false => exact skip hm' (fun hw => by rw [ZC hg, hy] at hw; cases hw) h
       | false =>
         have h := h.f rfl
         have hm' : Models M η ((s, .bool false) :: fr) O nx a w := hm.know hb rfl rfl hbv
         cases want with
         | false => exact go hm' ((ZC hg).2 hy) h
         | true => exact skip hm' (fun hw => by rw [ZC hg, hy] at hw; cases hw) h
     · rename_i hb
       have hbv := hm.frame s _ hb
       simp only [Den, DenL] at hbv
       obtain ⟨vs, hbv, rfl⟩ := hbv
       exact skip hm (fun hw => by rw [ZC hg] at hw; exact Vi hsl (by rw [hbv]; simp) hw) h
     · exact h.out.elim
 | .fork i mi j mj p q, fr, O, nx, K, h, l, hl, hc, η, a, w, hm, hq, wc, hag => by
   simp only [XE, Bool.and_eq_true, beq_iff_eq] at hl
   obtain ⟨⟨⟨⟨⟨hr, hmi⟩, hmj⟩, hdep⟩, hlp⟩, hlq⟩ := hl
   unfold runD at h
   have hi : i ∈ Region.ready .any ops l := by rw [hr]; simp
   have hj : j ∈ Region.ready .any ops l := by rw [hr]; simp
   refine ⟨fun h0 => (by rw [hr] at h0; cases h0), fun x hx => ?_⟩
   rw [hr] at hx
   rcases List.mem_cons.1 hx with rfl | hx
   · exact arm hT hm hag hc hmi hi (fun h0 => by subst h0; exact Jl) (fun k hk => ZG (ZG (List.mem_append_left _ hk))) rfl (fun hk hm' hag => Xa hT hQ hs p hk hlp (hc.set hi) hm' hq hag) h.a
   · have hx := List.mem_singleton.1 hx
     subst hx
     exact arm hT hm hag hc hmj hj (fun h0 => by subst h0; exact ZG Jl) (fun k hk => ZG (ZG (List.mem_append_right _ hk))) hdep.symm (fun hk hm' hag => Xa hT hQ hs q hk hlq (hc.set hj) hm' hq hag) h.b
 | .fork3 i mi j mj k mk p q r, fr, O, nx, K, h, l, hl, hc, η, a, w, hm, hq, wc, hag => by
   simp only [XE, Bool.and_eq_true, beq_iff_eq] at hl
   obtain ⟨⟨⟨⟨⟨⟨⟨⟨hr, hmi⟩, hmj⟩, hmk⟩, hdep⟩, hdep2⟩, hlp⟩, hlq⟩, hlr⟩ := hl
   unfold runD at h
   have hi : i ∈ Region.ready .any ops l := by rw [hr]; simp
   have hj : j ∈ Region.ready .any ops l := by rw [hr]; simp
   have hk' : k ∈ Region.ready .any ops l := by rw [hr]; simp
   refine ⟨fun h0 => (by rw [hr] at h0; cases h0), fun x hx => ?_⟩
   rw [hr] at hx
   rcases List.mem_cons.1 hx with rfl | hx
   · exact arm hT hm hag hc hmi hi (fun h0 => by subst h0; exact Jl) (fun k hk => ZG (ZG (ZG (List.mem_append_left _ hk)))) rfl (fun hk hm' hag => Xa hT hQ hs p hk hlp (hc.set hi) hm' hq hag) h.a
   · rcases List.mem_cons.1 hx with rfl | hx
     · exact arm hT hm hag hc hmj hj (fun h0 => by subst h0; exact ZG Jl) (fun k hk => ZG (ZG (ZG (List.mem_append_right _ (List.mem_append_left _ hk))))) hdep.symm (fun hk hm' hag => Xa hT hQ hs q hk hlq (hc.set hj) hm' hq hag) h.b.a
     · have hx := List.mem_singleton.1 hx
       subst hx
       exact arm hT hm hag hc hmk hk' (fun h0 => by subst h0; exact ZG (ZG Jl)) (fun k hk => ZG (ZG (ZG (List.mem_append_right _ (List.mem_append_right _ hk))))) hdep2.symm (fun hk hm' hag => Xa hT hQ hs r hk hlr (hc.set hk') hm' hq hag) h.b.b
 | .join p, fr, O, nx, K, h, l, hl, hc, η, a, w, hm, hq, wc, hag => by
   unfold runD at h
   obtain ⟨fr', he, h⟩ := h.out
   have hm' : Models M η fr' O nx a w := ⟨hm.heap, hm.size, hm.nds, (by rw [he]; exact hm.defers), hm.ro, fun t sv ht => hm.frame t sv (by rw [← he]; exact ht)⟩
   exact Xa hT hQ hs p h hl hc hm' hq hag
theorem DRAWN.of {M : Mx} (hT : TabOK M.P M.C.T) (hP : M.P.follows .mixedOrders = true) {id : Nat} {ops : Array Oper} {fr : Fr} {O : Hps} {nx : Nat} {Q : Post} (steps : Plan) (hord : Z8H ops steps = true)
   (h : runD M ops.toList steps fr O nx fun fr O nx => Q .normal fr O nx) : DRAWN M id ops fr O nx Q := by
 simp only [Z8H, Bool.and_eq_true, beq_iff_eq] at hord
 obtain ⟨⟨hs, hlen⟩, hord⟩ := hord
 refine ⟨fun η a w hm => wpIn_region_any hP (Z09 (S := SS (Zz steps) { w with drawn := w.drawn + 1 }) _ _ _ _ ?_)⟩
 have hm' : Models M η fr O nx a { w with drawn := w.drawn + 1 } := ⟨hm.heap.drawn (Nat.le_succ _), hm.size, hm.nds, hm.defers, hm.ro, hm.frame⟩
 have hc0 : Closed .any ops (Array.replicate ops.size false) := by
   refine ⟨by simp, fun j o hj hl => ?_⟩
   rcases Nat.lt_or_ge j ops.size with h' | h'
   · simp [h'] at hl
   · simp [h'] at hl
 have key := Xa (Q := Z8i M Q) hT (fun c a w hq => hq) hs steps h hord hc0 hm' (fun η fr O nx a w hm hq => ⟨η, fr, O, nx, hm, hq⟩) (agree.refl _)
 rw [hlen] at key
 exact key
end
section
variable {σ : Nat → Nat} {k : Nat}
theorem U9 (h : ∀ j, j < k → σ j = j) : ∀ {b : Blk}, Ut k b = true → renB σ b = b
 | .glob g, _ => rfl
 | .loc i, hb => by simp only [Ut, Nat.blt_eq] at hb; simp only [renB, h i hb]
mutual
theorem Vb (h : ∀ j, j < k → σ j = j) : ∀ {v : SV}, ZY k v = true → ren σ v = v
 | .bool _, _ => rfl
 | .int _ _, _ => rfl
 | .str _, _ => rfl
 | .val _, _ => rfl
 | .any, _ => rfl
 | .nb _, _ => rfl
 | .dfs l, hb => by simp only [ZY] at hb; simp only [ren, YQ h hb]
 | .yf b, hb => by simp only [ZY] at hb; simp only [ren, U9 h hb]
 | .mp b, hb => by simp only [ZY] at hb; simp only [ren, U9 h hb]
 | .ptr b _ _ _, hb => by simp only [ZY] at hb; simp only [ren, U9 h hb]
 | .sl b _ _ _ _, hb => by simp only [ZY] at hb; simp only [ren, U9 h hb]
 | .agg cs, hb => by simp only [ZY] at hb; simp only [ren, YQ h hb]
 | .arr _ rs, hb => by simp only [ZY] at hb; simp only [ren, Jm h hb]
 | .tup vs, hb => by simp only [ZY] at hb; simp only [ren, YQ h hb]
 | .ifc _ v, hb => by simp only [ZY] at hb; simp only [ren, Vb h hb]
 | .fn _ a b, hb => by simp only [ZY, Bool.and_eq_true] at hb; simp only [ren, YQ h hb.1, YQ h hb.2]
theorem YQ (h : ∀ j, j < k → σ j = j) : ∀ {vs : List SV}, Y6 k vs = true → renL σ vs = vs
 | [], _ => rfl
 | c :: cs, hb => by simp only [Y6, Bool.and_eq_true] at hb; simp only [renL, Vb h hb.1, YQ h hb.2]
theorem Jm (h : ∀ j, j < k → σ j = j) : ∀ {vs : List (List SV)}, Yo k vs = true → Xe σ vs = vs
 | [], _ => rfl
 | c :: cs, hb => by simp only [Yo, Bool.and_eq_true] at hb; simp only [Xe, YQ h hb.1, Jm h hb.2]
end
theorem Z30 (h : ∀ j, j < k → σ j = j) : ∀ {fr : Fr}, Uu k fr = true → renF σ fr = fr
 | [], _ => rfl
 | (t, v) :: r, hb => by
   simp only [Uu, Bool.and_eq_true] at hb
   simp only [renF, Vb h hb.1, Z30 h hb.2]
theorem Z7x (h : ∀ j, j < k → σ j = j) : ∀ {c : DC}, Z03 k c = true → renC σ c = c
 | .v s, hb => by simp only [Z03] at hb; simp only [renC, Vb h hb]
 | .kid _ rs, hb => by simp only [Z03] at hb; simp only [renC, Jm h hb]
theorem Z1N (h : ∀ j, j < k → σ j = j) : ∀ {r : List DC}, J2 k r = true → Z1q σ r = r
 | [], _ => rfl
 | c :: cs, hb => by simp only [J2, Bool.and_eq_true] at hb; simp only [Z1q, Z7x h hb.1, Z1N h hb.2]
theorem Z0c (h : ∀ j, j < k → σ j = j) : ∀ {r : List (List DC)}, YJ k r = true → XR σ r = r
 | [], _ => rfl
 | c :: cs, hb => by simp only [YJ, Bool.and_eq_true] at hb; simp only [XR, Z1N h hb.1, Z0c h hb.2]
theorem Ua (h : ∀ j, j < k → σ j = j) : ∀ {hp : Hp}, Z4 k hp = true → renH σ hp = hp
 | .deep _ _ _, hb => by simp only [Z4] at hb; simp only [renH, Z0c h hb]
 | .box _, hb => by simp only [Z4] at hb; simp only [renH, YQ h hb]
 | .rows _ _, hb => by simp only [Z4] at hb; simp only [renH, Jm h hb]
 | .siter _ _, _ => rfl
 | .tbl _, _ => rfl
 | .bld _ _ _, _ => rfl
 | .dfr _, _ => rfl
 | .lp _ _ fr, hb => by simp only [Z4] at hb; simp only [renH, Z30 h hb]
 | .mp _, hb => by simp only [Z4] at hb; simp only [renH, Jm h hb]
theorem Z31 (h : ∀ j, j < k → σ j = j) : ∀ {O : Hps}, Z6 k O = true → renO σ O = O
 | [], _ => rfl
 | (i, hp) :: r, hb => by
   simp only [Z6, Bool.and_eq_true, Nat.blt_eq] at hb
   simp only [renO, h i hb.1, Ua h hb.2.1, Z31 h hb.2.2]
end
variable {M : Mx} {fr fr' : Fr} {O O' : Hps} {nx : Nat}
theorem Z8T {k i : Nat} (h : i < k) : (List.range k).getD i 0 = i := by simp [List.getD, h]
theorem Z5X {k nx j : Nat} (h : j < k) : ZW (List.range k) nx j = j := by
 simp only [ZW, List.length_range, if_pos h, Z8T h]
def hereO (O : Hps) : Hps → Prop
 | [] => True
 | (i, h) :: r => match lkp i O with
   | some g => g = h ∧ hereO O r
   | none => False
def hereS (C : Cx) (O : Hps) : Hps → Prop
 | [] => True
 | (i, h) :: r => match JD C O (.loc i) with
   | some g => g = h ∧ hereS C O r
   | none => False
theorem hereO.at {O : Hps} : ∀ {Oc : Hps}, hereO O Oc → ∀ p ∈ Oc, lkp p.1 O = some p.2
 | [], _, p, hp => by cases hp
 | (i, h) :: r, hs, p, hp => by
   simp only [hereO] at hs
   split at hs
   · rename_i g hg
     obtain ⟨rfl, hs⟩ := hs
     rcases List.mem_cons.1 hp with rfl | hp
     · exact hg
     · exact hereO.at hs p hp
   · exact hs.elim
theorem hereS.at {C : Cx} {O : Hps} : ∀ {Sc : Hps}, hereS C O Sc → ∀ p ∈ Sc, JD C O (.loc p.1) = some p.2
 | [], _, p, hp => by cases hp
 | (i, h) :: r, hs, p, hp => by
   simp only [hereS] at hs
   split at hs
   · rename_i g hg
     obtain ⟨rfl, hs⟩ := hs
     rcases List.mem_cons.1 hp with rfl | hp
     · exact hg
     · exact hereS.at hs p hp
   · exact hs.elim
theorem XF {k : Nat} : ∀ {O : Hps}, Z6 k O = true → ∀ p ∈ O, p.1 < k ∧ Z4 k p.2 = true
 | [], _, p, hp => by cases hp
 | (i, h) :: r, hb, p, hp => by
   simp only [Z6, Bool.and_eq_true, Nat.blt_eq] at hb
   rcases List.mem_cons.1 hp with rfl | hp
   · exact ⟨hb.1, hb.2.1⟩
   · exact XF hb.2.2 p hp
theorem YR {k : Nat} : ∀ {O : Hps}, Z6 k O = true → ∀ j ∈ Zr O, j < k
 | [], _, j, hj => by cases hj
 | (i, h) :: r, hb, j, hj => by
   simp only [Z6, Bool.and_eq_true, Nat.blt_eq] at hb
   rcases List.mem_cons.1 hj with rfl | hj
   · exact hb.1
   · exact YR hb.2.2 j hj
theorem Z6P {f : Nat → Nat} : ∀ {l : List Nat}, (∀ j ∈ l, f j = j) → l.map f = l
 | [], _ => rfl
 | x :: l, h => by simp only [List.map_cons, h x (List.mem_cons_self ..), Z6P fun j hj => h j (List.mem_cons_of_mem _ hj)]
theorem Z1O : ∀ {S : Hps} {p : Nat × Hp}, p ∈ S → p.1 ∈ Zr S
 | [], p, hp => by cases hp
 | (i, h) :: S, p, hp => by
   rcases List.mem_cons.1 hp with rfl | hp
   · exact List.mem_cons_self ..
   · exact List.mem_cons_of_mem _ (Z1O hp)
theorem CALL.here {f : FuncId} {args : List SV} {K : SV → Hps → Nat → Prop} {k : Nat} {Oc Sc : Hps} {Q : SV → Hps → Nat → Prop} (sp : Does M.P M.C.T f k args Oc Sc Q)
   (hk : Nat.ble k nx = true) (hb : Y6 k args = true) (hbO : Z6 k Oc = true) (hbS : Z6 k Sc = true) (hO : hereO O Oc) (hS : hereS M.C O Sc)
   (hd : (Zr Sc).all (fun j => !((Zr Oc).any (Nat.beq j))) = true)
   (hQ : ∀ r O' nx', Q r O' nx' → nx' = k ∧ ZY k r = true ∧ Z6 k O' = true)
   (hK : ∀ r O', Q r O' k → K r (O' ++ YW (Zr Oc) O) nx) : CALL M f args O nx K := by
 have hk := Nat.le_of_ble_eq_true hk
 have hσ : ∀ j, j < k → ZW (List.range k) nx j = j := fun j hj => Z5X hj
 have hnames : (Zr Oc).map (ZW (List.range k) nx) = Zr Oc := Z6P fun j hj => hσ j (YR hbO j hj)
 refine CALL.of (List.range k) sp (by simp) (fun i hi => by have := List.mem_range.1 hi; omega) (YQ hσ hb).symm hb ?_ ?_ ?_ ?_
 · intro p hp
   obtain ⟨h1, h2⟩ := XF hbO p hp
   exact ⟨h1, by rw [hσ _ h1, Ua hσ h2]; exact hO.at p hp, h2⟩
 · intro j hj j' hj' he
   rwa [hσ j (YR hbO j hj), hσ j' (YR hbO j' hj')] at he
 · intro p hp
   obtain ⟨h1, h2⟩ := XF hbS p hp
   refine ⟨h1, by rw [hσ _ h1, Ua hσ h2]; exact hS.at p hp, h2, ?_⟩
   rw [hnames, hσ _ h1]
   intro hm
   have hj : p.1 ∈ Zr Sc := Z1O hp
   have := List.all_eq_true.1 hd _ hj
   simp only [Bool.not_eq_eq_eq_not, Bool.not_true] at this
   have h3 : (Zr Oc).any (Nat.beq p.1) = true := List.any_eq_true.2 ⟨p.1, hm, X3 _⟩
   rw [h3] at this; cases this
 · intro r O' nx' hq
   obtain ⟨rfl, h1, h2⟩ := hQ r O' nx' hq
   have := hK r O' hq
   rw [Vb hσ h1, Z31 hσ h2, hnames]
   simpa using this
def thereO (σ : Nat → Nat) (O : Hps) : Hps → Prop
 | [] => True
 | (i, h) :: r => match lkp (σ i) O with
   | some g => g = renH σ h ∧ thereO σ O r
   | none => False
def thereS (C : Cx) (σ : Nat → Nat) (O : Hps) : Hps → Prop
 | [] => True
 | (i, h) :: r => match JD C O (.loc (σ i)) with
   | some g => g = renH σ h ∧ thereS C σ O r
   | none => False
theorem thereO.at {σ : Nat → Nat} {O : Hps} : ∀ {Oc : Hps}, thereO σ O Oc → ∀ p ∈ Oc, lkp (σ p.1) O = some (renH σ p.2)
 | [], _, p, hp => by cases hp
 | (i, h) :: r, hs, p, hp => by
   simp only [thereO] at hs
   split at hs
   · rename_i g hg
     obtain ⟨rfl, hs⟩ := hs
     rcases List.mem_cons.1 hp with rfl | hp
     · exact hg
     · exact thereO.at hs p hp
   · exact hs.elim
theorem thereS.at {C : Cx} {σ : Nat → Nat} {O : Hps} : ∀ {Sc : Hps}, thereS C σ O Sc → ∀ p ∈ Sc, JD C O (.loc (σ p.1)) = some (renH σ p.2)
 | [], _, p, hp => by cases hp
 | (i, h) :: r, hs, p, hp => by
   simp only [thereS] at hs
   split at hs
   · rename_i g hg
     obtain ⟨rfl, hs⟩ := hs
     rcases List.mem_cons.1 hp with rfl | hp
     · exact hg
     · exact thereS.at hs p hp
   · exact hs.elim
theorem CALL.at {f : FuncId} {args argsc : List SV} {K : SV → Hps → Nat → Prop} {k : Nat} {Oc Sc : Hps} {Q : SV → Hps → Nat → Prop} (L : List Nat) (sp : Does M.P M.C.T f k argsc Oc Sc Q)
   (hL : L.length = k) (hLn : L.all (fun i => Nat.blt i nx) = true) (ha : args = renL (ZW L nx) argsc) (hb : Y6 k argsc = true) (hbO : Z6 k Oc = true) (hbS : Z6 k Sc = true) (hO : thereO (ZW L nx) O Oc) (hS : thereS M.C (ZW L nx) O Sc)
   (hinj : (Zr Oc).all (fun j => (Zr Oc).all fun j' => !(Nat.beq (ZW L nx j) (ZW L nx j')) || Nat.beq j j') = true)
   (hd : (Zr Sc).all (fun j => !((Zr Oc).any fun j' => Nat.beq (ZW L nx j) (ZW L nx j'))) = true)
   (hK : ∀ r O' nx', Q r O' nx' → K (ren (ZW L nx) r) (renO (ZW L nx) O' ++ YW ((Zr Oc).map (ZW L nx)) O) (nx + (nx' - k))) : CALL M f args O nx K := by
 refine CALL.of L sp hL (fun i hi => by have := List.all_eq_true.1 hLn i hi; simpa [Nat.blt_eq] using this) ha hb (fun p hp => ?_) (fun j hj j' hj' he => ?_) (fun p hp => ?_) hK
 · obtain ⟨h1, h2⟩ := XF hbO p hp
   exact ⟨h1, hO.at p hp, h2⟩
 · have := List.all_eq_true.1 (List.all_eq_true.1 hinj j hj) j' hj'
   simp only [he, X3, Bool.not_true, Bool.false_or] at this
   exact Zy this
 · obtain ⟨h1, h2⟩ := XF hbS p hp
   refine ⟨h1, hS.at p hp, h2, fun hm => ?_⟩
   obtain ⟨j', hj', he⟩ := List.mem_map.1 hm
   have := List.all_eq_true.1 hd _ (Z1O hp)
   simp only [Bool.not_eq_eq_eq_not, Bool.not_true] at this
   have h3 : (Zr Oc).any (fun j' => Nat.beq (ZW L nx p.1) (ZW L nx j')) = true := List.any_eq_true.2 ⟨j', hj', by rw [he]; exact X3 _⟩
   rw [h3] at this; cases this
theorem FIN.at {k : Nat} {r : SV} {Q : SV → Hps → Nat → Prop} (hk : M.η0.length = k) (τ : List Nat) (rc : SV) (Oc : Hps) (hτ : τ.all (fun i => Nat.blt i nx) = true) (hr : r = ren (Ym k τ) rc) (hb : ZY (k + τ.length) rc = true) (hbO : Z6 (k + τ.length) Oc = true)
   (hO : thereO (Ym k τ) O Oc) (hinj : (Zr Oc).all (fun j => (Zr Oc).all fun j' => !(Nat.beq (Ym k τ j) (Ym k τ j')) || Nat.beq j j') = true) (hQ : Q rc Oc (k + τ.length)) : FIN M O nx r Q := by
 refine FIN.keep hk τ (rc := rc) (Oc := Oc) (fun i hi => by have := List.all_eq_true.1 hτ i hi; simpa [Nat.blt_eq] using this) hr hb (fun p hp => ?_) (fun j hj j' hj' he => ?_) hQ
 · obtain ⟨h1, h2⟩ := XF hbO p hp
   exact ⟨h1, hO.at p hp, h2⟩
 · have := List.all_eq_true.1 (List.all_eq_true.1 hinj j hj) j' hj'
   simp only [he, X3, Bool.not_true, Bool.false_or] at this
   exact Zy this
theorem Zad {G : Prop} {body : Code} {Q : Post} {n : Nat} {X : Type} (P : X → Prop) (frx : X → Fr) (Ox : X → Hps) (h1 : (∀ x, P x → LOOP M body (frx x) (Ox x) n Q) → G) (h2 : ∀ x, P x → LOOP M body (frx x) (Ox x) n Q) : G := h1 h2
theorem CALL.weak {f : FuncId} {args : List SV} {K : SV → Hps → Nat → Prop} {O1 : Hps} {n1 : Nat} (h : ∀ η w, HeapOK M η w O nx → ∃ η', η <+: η' ∧ HeapOK M η' w O1 n1) (hc : CALL M f args O1 n1 K) : CALL M f args O nx K := by
 refine ⟨fun η w vs H hd => ?_⟩
 obtain ⟨η1, hp, H1⟩ := h η w H
 refine (hc.out η1 w vs H1 (DenL.mono hp hd)).mono ?_
 rintro v w' ⟨r, O', nx', η', h1, h2⟩
 exact ⟨r, O', nx', η', hp.trans h1, h2⟩
def Z1P (nx es : Nat) : Nat → List SV → Option (List SV)
 | 0, .val (.slice none 0 0) :: r => some (.sl (.loc nx) 0 es 0 none :: r)
 | j + 1, c :: r => match Z1P nx es j r with | some r => some (c :: r) | none => none
 | _, _ => none
theorem Z4N {nx es : Nat} : ∀ {j : Nat} {row row' : List SV}, Z1P nx es j row = some row' → ∀ (i : Nat) (sv : SV), row'[i]? = some sv → row[i]? = some sv ∨ (row[i]? = some (SV.val (.slice none 0 0)) ∧ sv = SV.sl (.loc nx) 0 es 0 none)
 | 0, [], _, h => by simp [Z1P] at h
 | 0, c :: r, row', h => by
   unfold Z1P at h
   split at h
   · rename_i e1 e2
     injection e2 with e2 e3
     subst e2 e3
     injection h with h; subst h
     intro i sv hi
     cases i with
     | zero => simp at hi; subst hi; exact .inr ⟨rfl, rfl⟩
     | succ i => exact .inl (by simpa using hi)
   · simp_all
   · cases h
 | j + 1, [], _, h => by simp [Z1P] at h
 | j + 1, c :: r, row', h => by
   unfold Z1P at h
   split at h
   · rename_i r1 hr
     injection h with h; subst h
     intro i sv hi
     cases i with
     | zero => left; simpa using hi
     | succ i =>
       have := Z4N hr i sv (by simpa using hi)
       simpa using this
   · cases h
theorem HeapOK.nilCell {η : Env} {w : World} (H : HeapOK M η w O nx) {i j es : Nat} {row row' : List SV} (hi : lkp i O = some (.box row)) (hr : Z1P nx es j row = some row') :
   ∃ η', η <+: η' ∧ HeapOK M η' w ((nx, .rows es []) :: setK i (.box row') O) (nx + 1) := by
 have hpre : η <+: η ++ [none] := List.prefix_append _ _
 have hnew : (η ++ [none])[nx]? = some none := by rw [List.getElem?_append_right (by rw [H.len]; omega), H.len]; simp
 have hold : ∀ {i h}, lkp i O = some h → (η ++ [none])[i]? = η[i]? := fun {i h} hi => by
   rw [List.getElem?_append_left (by rw [H.len]; exact H.lt hi)]
 have hin : ∀ {a h}, lkp a (setK i (.box row') O) = some h → ∃ h0, lkp a O = some h0 ∧ HpSat (η ++ [none]) w true (.loc a) h ∧ ∀ n, feet (η ++ [none]) w (.loc a) h n → feet η w (.loc a) h0 n := by
   intro a h ha
   rw [Y4 _ _ _ _ (by rw [hi]; rfl)] at ha
   split at ha
   · rename_i e
     subst e
     injection ha with ha
     subst ha
     refine ⟨_, hi, ?_, fun n f => H.stands hpre hi (fun _ _ => rfl) (show feet (η ++ [none]) w (.loc _) (.box row) n from f)⟩
     have := (H.own.1 _ _ hi).1.mono hpre
     simp only [HpSat] at this ⊢
     obtain ⟨e, arr, T, fz, h1, h2, h3, h4⟩ := this
     refine ⟨e, arr, T, fz, h1, h2, h3, fun c sv hc => ?_⟩
     rcases Z4N hr c sv hc with hc' | ⟨hc', rfl⟩
     · exact h4 c sv hc'
     · obtain ⟨v, h5, h6, h7⟩ := h4 c _ hc'
       refine ⟨v, h5, h6, ?_⟩
       simp only [Den] at h7 ⊢
       exact .inl ⟨hnew, h7.1, trivial⟩
   · exact ⟨h, ha, (H.own.1 _ _ ha).1.mono hpre, fun n f => H.stands hpre ha (fun _ _ => rfl) f⟩
 refine ⟨η ++ [none], hpre, H.pre.trans hpre, by simp [H.len], ⟨fun a h ha => ?_, fun a b h h' n ha hb hab f f' => ?_⟩, H.fr, H.sok⟩
 · rw [Zk] at ha
   split at ha
   · rename_i e; subst e; injection ha with ha; subst ha
     exact ⟨.inl ⟨hnew, rfl⟩, fun n f => (feet.none (b := .loc _) hnew f).elim⟩
   · obtain ⟨h0, h1, h2, h3⟩ := hin ha
     exact ⟨h2, fun n f => (H.own.1 a h0 h1).2 n (h3 n f)⟩
 · rw [Zk] at ha hb
   split at ha
   · rename_i e1; subst e1; exact (feet.none (b := .loc _) hnew f).elim
   · split at hb
     · rename_i e2; subst e2; exact (feet.none (b := .loc _) hnew f').elim
     · obtain ⟨h0, h1, _, h3⟩ := hin ha
       obtain ⟨h0', h1', _, h3'⟩ := hin hb
       exact H.own.2 a b h0 h0' n h1 h1' hab (h3 n f) (h3' n f')
theorem CALL.nilCell {f : FuncId} {args : List SV} {K : SV → Hps → Nat → Prop} (i j es : Nat) {row row' : List SV} (hi : lkp i O = some (.box row)) (hr : Z1P nx es j row = some row') (hc : CALL M f args ((nx, .rows es []) :: setK i (.box row') O) (nx + 1) K) : CALL M f args O nx K :=
 CALL.weak (fun η w H => H.nilCell hi hr) hc
theorem FIN.here {k : Nat} {r rc : SV} {Oc : Hps} {Q : SV → Hps → Nat → Prop} (hk : M.η0.length = k) (hr : r = rc) (hb : ZY k rc = true) (hbO : Z6 k Oc = true) (hO : hereO O Oc) (hQ : Q rc Oc k) : FIN M O nx r Q := by
 have hσ : ∀ j, j < k → Ym k [] j = j := fun j hj => by simp [Ym, hj]
 refine FIN.keep hk [] (rc := rc) (Oc := Oc) (fun i hi => by cases hi) (by rw [Vb hσ hb]; exact hr) hb ?_ ?_ hQ
 · intro p hp
   obtain ⟨h1, h2⟩ := XF hbO p hp
   exact ⟨h1, by rw [hσ _ h1, Ua hσ h2]; exact hO.at p hp, h2⟩
 · intro j hj j' hj' he
   rwa [hσ j (YR hbO j hj), hσ j' (YR hbO j' hj')] at he
def Loose (k : Nat) : List SV → List SV → Prop
 | _, [] => True
 | [], _ :: _ => False
 | c :: cs, c' :: cs' => (c' = .any ∨ (c' = c ∧ ZY k c = true)) ∧ Loose k cs cs'
theorem Loose.get {k : Nat} : ∀ {row row' : List SV}, Loose k row row' → ∀ (j : Nat) (sv : SV), row'[j]? = some sv → ∃ c, row[j]? = some c ∧ (sv = .any ∨ (sv = c ∧ ZY k c = true))
 | _, [], _, j, sv, h => by simp at h
 | [], _ :: _, h, _, _, _ => h.elim
 | c :: cs, c' :: cs', h, 0, sv, hj => by simp at hj; subst hj; exact ⟨c, rfl, h.1⟩
 | c :: cs, c' :: cs', h, j + 1, sv, hj => by simp at hj; obtain ⟨d, h1, h2⟩ := Loose.get h.2 j sv hj; exact ⟨d, by simpa using h1, h2⟩
theorem FIN.loose {k : Nat} {r : SV} {Q : SV → Hps → Nat → Prop} (hk : M.η0.length = k) (i : Nat) (row' : List SV) {row : List SV} (hr : plain r = true) (hO : lkp i O = some (.box row)) (hi : Nat.blt i k = true) (hl : Loose k row row') (hQ : Q r [(i, .box row')] k) : FIN M O nx r Q := by
 refine ⟨fun η w v H hd => ⟨r, [(i, .box row')], k, M.η0, hQ, List.prefix_rfl, ?_, ?_⟩⟩
 · have hi : i < k := by simpa [Nat.blt_eq] using hi
   have hget : ∀ j, j < k → η[j]? = M.η0[j]? := fun j hj => by
     obtain ⟨t, ht⟩ := H.pre
     rw [← ht, List.getElem?_append_left (by omega)]
   have hb : Bwd η M.η0 id k := fun j x hj hx => by rw [← hget j hj]; exact hx
   have hsat : HpSat M.η0 w true (.loc i) (.box row') := by
     have := (H.own.1 i _ hO).1
     simp only [HpSat] at this ⊢
     obtain ⟨e, arr, T, fz, h1, h2, h3, h4⟩ := this
     refine ⟨e, arr, T, fz, by simp only [Env.get] at h1 ⊢; rw [← hget i hi]; exact h1, h2, h3, fun j sv hj => ?_⟩
     obtain ⟨c, h5, h6⟩ := hl.get j sv hj
     obtain ⟨u, h7, h8, h9⟩ := h4 j c h5
     refine ⟨u, h7, h8, ?_⟩
     rcases h6 with rfl | ⟨rfl, h6⟩
     · simp only [Den]
     · exact Den.unren hb h6 (by rw [Z1I (σ := id) (fun _ => rfl)]; exact h9)
   refine ⟨List.prefix_rfl, hk, ⟨fun j h hj => ?_, fun a b h h' n ha hb' hab => ?_⟩, H.fr, H.sok⟩
   · rw [Zk] at hj
     split at hj
     · rename_i e; subst e; injection hj with hj; subst hj
       exact ⟨hsat, fun n f => (H.own.1 _ _ hO).2 n ((show feet M.η0 w (.loc _) (.box row) n from f).mono H.pre)⟩
     · simp [lkp] at hj
   · rw [Zk] at ha hb'
     split at ha
     · split at hb'
       · rename_i e1 e2; exact (hab (e1.trans e2.symm)).elim
       · simp [lkp] at hb'
     · simp [lkp] at ha
 · have hb : Bwd η M.η0 (fun i => i) 0 := fun i x hi => by omega
   exact Den.unren hb (Xx 0 hr) (by rw [XS _ hr]; exact hd)
def anyN : Nat → List SV
 | 0 => []
 | n + 1 => .any :: anyN n
theorem Z6Q {η η' : Env} : ∀ {cs : List SV} {vs : List Value}, DenL η cs vs → DenL η' (anyN cs.length) vs
 | [], vs, h => by simpa [DenL, anyN] using h
 | c :: cs, vs, h => by
   simp only [DenL, anyN, List.length_cons] at h ⊢
   obtain ⟨u, us, rfl, _, h⟩ := h
   exact ⟨u, us, rfl, by simp only [Den], Z6Q h⟩
theorem FIN.anyA (n : Nat) {k : Nat} {r : SV} {cs vs : List SV} {Q : SV → Hps → Nat → Prop} (hk : M.η0.length = k) (hr : r = .tup (.agg cs :: vs)) (hn : Uo cs n = true) (hv : Yn vs = true) (hQ : Q (.tup (.agg (anyN n) :: vs)) [] k) : FIN M O nx r Q := by
 have hn : cs.length = n := by
   clear hr hQ
   induction n generalizing cs with
   | zero => cases cs with
     | nil => rfl
     | cons a l => simp [Uo] at hn
   | succ n ih => cases cs with
     | nil => simp [Uo] at hn
     | cons a l => simp only [Uo] at hn; simp [ih hn]
 refine ⟨fun η w v H hd => ⟨.tup (.agg (anyN n) :: vs), [], k, M.η0, hQ, List.prefix_rfl, ⟨List.prefix_rfl, hk, ⟨fun i h hi => by simp [lkp] at hi, fun i j h h' n hi => by simp [lkp] at hi⟩, H.fr, H.sok⟩, ?_⟩⟩
 rw [hr] at hd
 simp only [Den, DenL] at hd ⊢
 obtain ⟨us, h1, u, us', h2, ⟨xs, h5, h6, h7⟩, h4⟩ := hd
 refine ⟨us, h1, u, us', h2, ⟨xs, h5, by rw [← hn]; exact Z6Q h6, h7⟩, ?_⟩
 have hb : Bwd η M.η0 (fun i => i) 0 := fun i x hi => by omega
 exact DenL.unren hb (ZD 0 hv) (by rw [ZI _ hv]; exact h4)
class PlF {α : Type} (f : α → List SV) : Prop where
 h : ∀ x, Yn (f x) = true
class Pl (rs : List (List SV)) : Prop where
 h : Zs rs = true
class PlD (rs : List (List DC)) : Prop where
 h : XK rs = true
instance {α : Type} {f : α → List SV} [p : PlF f] {l : List α} : Pl (l.map f) := ⟨ZX f p.h l⟩
instance : PlF bytesRow := ⟨fun _ => rfl⟩
theorem Zt {m i : Nat} {h : Hp} {O : Hps} (h1 : Nat.blt i m = true) (h2 : Z4 m h = true) (h3 : Z6 m O = true) : Z6 m ((i, h) :: O) = true := by simp only [Z6, h1, h2, h3, Bool.and_self]
theorem Ye {k : IntKind} {a b : Int} (h : a = b) : Hp.box [.int k a] = Hp.box [.int k b] := by rw [h]
theorem YU {b : Blk} {r es n n' : Nat} {lim : Option Nat} (h : n = n') : Hp.box [.sl b r es n lim] = Hp.box [.sl b r es n' lim] := by rw [h]
section
variable {m es : Nat} {σ τ : Nat → Nat} {rs : List (List SV)} {ds : List (List DC)} {mp : Bool}
theorem Z4O [p : Pl rs] : Z4 m (.rows es rs) = true := XT m (h := .rows es rs) p.h
theorem Z4P [p : Pl rs] : Z4 m (.mp rs) = true := XT m (h := .mp rs) p.h
theorem Z1Q [p : PlD ds] : Z4 m (.deep mp es ds) = true := XT m (h := .deep mp es ds) p.h
theorem renR [p : Pl rs] : renH σ (.rows es rs) = .rows es rs := Zh σ (h := .rows es rs) p.h
theorem renM [p : Pl rs] : renH σ (.mp rs) = .mp rs := Zh σ (h := .mp rs) p.h
theorem renDp [p : PlD ds] : renH σ (.deep mp es ds) = .deep mp es ds := Zh σ (h := .deep mp es ds) p.h
theorem Z8U [p : Pl rs] : renH σ (.rows es rs) = renH τ (.rows es rs) := renR.trans renR.symm
theorem Z8V [p : Pl rs] : renH σ (.mp rs) = renH τ (.mp rs) := renM.trans renM.symm
theorem Z8W [p : PlD ds] : renH σ (.deep mp es ds) = renH τ (.deep mp es ds) := renDp.trans renDp.symm
end
section
variable {M : Mx} {fr fr' : Fr} {O O' : Hps} {nx : Nat}
theorem CALL.aA {f : FuncId} {args argsc : List SV} {K : SV → Hps → Nat → Prop} {k : Nat} {Oc Sc : Hps} {Q : SV → Hps → Nat → Prop} (L : List Nat) (sp : Does M.P M.C.T f k argsc Oc Sc Q)
   (hK : ∀ r O' nx', Q r O' nx' → K (ren (ZW L nx) r) (renO (ZW L nx) O' ++ YW ((Zr Oc).map (ZW L nx)) O) (nx + (nx' - k)))
   (hL : L.length = k := by exact rfl) (hLn : L.all (fun i => Nat.blt i nx) = true := by exact rfl) (ha : args = renL (ZW L nx) argsc := by exact rfl) (hb : Y6 k argsc = true := by exact rfl)
   (hbO : Z6 k Oc = true := by (repeat' (first | (refine Zt rfl ?_ ?_) | exact Z4O | exact Z4P | exact Z1Q | rfl))) (hbS : Z6 k Sc = true := by (repeat' (first | (refine Zt rfl ?_ ?_) | exact Z4O | exact Z4P | exact Z1Q | rfl))) (hO : thereO (ZW L nx) O Oc := by (repeat' (first | exact trivial | (with_reducible rfl) | exact renR.symm | exact Z8U | exact renM.symm | exact Z8V | exact renDp.symm | exact Z8W | (exact Z8 Pl.h (by simp [Zw, List.take_of_length_le] <;> rfl)) | exact rfl | ((conv => whnf); refine ⟨?_, ?_⟩)))) (hS : thereS M.C (ZW L nx) O Sc := by (repeat' (first | exact trivial | (with_reducible rfl) | exact renR.symm | exact Z8U | exact renM.symm | exact Z8V | exact renDp.symm | exact Z8W | (exact Z8 Pl.h (by simp [Zw, List.take_of_length_le] <;> rfl)) | exact rfl | ((conv => whnf); refine ⟨?_, ?_⟩))))
   (hinj : (Zr Oc).all (fun j => (Zr Oc).all fun j' => !(Nat.beq (ZW L nx j) (ZW L nx j')) || Nat.beq j j') = true := by exact rfl)
   (hd : (Zr Sc).all (fun j => !((Zr Oc).any fun j' => Nat.beq (ZW L nx j) (ZW L nx j'))) = true := by exact rfl) : CALL M f args O nx K :=
 CALL.at L sp hL hLn ha hb hbO hbS hO hS hinj hd hK
theorem FIN.aA {k : Nat} {r : SV} {Q : SV → Hps → Nat → Prop} (hk : M.η0.length = k) (τ : List Nat) (rc : SV) (Oc : Hps) (hQ : Q rc Oc (k + τ.length)) (hτ : τ.all (fun i => Nat.blt i nx) = true := by exact rfl) (hr : r = ren (Ym k τ) rc := by exact rfl) (hb : ZY (k + τ.length) rc = true := by exact rfl) (hbO : Z6 (k + τ.length) Oc = true := by (repeat' (first | (refine Zt rfl ?_ ?_) | exact Z4O | exact Z4P | exact Z1Q | rfl)))
   (hO : thereO (Ym k τ) O Oc := by (repeat' (first | exact trivial | (with_reducible rfl) | exact renR.symm | exact Z8U | exact renM.symm | exact Z8V | exact renDp.symm | exact Z8W | (exact Z8 Pl.h (by simp [Zw, List.take_of_length_le] <;> rfl)) | exact rfl | ((conv => whnf); refine ⟨?_, ?_⟩)))) (hinj : (Zr Oc).all (fun j => (Zr Oc).all fun j' => !(Nat.beq (Ym k τ j) (Ym k τ j')) || Nat.beq j j') = true := by exact rfl) : FIN M O nx r Q :=
 FIN.at hk τ rc Oc hτ hr hb hbO hO hinj hQ
theorem GOES.cA {k m : Nat} (hk : M.η0.length = k) (hkm : Nat.ble k m = true := by exact rfl) (hmn : Nat.ble m nx = true := by exact rfl) (hbf : Vp m fr' = true := by exact rfl) (hbo : Z6 m O' = true := by (repeat' (first | (refine Zt rfl ?_ ?_) | exact Z4O | exact Z4P | exact Z1Q | rfl)))
   (hf : cutK fr fr' := by (repeat' (first | (with_reducible rfl) | exact trivial | (exact Zp rfl (by first | omega | (simp (disch := omega) only [lnB, Z2, Z7] <;> omega) | (simp; done) | (simp <;> omega))) | (exact congrArg (SV.int _) (by first | omega | (simp (disch := omega) only [lnB, Z2, Z7] <;> omega) | (simp; done) | (simp <;> omega))) | (exact Ye (by first | omega | (simp (disch := omega) only [lnB, Z2, Z7] <;> omega) | (simp; done) | (simp <;> omega))) | (exact YU (by first | omega | (simp (disch := omega) only [lnB, Z2, Z7] <;> omega) | (simp; done) | (simp <;> omega))) | exact renR | exact renM | exact renDp | (with_reducible assumption) | (exact congrArg (Hp.rows _) (by simp [List.take_of_length_le] <;> rfl)) | ((conv => whnf); refine ⟨?_, ?_⟩) | (simp; done) | rfl))) (hO : Z8M O O' := by (repeat' (first | (with_reducible rfl) | exact trivial | (exact Zp rfl (by first | omega | (simp (disch := omega) only [lnB, Z2, Z7] <;> omega) | (simp; done) | (simp <;> omega))) | (exact congrArg (SV.int _) (by first | omega | (simp (disch := omega) only [lnB, Z2, Z7] <;> omega) | (simp; done) | (simp <;> omega))) | (exact Ye (by first | omega | (simp (disch := omega) only [lnB, Z2, Z7] <;> omega) | (simp; done) | (simp <;> omega))) | (exact YU (by first | omega | (simp (disch := omega) only [lnB, Z2, Z7] <;> omega) | (simp; done) | (simp <;> omega))) | exact renR | exact renM | exact renDp | (with_reducible assumption) | (exact congrArg (Hp.rows _) (by simp [List.take_of_length_le] <;> rfl)) | ((conv => whnf); refine ⟨?_, ?_⟩) | (simp; done) | rfl))) (hd : Z05 fr fr' = true := by exact rfl) (hro : Z06 M.C.ro id m = true := by exact rfl) : GOES M fr O nx fr' O' m := GOES.cutting hk hkm hmn hbf hbo hf hO hd hro
theorem GOES.kA {k : Nat} (hk : M.η0.length = k) (τ : List Nat) (hτ : τ.all (fun i => Nat.blt i nx) = true := by exact rfl)
   (hn : (Zr O').all (fun j => (Zr O').all fun j' => !(Nat.beq (Ym k τ j) (Ym k τ j')) || Nat.beq j j') = true := by exact rfl)
   (hbf : Vp (k + τ.length) fr' = true := by exact rfl) (hbo : Z6 (k + τ.length) O' = true := by (repeat' (first | (refine Zt rfl ?_ ?_) | exact Z4O | exact Z4P | exact Z1Q | rfl))) (hf : subK (Ym k τ) fr fr' := by (repeat' (first | (with_reducible rfl) | exact trivial | exact renR.symm | exact Z8U | exact renM.symm | exact Z8V | exact renDp.symm | exact Z8W | (exact Zp rfl (by first | omega | (simp (disch := omega) only [lnB, Z2, Z7] <;> omega) | (simp; done) | (simp <;> omega))) | (exact congrArg (SV.int _) (by first | omega | (simp (disch := omega) only [lnB, Z2, Z7] <;> omega) | (simp; done) | (simp <;> omega))) | (exact Ye (by first | omega | (simp (disch := omega) only [lnB, Z2, Z7] <;> omega) | (simp; done) | (simp <;> omega))) | (exact YU (by first | omega | (simp (disch := omega) only [lnB, Z2, Z7] <;> omega) | (simp; done) | (simp <;> omega))) | (with_reducible assumption) | (exact Z8 Pl.h (by simp [Zw, List.take_of_length_le] <;> rfl)) | ((conv => whnf); refine ⟨?_, ?_⟩) | (simp only [ren, renB]; done) | rfl))) (hO : Z8Q (Ym k τ) O O' := by (repeat' (first | (with_reducible rfl) | exact trivial | exact renR.symm | exact Z8U | exact renM.symm | exact Z8V | exact renDp.symm | exact Z8W | (exact Zp rfl (by first | omega | (simp (disch := omega) only [lnB, Z2, Z7] <;> omega) | (simp; done) | (simp <;> omega))) | (exact congrArg (SV.int _) (by first | omega | (simp (disch := omega) only [lnB, Z2, Z7] <;> omega) | (simp; done) | (simp <;> omega))) | (exact Ye (by first | omega | (simp (disch := omega) only [lnB, Z2, Z7] <;> omega) | (simp; done) | (simp <;> omega))) | (exact YU (by first | omega | (simp (disch := omega) only [lnB, Z2, Z7] <;> omega) | (simp; done) | (simp <;> omega))) | (with_reducible assumption) | (exact Z8 Pl.h (by simp [Zw, List.take_of_length_le] <;> rfl)) | ((conv => whnf); refine ⟨?_, ?_⟩) | (simp only [ren, renB]; done) | rfl))) (hd : Z05 fr fr' = true := by exact rfl) (hro : Z06 M.C.ro (Ym k τ) (k + τ.length) = true := by exact rfl) : GOES M fr O nx fr' O' (k + τ.length) :=
 GOES.keeping hk τ hτ hn hbf hbo hf hO hd hro
end
theorem AU {P Q : Prop} (k : Q) (h : Q → P := by first | (with_reducible exact IF.tt) | (with_reducible exact IF.ff) | exact NEED.au | (with_reducible exact GET.at rfl) | (with_reducible exact GETG.at rfl)) : P := h k
theorem IW {J : Type} {b : Bool} {A B : J → Prop} {j : J} {p q : Prop} (x : p → A j) (y : q → B j)
   (hp : b = true → p := by (intro h; first | (simp (disch := omega) only [hsB, hsC, lnB, Z2, Z7, simprocAttr] at h; exact h) | (exact (show (0 : Nat) = 1 by simp (disch := omega) only [hsB, hsC, lnB, Z2, Z7, simprocAttr] at h)) | exact h))
   (hq : b = false → q := by (intro h; first | (simp (disch := omega) only [hsB, hsC, lnB, Z2, Z7, simprocAttr] at h; exact h) | (exact (show (0 : Nat) = 1 by simp (disch := omega) only [hsB, hsC, lnB, Z2, Z7, simprocAttr] at h)) | exact h)) : IF b A B j := ⟨fun h => x (hp h), fun h => y (hq h)⟩
theorem Zbw {b : Blk} {r es len : Nat} {lim : Option Nat} (h : 0 < len) : Det (.sl b r es len lim) := by
 intro η u u' h1 h2
 simp only [Den] at h1 h2
 rcases h1 with ⟨_, _, h0⟩ | ⟨e, o, g1, rfl, g3, g4, g5⟩
 · omega
 rcases h2 with ⟨_, _, h0⟩ | ⟨e', o', k1, rfl, k3, k4, k5⟩
 · omega
 rw [g1] at k1
 injection k1 with k1
 injection k1 with k1
 subst k1
 rw [g5 (.inl (by omega)), k5 (.inl (by omega))]
theorem AD {P Q : Prop} (k : Q) (h : Q → P := by first | exact fun k => NEED.mk (Det.of rfl) k | exact fun k => NEED.mk (Zbw (by omega)) k) : P := h k
end Go.Sx
namespace Go.Our
open Go.Sx
structure Tri {α : Type} (c : α → α → Int) : Prop where
 rng : ∀ a b, c a b = -1 ∨ c a b = 0 ∨ c a b = 1
 anti : ∀ a b, c b a = - c a b
 zero : ∀ a b, c a b = 0 ↔ a = b
 trans : ∀ a b d, c a b ≤ 0 → c b d ≤ 0 → c a d ≤ 0
def cmpI (a b : Int) : Int := if a < b then -1 else if a > b then 1 else 0
theorem triI : Tri cmpI where
 rng a b := by unfold cmpI; (repeat' split) <;> omega
 anti a b := by unfold cmpI; (repeat' split) <;> omega
 zero a b := by unfold cmpI; (repeat' split) <;> omega
 trans a b d := by unfold cmpI; (repeat' split) <;> omega
open Lib (compareBytes)
theorem ZaW : ∀ a b, compareBytes a b = -1 ∨ compareBytes a b = 0 ∨ compareBytes a b = 1
 | [], [] => by simp [compareBytes]
 | [], _ :: _ => by simp [compareBytes]
 | _ :: _, [] => by simp [compareBytes]
 | a :: as_, b :: bs => by
   unfold compareBytes
   split
   · simp
   · split
     · simp
     · exact ZaW as_ bs
theorem Z8X : ∀ a b, compareBytes b a = - compareBytes a b
 | [], [] => by simp [compareBytes]
 | [], _ :: _ => by simp [compareBytes]
 | _ :: _, [] => by simp [compareBytes]
 | a :: as_, b :: bs => by
   unfold compareBytes
   simp only [UInt8.lt_iff_toNat_lt]
   by_cases h : a.toNat < b.toNat
   · have : ¬ b.toNat < a.toNat := by omega
     simp [h, this]
   · by_cases h' : b.toNat < a.toNat
     · simp [h, h']
     · simp only [h, h', if_false]; exact Z8X as_ bs
theorem Z8Y : ∀ a b, compareBytes a b = 0 ↔ a = b
 | [], [] => by simp [compareBytes]
 | [], _ :: _ => by simp [compareBytes]
 | _ :: _, [] => by simp [compareBytes]
 | a :: as_, b :: bs => by
   unfold compareBytes
   simp only [UInt8.lt_iff_toNat_lt, List.cons.injEq, ← UInt8.toNat_inj]
   by_cases h : a.toNat < b.toNat
   · simp [h]; omega
   · by_cases h' : b.toNat < a.toNat
     · simp [h, h']; omega
     · have : a.toNat = b.toNat := by omega
       simp only [this, Nat.lt_irrefl, if_false, true_and]; exact Z8Y as_ bs
theorem Z6R : ∀ a b c, compareBytes a b ≤ 0 → compareBytes b c ≤ 0 → compareBytes a c ≤ 0
 | [], _, [] => by simp [compareBytes]
 | [], _, _ :: _ => by simp [compareBytes]
 | _ :: _, [], _ => by simp [compareBytes]
 | _ :: _, _ :: _, [] => by simp [compareBytes]
 | a :: as_, b :: bs, c :: cs => by
   unfold compareBytes
   simp only [UInt8.lt_iff_toNat_lt]
   have ih := Z6R as_ bs cs
   (repeat' split) <;> first | omega | (intro x y; first | exact ih x y | omega)
def cmpL (a b : List UInt8) : Int := compareBytes a b
theorem triL : Tri cmpL where
 rng a b := ZaW _ _
 anti a b := Z8X _ _
 zero a b := Z8Y _ _
 trans a b d := Z6R _ _ _
def Xp {β γ : Type} (c : β → β → Int) (d : γ → γ → Int) (a b : β × γ) : Int := if c a.1 b.1 ≠ 0 then c a.1 b.1 else d a.2 b.2
theorem Ub {β γ : Type} {c : β → β → Int} {d : γ → γ → Int} (hc : Tri c) (hd : Tri d) : Tri (Xp c d) where
 rng a b := by unfold Xp; split <;> first | exact hc.rng _ _ | exact hd.rng _ _
 anti a b := by
   unfold Xp
   rw [hc.anti a.1 b.1, hd.anti a.2 b.2]
   by_cases h : c a.1 b.1 = 0
   · simp [h]
   · have : ¬ - c a.1 b.1 = 0 := by omega
     simp [h, this]
 zero a b := by
   unfold Xp
   by_cases h : c a.1 b.1 = 0
   · simp only [h, ne_eq, not_true_eq_false, if_false]
     rw [hd.zero]
     have hf := (hc.zero _ _).1 h
     exact ⟨fun hg => Prod.ext hf hg, fun e => by rw [e]⟩
   · simp only [ne_eq, h, not_false_eq_true, if_true, false_iff]
     intro e; subst e
     exact h ((hc.zero _ _).2 rfl)
 trans a b e := by
   unfold Xp
   intro h1 h2
   have r1 := hc.rng a.1 b.1; have r2 := hc.rng b.1 e.1
   have t1 := hc.trans a.1 b.1 e.1
   by_cases x : c a.1 b.1 = 0
   · have ex := (hc.zero _ _).1 x
     simp only [x, ne_eq, not_true_eq_false, if_false] at h1
     rw [ex]
     by_cases y : c b.1 e.1 = 0
     · simp only [y, ne_eq, not_true_eq_false, if_false] at h2 ⊢
       exact hd.trans _ _ _ h1 h2
     · simp only [ne_eq, y, not_false_eq_true, if_true] at h2 ⊢
       exact h2
   · simp only [ne_eq, x, not_false_eq_true, if_true] at h1
     by_cases y : c b.1 e.1 = 0
     · have ey := (hc.zero _ _).1 y
       rw [← ey]
       simp only [ne_eq, x, not_false_eq_true, if_true]; exact h1
     · simp only [ne_eq, y, not_false_eq_true, if_true] at h2
       have hle := t1 h1 h2
       have hne : c a.1 e.1 ≠ 0 := by
         intro hz
         have e1 := (hc.zero _ _).1 hz
         rw [← e1] at h2 y
         have := hc.anti a.1 b.1
         omega
       simp only [ne_eq, hne, not_false_eq_true, if_true]; exact hle
theorem Z8Z {α β : Type} {c : β → β → Int} (hc : Tri c) (f : α → β) (hf : ∀ a b, f a = f b → a = b) : Tri (fun a b => c (f a) (f b)) where
 rng a b := hc.rng _ _
 anti a b := hc.anti _ _
 zero a b := by rw [hc.zero]; exact ⟨hf a b, fun e => by rw [e]⟩
 trans a b d := hc.trans _ _ _
theorem VO : ∀ a b : List UInt8, Op.bytesLess a b = decide (Lib.compareBytes a b < 0)
 | [], [] => by simp [Op.bytesLess, Lib.compareBytes]
 | [], _ :: _ => by simp [Op.bytesLess, Lib.compareBytes]
 | _ :: _, [] => by simp [Op.bytesLess, Lib.compareBytes]
 | a :: as_, b :: bs => by
   unfold Op.bytesLess Lib.compareBytes
   rw [VO as_ bs]
   simp only [UInt8.lt_iff_toNat_lt]
   have hbeq : (a == b) = decide (a.toNat = b.toNat) := by
     rw [Bool.eq_iff_iff]; simp [UInt8.toNat_inj]
   rw [hbeq]
   by_cases h : a.toNat < b.toNat
   · simp [h]
   · by_cases h' : b.toNat < a.toNat
     · have : ¬ a.toNat = b.toNat := by omega
       simp [h, h', this]
     · have : a.toNat = b.toNat := by omega
       simp [this]
theorem Z4Q (a b : List UInt8) : Z7h a b = decide (cmpL a b < 0) := VO a b
def Tm.key (x : Tm) : Int × List UInt8 × List UInt8 × List UInt8 := (x.k, x.t, x.y, x.l)
def Yk (a b : Tm) : Int := Xp cmpI (Xp cmpL (Xp cmpL cmpL)) a.key b.key
theorem triT : Tri Yk := Z8Z (Ub triI (Ub triL (Ub triL triL))) Tm.key (fun a b h => by
 cases a; cases b; simp [Tm.key] at h; simp [h])
def Qd.key (q : Qd) : Tm × Tm × Tm × Tm := (q.g, q.s, q.p, q.o)
def ZJ (a b : Qd) : Int := Xp Yk (Xp Yk (Xp Yk Yk)) a.key b.key
theorem triQ : Tri ZJ := Z8Z (Ub triT (Ub triT (Ub triT triT))) Qd.key (fun a b h => by
 cases a; cases b; simp [Qd.key] at h; simp [h])
def orI : List Int → Int
 | [] => 0
 | x :: l => if x ≠ 0 then x else orI l
theorem ZaX (a b : Tm) : orI [cmpI a.k b.k, cmpL a.t b.t, cmpL a.y b.y, cmpL a.l b.l] = Yk a b := by
 simp only [orI, Yk, Xp, Tm.key]
 (repeat' split) <;> simp_all
theorem ZaY (a b : Qd) : orI [Yk a.g b.g, Yk a.s b.s, Yk a.p b.p, Yk a.o b.o] = ZJ a b := by
 simp only [orI, ZJ, Xp, Qd.key]
 (repeat' split) <;> simp_all
abbrev Qd.row (q : Qd) : List SV := [.int .i64 q.s.k, .str q.s.t, .str q.s.y, .str q.s.l, .int .i64 q.p.k, .str q.p.t, .str q.p.y, .str q.p.l, .int .i64 q.o.k, .str q.o.t, .str q.o.y, .str q.o.l, .int .i64 q.g.k, .str q.g.t, .str q.g.y, .str q.g.l]
def Zl (q : Qd) : List SV := q.row
def ZA (x : Tm) : List SV := [.int .i64 x.k, .str x.t, .str x.y, .str x.l]
theorem Zg (l : List Tm) : Zs (l.map ZA) = true := ZX _ (fun _ => rfl) l
instance : PlF ZA := ⟨fun _ => rfl⟩
theorem Tm.ext' {a b : Tm} (h : ZA a = ZA b) : a = b := by
 obtain ⟨_, _, _, _⟩ := a
 obtain ⟨_, _, _, _⟩ := b
 simp only [ZA, List.cons.injEq, SV.int.injEq, SV.str.injEq, true_and, and_true] at h
 simp_all
def YV : Qd := ⟨Yb, Yb, Yb, Yb⟩
theorem Za (l : List Qd) : Zs (l.map Zl) = true := ZX _ (fun _ => rfl) l
instance : PlF Zl := ⟨fun _ => rfl⟩
theorem Z4R {α : Type} (f : α → List SV) (l z : List α) : (((l ++ z).map f).drop 0).take l.length = l.map f := by
 rw [List.drop_zero, List.map_append, List.take_append_of_le_length (by simp), List.take_of_length_le (by simp)]
theorem Zae {α : Type} (f : α → List SV) (l : List α) (i : Nat) (x : α) : (l.map f).set i (f x) = (l.set i x).map f := by rw [List.map_set]
theorem XG {α : Type} {f : α → List SV} {l : List α} {i j : Nat} (h : i < l.length) (hj : j = i) : (l.map f)[j]? = some (f l[i]) := by
 subst hj
 rw [List.getElem?_map, List.getElem?_eq_getElem h]; rfl
theorem Qd.ext' {a b : Qd} (h : Zl a = Zl b) : a = b := by
 obtain ⟨⟨_, _, _, _⟩, ⟨_, _, _, _⟩, ⟨_, _, _, _⟩, ⟨_, _, _, _⟩⟩ := a
 obtain ⟨⟨_, _, _, _⟩, ⟨_, _, _, _⟩, ⟨_, _, _, _⟩, ⟨_, _, _, _⟩⟩ := b
 simp only [Zl, Qd.row, List.cons.injEq, SV.int.injEq, SV.str.injEq, true_and, and_true] at h
 simp_all
end Go.Our
set_option linter.unusedSectionVars false
namespace Go.Our
section
variable {α : Type} {c : α → α → Int}
theorem Tri.lt_trans (h : Tri c) {x y z : α} (h1 : c x y < 0) (h2 : c y z ≤ 0) : c x z < 0 := by
 have h3 := h.trans x y z (by omega) h2
 rcases Int.lt_or_eq_of_le h3 with h4 | h4
 · exact h4
 · have e := (h.zero x z).1 h4
   subst e
   have := h.anti x y
   omega
theorem Tri.self (h : Tri c) (x : α) : c x x = 0 := (h.zero x x).2 rfl
theorem Tri.ne (h : Tri c) {x y : α} (hl : c x y < 0) : x ≠ y := fun e => by subst e; have := h.self x; omega
theorem Tri.gt (h : Tri c) {x y : α} (hl : ¬ c x y ≤ 0) : c y x < 0 := by have := h.anti x y; omega
def Rise (c : α → α → Int) (l : List α) : Prop := l.Pairwise fun a b => c a b < 0
theorem Z6S (h : Tri c) : ∀ {l m : List α}, Rise c l → Rise c m → (∀ x, x ∈ l ↔ x ∈ m) → l = m
 | [], [], _, _, _ => rfl
 | [], y :: m, _, _, he => by have := (he y).2 (by simp); simp at this
 | x :: l, [], _, _, he => by have := (he x).1 (by simp); simp at this
 | x :: l, y :: m, hl, hm, he => by
   have hl := List.pairwise_cons.1 hl
   have hm := List.pairwise_cons.1 hm
   have hxy : x = y := by
     rcases List.mem_cons.1 ((he x).1 (by simp)) with e | hx
     · exact e
     · rcases List.mem_cons.1 ((he y).2 (by simp)) with e | hy
       · exact e.symm
       · have h1 := hm.1 x hx
         have h2 := hl.1 y hy
         have := h.anti x y
         omega
   subst hxy
   congr 1
   refine Z6S h hl.2 hm.2 fun z => ⟨fun hz => ?_, fun hz => ?_⟩
   · rcases List.mem_cons.1 ((he z).1 (by simp [hz])) with e | h1
     · subst e; exact (h.ne (hl.1 _ hz) rfl).elim
     · exact h1
   · rcases List.mem_cons.1 ((he z).2 (by simp [hz])) with e | h1
     · subst e; exact (h.ne (hm.1 _ hz) rfl).elim
     · exact h1
end
section
variable {α : Type} [DecidableEq α] {c : α → α → Int}
def Zc : List α → List α
 | [] => []
 | [a] => [a]
 | a :: b :: l => if a = b then Zc (b :: l) else a :: Zc (b :: l)
theorem UP : ∀ (l : List α) (x : α), x ∈ Zc l ↔ x ∈ l
 | [], x => by simp [Zc]
 | [a], x => by simp [Zc]
 | a :: b :: l, x => by
   have ih := UP (b :: l) x
   unfold Zc
   split
   · rename_i e; subst e; rw [ih]; simp
   · rw [List.mem_cons, ih]; simp [List.mem_cons]
def leC (c : α → α → Int) (x y : α) : Bool := !(decide (c y x < 0))
theorem VP (h : Tri c) {x y : α} : leC c x y = true ↔ c x y ≤ 0 := by
 have := h.anti x y
 unfold leC
 simp only [Bool.not_eq_true', decide_eq_false_iff_not]
 omega
theorem Z0d (h : Tri c) : ∀ (l : List α), l.Pairwise (fun a b => c a b ≤ 0) → Rise c (Zc l)
 | [], _ => List.Pairwise.nil
 | [a], _ => by simp [Zc, Rise]
 | a :: b :: l, hp => by
   have hp' := List.pairwise_cons.1 hp
   have ih := Z0d h (b :: l) hp'.2
   unfold Zc
   split
   · exact ih
   · rename_i hne
     refine List.pairwise_cons.2 ⟨fun x hx => ?_, ih⟩
     rw [UP] at hx
     have hab : c a b < 0 := by
       have h1 := hp'.1 b (by simp)
       have h2 : c a b ≠ 0 := fun e => hne ((h.zero a b).1 e)
       omega
     rcases List.mem_cons.1 hx with rfl | hx
     · exact hab
     · exact h.lt_trans hab ((List.pairwise_cons.1 hp'.2).1 x hx)
def setL (c : α → α → Int) (l : List α) : List α := Zc (l.mergeSort (leC c))
theorem WF (l : List α) (x : α) : x ∈ setL c l ↔ x ∈ l := by
 unfold setL
 rw [UP]
 exact List.mem_mergeSort
theorem XL (h : Tri c) (l : List α) : Rise c (setL c l) := by
 refine Z0d h _ ?_
 have := List.pairwise_mergeSort (le := leC c) (fun a b d h1 h2 => by rw [VP h] at *; exact h.trans a b d h1 h2) (fun a b => by
   have := h.anti a b
   rw [Bool.or_eq_true, VP h, VP h]; omega) l
 exact this.imp fun h1 => (VP h).1 h1
theorem ZaZ (h : Tri c) {l m : List α} (hm : Rise c m) (he : ∀ x, x ∈ m ↔ x ∈ l) : m = setL c l := Z6S h hm (XL h l) fun x => (he x).trans (WF l x).symm
theorem Vs : ∀ (l : List α), (Zc l).length ≤ l.length
 | [] => by simp [Zc]
 | [a] => by simp [Zc]
 | a :: b :: l => by
   have ih := Vs (b :: l)
   unfold Zc
   split
   · simp only [List.length_cons] at ih ⊢; omega
   · simp only [List.length_cons] at ih ⊢; omega
theorem WG (l : List α) : (setL c l).length ≤ l.length := by
 have := Vs (l.mergeSort (leC c))
 rw [List.length_mergeSort] at this
 exact this
def Jn (c : α → α → Int) (out : List α) (q : α) : List α := match out.getLast? with
 | none => [q]
 | some z => if c z q < 0 then out ++ [q] else out
def Y7 (c : α → α → Int) (out : List α) : List α → List α → List α
 | [], [] => out
 | x :: a, [] => Y7 c (Jn c out x) a []
 | [], y :: b => Y7 c (Jn c out y) [] b
 | x :: a, y :: b => if c x y ≤ 0 then Y7 c (Jn c out x) a (y :: b) else Y7 c (Jn c out y) (x :: a) b
termination_by a b => a.length + b.length
theorem XV (h : Tri c) {out : List α} {q : α} (ho : Rise c out) (hq : ∀ x ∈ out, c x q ≤ 0) : Rise c (Jn c out q) ∧ ∀ x, x ∈ Jn c out q ↔ x ∈ out ∨ x = q := by
 unfold Jn
 cases hg : out.getLast? with
 | none =>
   have : out = [] := List.getLast?_eq_none_iff.1 hg
   subst this
   exact ⟨by simp [Rise], by simp⟩
 | some z =>
   obtain ⟨pre, rfl⟩ := List.getLast?_eq_some_iff.1 hg
   simp only
   have ho' := List.pairwise_append.1 ho
   split
   · rename_i hz
     refine ⟨List.pairwise_append.2 ⟨ho, List.pairwise_singleton .., fun x hx y hy => ?_⟩, fun x => by simp only [List.mem_append, List.mem_singleton]⟩
     have hy := List.mem_singleton.1 hy
     subst hy
     rcases List.mem_append.1 hx with hx | hx
     · exact h.lt_trans (ho'.2.2 x hx z (by simp)) (by omega)
     · have := List.mem_singleton.1 hx; subst this; exact hz
   · rename_i hz
     have he : z = q := (h.zero z q).1 (by have := hq z (by simp); omega)
     subst he
     exact ⟨ho, fun x => by simp only [List.mem_append, List.mem_singleton]; grind⟩
theorem Jo (h : Tri c) : ∀ (n : Nat) (out a b : List α), a.length + b.length = n → Rise c out → Rise c a → Rise c b → (∀ x ∈ out, ∀ y, y ∈ a ∨ y ∈ b → c x y ≤ 0) → Rise c (Y7 c out a b) ∧ ∀ x, x ∈ Y7 c out a b ↔ x ∈ out ∨ x ∈ a ∨ x ∈ b
 | n, out, [], [], hn, ho, ha, hb, hh => by unfold Y7; exact ⟨ho, by simp⟩
 | 0, out, x :: a, b, hn, _, _, _, _ => by simp at hn
 | 0, out, [], y :: b, hn, _, _, _, _ => by simp at hn
 | n + 1, out, x :: a, [], hn, ho, ha, hb, hh => by
   have ha' := List.pairwise_cons.1 ha
   obtain ⟨h1, h2⟩ := XV h ho (q := x) fun z hz => hh z hz x (by simp)
   obtain ⟨h3, h4⟩ := Jo h n (Jn c out x) a [] (by simp at hn ⊢; omega) h1 ha'.2 hb (fun z hz y hy => by
     rcases (h2 z).1 hz with hz | rfl
     · exact hh z hz y (by simpa using Or.inr (by simpa using hy))
     · have : y ∈ a := by simpa using hy
       have := ha'.1 y this; omega)
   unfold Y7
   refine ⟨h3, fun z => ?_⟩
   rw [h4, h2]
   simp only [List.mem_cons, List.not_mem_nil, or_false]
   grind
 | n + 1, out, [], y :: b, hn, ho, ha, hb, hh => by
   have hb' := List.pairwise_cons.1 hb
   obtain ⟨h1, h2⟩ := XV h ho (q := y) fun z hz => hh z hz y (by simp)
   obtain ⟨h3, h4⟩ := Jo h n (Jn c out y) [] b (by simp at hn ⊢; omega) h1 ha hb'.2 (fun z hz w hw => by
     have hw : w ∈ b := by simpa using hw
     rcases (h2 z).1 hz with hz | rfl
     · exact hh z hz w (by simp [hw])
     · have := hb'.1 w hw; omega)
   unfold Y7
   refine ⟨h3, fun z => ?_⟩
   rw [h4, h2]
   simp only [List.mem_cons, List.not_mem_nil, false_or]
   grind
 | n + 1, out, x :: a, y :: b, hn, ho, ha, hb, hh => by
   have ha' := List.pairwise_cons.1 ha
   have hb' := List.pairwise_cons.1 hb
   unfold Y7
   split
   · rename_i hxy
     obtain ⟨h1, h2⟩ := XV h ho (q := x) fun z hz => hh z hz x (by simp)
     obtain ⟨h3, h4⟩ := Jo h n (Jn c out x) a (y :: b) (by simp at hn ⊢; omega) h1 ha'.2 hb (fun z hz w hw => by
       rcases (h2 z).1 hz with hz | rfl
       · exact hh z hz w (by rcases hw with hw | hw <;> simp [hw] <;> simp at hw <;> simp [hw])
       · rcases hw with hw | hw
         · have := ha'.1 w hw; omega
         · rcases List.mem_cons.1 hw with rfl | hw
           · exact hxy
           · exact h.trans _ _ _ hxy (by have := hb'.1 w hw; omega))
     refine ⟨h3, fun z => ?_⟩
     rw [h4, h2]
     simp only [List.mem_cons]
     grind
   · rename_i hxy
     have hyx := h.gt hxy
     obtain ⟨h1, h2⟩ := XV h ho (q := y) fun z hz => hh z hz y (by simp)
     obtain ⟨h3, h4⟩ := Jo h n (Jn c out y) (x :: a) b (by simp at hn ⊢; omega) h1 ha hb'.2 (fun z hz w hw => by
       rcases (h2 z).1 hz with hz | rfl
       · exact hh z hz w (by rcases hw with hw | hw <;> simp [hw] <;> simp at hw <;> simp [hw])
       · rcases hw with hw | hw
         · rcases List.mem_cons.1 hw with rfl | hw
           · omega
           · exact h.trans _ x _ (by omega) (by have := ha'.1 w hw; omega)
         · have := hb'.1 w hw; omega)
     refine ⟨h3, fun z => ?_⟩
     rw [h4, h2]
     simp only [List.mem_cons]
     grind
end
end Go.Our
namespace Go.Our
section
variable {α : Type} {c : α → α → Int}
theorem Z6T : Rise c ([] : List α) := List.Pairwise.nil
def wanted (f b s p q : Prop) : Prop := (f ∧ p ∧ ¬ q) ∨ (b ∧ p ∧ q) ∨ (s ∧ ¬ p ∧ q)
end
section
variable {α : Type} [DecidableEq α] {c : α → α → Int}
theorem Z32 (h : Tri c) {xs ys l : List α} (hx : Rise c xs) (hy : Rise c ys) (hl : ∀ z, z ∈ l ↔ z ∈ xs ∨ z ∈ ys) : Y7 c [] xs ys = setL c l := by
 obtain ⟨h1, h2⟩ := Jo h _ [] xs ys rfl Z6T hx hy (by simp)
 exact ZaZ h h1 fun z => by rw [h2, hl]; simp
def VQ (c : α → α → Int) (l : List α) : List α := if l.length < 2 then l else Y7 c [] (VQ c (l.take (l.length / 2))) (VQ c (l.drop (l.length / 2)))
termination_by l.length
decreasing_by
 · simp only [List.length_take]; omega
 · simp only [List.length_drop]; omega
theorem Wi (h : Tri c) : ∀ (n : Nat) (l : List α), l.length ≤ n → VQ c l = setL c l
 | 0, l, hn => by
   have : l = [] := List.length_eq_zero_iff.1 (by omega)
   subst this
   unfold VQ
   simp [setL, Zc]
 | n + 1, l, hn => by
   unfold VQ
   split
   · match l with
     | [] => simp [setL, Zc]
     | [x] => simp [setL, Zc]
     | x :: y :: l => simp at *; omega
   · rw [Wi h n _ (by simp; omega), Wi h n _ (by simp; omega)]
     refine Z32 h (XL h _) (XL h _) fun z => ?_
     rw [WF, WF, ← List.mem_append, List.take_append_drop]
theorem XW : ∀ {l : List α} {i : Nat} (h0 : 1 ≤ i) (h : i < l.length), Zc (l.take (i + 1)) = if l[i] = l[i - 1]'(by omega) then Zc (l.take i) else Zc (l.take i) ++ [l[i]]
 | [], i, _, h => by simp at h
 | [a], i, h0, h => by simp at h; omega
 | a :: b :: l, 0, h0, h => by omega
 | a :: b :: l, 1, h0, h => by
   simp only [List.take_succ_cons, List.take_zero, Zc, List.getElem_cons_succ, List.getElem_cons_zero, Nat.sub_self]
   by_cases e : a = b
   · subst e; simp
   · rw [if_neg e, if_neg (fun h => e h.symm)]; rfl
 | a :: b :: l, i + 2, h0, h => by
   have hi : i + 1 < (b :: l).length := by simpa using h
   have ih := XW (l := b :: l) (i := i + 1) (by omega) hi
   have e2 : (a :: b :: l)[i + 2 - 1]'(by simp at h ⊢; omega) = (b :: l)[i + 1 - 1]'(by simp at h ⊢; omega) := rfl
   have e3 : (a :: b :: l)[i + 2] = (b :: l)[i + 1] := rfl
   rw [e2, e3]
   simp only [List.take_succ_cons, Zc] at ih ⊢
   by_cases e : a = b
   · simp only [if_pos e]; exact ih
   · simp only [if_neg e, ih]
     split <;> simp
theorem UQ {l : List α} (h : l.length < 2) : Zc l = l := by
 match l, h with
 | [], _ => rfl
 | [a], _ => rfl
theorem Z1R {l : List α} : Zc (l.take 1) = l.take 1 := UQ (by simp; omega)
end
section
variable {α : Type} [DecidableEq α] {c : α → α → Int}
def Z0s (out : List α) (q : α) : List α := match out.getLast? with
 | none => [q]
 | some z => if z ≠ q then out ++ [q] else out
def Yc (c : α → α → Int) (out : List α) : List α → List α → List α
 | [], [] => out
 | x :: a, [] => Yc c (Z0s out x) a []
 | [], y :: b => Yc c (Z0s out y) [] b
 | x :: a, y :: b => if c x y ≤ 0 then Yc c (Z0s out x) a (y :: b) else Yc c (Z0s out y) (x :: a) b
termination_by a b => a.length + b.length
theorem Z0I (h : Tri c) {out : List α} {q : α} (hq : ∀ x ∈ out, c x q ≤ 0) : Z0s out q = Jn c out q := by
 unfold Z0s Jn
 cases hg : out.getLast? with
 | none => rfl
 | some z =>
   have hz : z ∈ out := List.mem_of_getLast? hg
   have := hq z hz
   simp only
   by_cases e : z = q
   · subst e
     have := h.self z
     rw [if_neg (by simp), if_neg (by omega)]
   · have : c z q ≠ 0 := fun e2 => e ((h.zero z q).1 e2)
     rw [if_pos e, if_pos (by omega)]
theorem VR (h : Tri c) : ∀ (n : Nat) (out a b : List α), a.length + b.length = n → Rise c out → Rise c a → Rise c b → (∀ x ∈ out, ∀ y, y ∈ a ∨ y ∈ b → c x y ≤ 0) → Yc c out a b = Y7 c out a b
 | n, out, [], [], hn, ho, ha, hb, hh => by unfold Yc Y7; rfl
 | 0, out, x :: a, b, hn, _, _, _, _ => by simp at hn
 | 0, out, [], y :: b, hn, _, _, _, _ => by simp at hn
 | n + 1, out, x :: a, [], hn, ho, ha, hb, hh => by
   have ha' := List.pairwise_cons.1 ha
   obtain ⟨h1, h2⟩ := XV h ho (q := x) fun z hz => hh z hz x (by simp)
   unfold Yc Y7
   rw [Z0I h fun z hz => hh z hz x (by simp)]
   exact VR h n (Jn c out x) a [] (by simp at hn ⊢; omega) h1 ha'.2 hb (fun z hz y hy => by
     rcases (h2 z).1 hz with hz | rfl
     · exact hh z hz y (by simpa using Or.inr (by simpa using hy))
     · have : y ∈ a := by simpa using hy
       have := ha'.1 y this; omega)
 | n + 1, out, [], y :: b, hn, ho, ha, hb, hh => by
   have hb' := List.pairwise_cons.1 hb
   obtain ⟨h1, h2⟩ := XV h ho (q := y) fun z hz => hh z hz y (by simp)
   unfold Yc Y7
   rw [Z0I h fun z hz => hh z hz y (by simp)]
   exact VR h n (Jn c out y) [] b (by simp at hn ⊢; omega) h1 ha hb'.2 (fun z hz w hw => by
     have hw : w ∈ b := by simpa using hw
     rcases (h2 z).1 hz with hz | rfl
     · exact hh z hz w (by simp [hw])
     · have := hb'.1 w hw; omega)
 | n + 1, out, x :: a, y :: b, hn, ho, ha, hb, hh => by
   have ha' := List.pairwise_cons.1 ha
   have hb' := List.pairwise_cons.1 hb
   unfold Yc Y7
   split
   · rename_i hxy
     obtain ⟨h1, h2⟩ := XV h ho (q := x) fun z hz => hh z hz x (by simp)
     rw [Z0I h fun z hz => hh z hz x (by simp)]
     exact VR h n (Jn c out x) a (y :: b) (by simp at hn ⊢; omega) h1 ha'.2 hb (fun z hz w hw => by
       rcases (h2 z).1 hz with hz | rfl
       · exact hh z hz w (by rcases hw with hw | hw <;> simp [hw] <;> simp at hw <;> simp [hw])
       · rcases hw with hw | hw
         · have := ha'.1 w hw; omega
         · rcases List.mem_cons.1 hw with rfl | hw
           · exact hxy
           · exact h.trans _ _ _ hxy (by have := hb'.1 w hw; omega))
   · rename_i hxy
     have hyx := h.gt hxy
     obtain ⟨h1, h2⟩ := XV h ho (q := y) fun z hz => hh z hz y (by simp)
     rw [Z0I h fun z hz => hh z hz y (by simp)]
     exact VR h n (Jn c out y) (x :: a) b (by simp at hn ⊢; omega) h1 ha hb'.2 (fun z hz w hw => by
       rcases (h2 z).1 hz with hz | rfl
       · exact hh z hz w (by rcases hw with hw | hw <;> simp [hw] <;> simp at hw <;> simp [hw])
       · rcases hw with hw | hw
         · rcases List.mem_cons.1 hw with rfl | hw
           · omega
           · exact h.trans _ x _ (by omega) (by have := ha'.1 w hw; omega)
         · have := hb'.1 w hw; omega)
def Up (c : α → α → Int) (l : List α) : List α := if l.length < 2 then l else Yc c [] (Up c (l.take (l.length / 2))) (Up c (l.drop (l.length / 2)))
termination_by l.length
decreasing_by
 · simp only [List.length_take]; omega
 · simp only [List.length_drop]; omega
theorem Wj (h : Tri c) : ∀ (n : Nat) (l : List α), l.length ≤ n → Up c l = setL c l
 | 0, l, hn => by
   have : l = [] := List.length_eq_zero_iff.1 (by omega)
   subst this
   unfold Up
   simp [setL, Zc]
 | n + 1, l, hn => by
   unfold Up
   split
   · match l with
     | [] => simp [setL, Zc]
     | [x] => simp [setL, Zc]
     | x :: y :: l => simp at *; omega
   · rw [Wj h n _ (by simp; omega), Wj h n _ (by simp; omega), VR h _ _ _ _ rfl Z6T (XL h _) (XL h _) (by simp)]
     refine Z32 h (XL h _) (XL h _) fun z => ?_
     rw [WF, WF, ← List.mem_append, List.take_append_drop]
theorem Zbx {β : Type} [DecidableEq β] {d : β → β → Int} (h : Tri c) (h' : Tri d) (f : α → β) (hf : ∀ x y, d (f x) (f y) = c x y) (l : List α) : (setL c l).map f = setL d (l.map f) := by
 refine ZaZ h' ?_ fun y => ?_
 · have := XL h l
   unfold Rise at this ⊢
   rw [List.pairwise_map]
   exact this.imp fun {a b} hab => by rw [hf]; exact hab
 · simp only [List.mem_map, WF]
end
def Xq (t : Tm) : List (List UInt8) := if t.k = 2 then [t.t] else []
def YF (q : Qd) : List (List UInt8) := Xq q.s ++ Xq q.p ++ Xq q.o ++ Xq q.g
def X1 (l : List Qd) : List (List UInt8) := l.flatMap YF
def Y8 (s : List UInt8) : Tm := ⟨2, s, [], []⟩
theorem Z90 (x y : List UInt8) : Yk (Y8 x) (Y8 y) = cmpL x y := by
 have h1 : cmpI 2 2 = 0 := by decide
 have h2 : cmpL ([] : List UInt8) [] = 0 := triL.self []
 simp only [Yk, Y8, Tm.key, Xp, h1, h2]
 split <;> simp_all
theorem Z7y (l : List (List UInt8)) : (setL Yk (l.map Y8)).map Tm.t = setL cmpL l := by
 rw [← Zbx triL triT Y8 Z90, List.map_map]
 conv => rhs; rw [← List.map_id (setL cmpL l)]
 rfl
abbrev Pr := List UInt8 × List UInt8
def toOf (ps : List Pr) (s : List UInt8) : Option (List UInt8) := (ps.find? fun p => decide (p.1 = s)).map Prod.snd
def Xf (ps : List Pr) (t : Tm) : Tm := if t.k = 2 then match toOf ps t.t with | some u => { t with t := u } | none => t else t
def Jp (ps : List Pr) (q : Qd) : Qd := ⟨Xf ps q.s, Xf ps q.p, Xf ps q.o, Xf ps q.g⟩
end Go.Our
namespace Go.Our
open Go.Sx
structure KeyK (α : Type) [DecidableEq α] where
 ks : Bool × List CK
 enc : α → SV
 is : ∀ a b, W1 ks (enc a) (enc b) = decide (a = b)
 ok : ∀ a, J8 ks (enc a) = true
 pl : ∀ a, plain (enc a) = true
section
variable {α β : Type} [DecidableEq α] (K : KeyK α)
def Z5Y (f : β → SV) (l : List (α × β)) : List (List SV) := l.map fun p => [K.enc p.1, f p.2]
def Z33 (es : Nat) (f : β → List (List SV)) (l : List (α × β)) : List (List DC) := l.map fun p => [.v (K.enc p.1), .kid es (f p.2)]
def ixA (a : α) : List (α × β) → Option (Nat × β)
 | [] => none
 | (k, v) :: r => if a = k then some (0, v) else (ixA a r).map fun p => (p.1 + 1, p.2)
def getA (a : α) : List (α × β) → Option β
 | [] => none
 | (k, v) :: r => if a = k then some v else getA a r
def setA (a : α) (v : β) : List (α × β) → List (α × β)
 | [] => [(a, v)]
 | (k, u) :: r => if a = k then (k, v) :: r else (k, u) :: setA a v r
theorem Z6U (a b : α) (v : β) : ∀ l : List (α × β), getA b (setA a v l) = if b = a then some v else getA b l
 | [] => by
   simp only [setA, getA]
 | (k, u) :: r => by
   unfold setA
   by_cases h : a = k
   · subst h
     rw [if_pos rfl]
     simp only [getA]
     by_cases e : b = a
     · rw [if_pos e, if_pos e]
     · rw [if_neg e, if_neg e, if_neg e]
   · rw [if_neg h]
     simp only [getA, Z6U a b v r]
     by_cases e : b = k
     · subst e; rw [if_pos rfl, if_neg (fun e => h e.symm), if_pos rfl]
     · rw [if_neg e, if_neg e]
theorem Z5Z (f : β → SV) (a : α) : ∀ (l : List (α × β)) (i : Nat), YP K.ks (K.enc a) i (Z5Y K f l) = (ixA a l).map fun p => (i + p.1, f p.2)
 | [], i => rfl
 | (k, v) :: r, i => by
   have ih := Z5Z f a r (i + 1)
   simp only [Z5Y, List.map_cons, YP, K.is, ixA] at ih ⊢
   by_cases h : a = k
   · simp [h]
   · simp only [h, decide_false, if_false, ih, Option.map_map]
     congr 1
     funext p
     simp only [Function.comp, Prod.mk.injEq, and_true]
     omega
theorem Z91 (f : β → SV) (hf : ∀ b, plain (f b) = true) (l : List (α × β)) : Zs (Z5Y K f l) = true := by
 unfold Z5Y
 exact ZX _ (fun p => by simp only [Yn, K.pl, hf, Bool.and_self]) l
theorem Z60 (es : Nat) (f : β → List (List SV)) (a : α) : ∀ (l : List (α × β)) (i : Nat), findD K.ks (K.enc a) i (Z33 K es f l) = (ixA a l).map fun p => (i + p.1, .kid es (f p.2))
 | [], i => rfl
 | (k, v) :: r, i => by
   have ih := Z60 es f a r (i + 1)
   simp only [Z33, List.map_cons, findD, Xg, K.is, ixA] at ih ⊢
   by_cases h : a = k
   · simp [h]
   · simp only [h, decide_false, if_false, ih, Option.map_map]
     congr 1
     funext p
     simp only [Function.comp, Prod.mk.injEq, and_true]
     omega
theorem Z6V (es : Nat) (f : β → List (List SV)) (hf : ∀ b, Zs (f b) = true) : ∀ l : List (α × β), XK (Z33 K es f l) = true
 | [] => rfl
 | p :: l => by
   have ih := Z6V es f hf l
   unfold Z33 at ih ⊢
   simp only [List.map_cons, XK, UF, WT, K.pl, hf, ih, Bool.and_self]
end
section
variable {α β : Type} [DecidableEq α]
theorem FIND.A (K : KeyK α) (f : β → SV) (a : α) (l : List (α × β)) {J : Type} {A : Nat → SV → J → Prop} {B : J → Prop} {j : J} (hs : ∀ i v, ixA a l = some (i, v) → A (0 + i) (f v) j) (hn : ixA a l = none → B j) : FIND (YP K.ks (K.enc a) 0 (Z5Y K f l)) A B j := by
 refine FIND.mk (fun i v hf => ?_) (fun hf => ?_)
 · obtain ⟨⟨k, x⟩, hj, he⟩ := Option.map_eq_some_iff.1 ((Z5Z K f a l 0).symm.trans hf)
   cases he
   exact hs _ _ hj
 · exact hn (Option.map_eq_none_iff.1 ((Z5Z K f a l 0).symm.trans hf))
theorem FINDD.A (K : KeyK α) (es : Nat) (f : β → List (List SV)) (a : α) (l : List (α × β)) {J : Type} {A : Nat → DC → J → Prop} {B : J → Prop} {j : J} (hs : ∀ i v, ixA a l = some (i, v) → A (0 + i) (.kid es (f v)) j) (hn : ixA a l = none → B j) : FINDD (findD K.ks (K.enc a) 0 (Z33 K es f l)) A B j := by
 refine FINDD.mk (fun i v hf => ?_) (fun hf => ?_)
 · obtain ⟨⟨k, x⟩, hj, he⟩ := Option.map_eq_some_iff.1 ((Z60 K es f a l 0).symm.trans hf)
   cases he
   exact hs _ _ hj
 · exact hn (Option.map_eq_none_iff.1 ((Z60 K es f a l 0).symm.trans hf))
end
def KQ : KeyK Qd where
 ks := (true, [.int .i64, .str, .str, .str, .int .i64, .str, .str, .str, .int .i64, .str, .str, .str, .int .i64, .str, .str, .str])
 enc := Qd.sv
 is a b := by
   obtain ⟨⟨a1, a2, a3, a4⟩, ⟨a5, a6, a7, a8⟩, ⟨a9, b1, b2, b3⟩, ⟨b4, b5, b6, b7⟩⟩ := a
   obtain ⟨⟨c1, c2, c3, c4⟩, ⟨c5, c6, c7, c8⟩, ⟨c9, d1, d2, d3⟩, ⟨d4, d5, d6, d7⟩⟩ := b
   rw [Bool.eq_iff_iff]
   simp [W1, JS, ZR, Zn, Qd.sv, XO]
   simp only [and_assoc]
 ok a := by simp [J8, JS, ZR, Zn, Qd.sv, XO]
 pl a := rfl
def KT : KeyK (List UInt8) where
 ks := (false, [.str])
 enc := .str
 is a b := by rw [Bool.eq_iff_iff]; simp [W1, JS, ZR, Zn]
 ok a := by simp [J8, JS, ZR, Zn]
 pl a := rfl
abbrev LB := List UInt8
end Go.Our
namespace Go.Sx
open Go Go.Sort Go.Shelf Go.Proofs
theorem HeapOK.later {M : Mx} {η : Env} {w w' : World} {O : Hps} {nx : Nat} (H : HeapOK M η w O nx) (hf : FrW w w' fun _ => False) : HeapOK M η w' O nx := by
 have hk : ∀ {i h}, lkp i O = some h → ∀ k, feet η w (.loc i) h k → w'.heap[k]? = w.heap[k]? := fun hi k f => hf.block k ((H.own.1 _ _ hi).1.feet_lt f) (fun h => h)
 have hb : ∀ {i h}, lkp i O = some h → ∀ k, feet η w' (.loc i) h k → feet η w (.loc i) h k := fun hi k f => H.stands List.prefix_rfl hi (hk hi) f
 exact ⟨H.pre, H.len, ⟨fun i h hi => ⟨(H.own.1 i h hi).1.keep (hk hi), fun k f => (H.own.1 i h hi).2 k (hb hi k f)⟩, fun i j h h' k hi hj hij f f' => H.own.2 i j h h' k hi hj hij (hb hi k f) (hb hj k f')⟩, H.fr.trans hf (fun n h => h.elim), H.sok⟩
theorem FrW.grown {w w' : World} (h : FrW w w' fun _ => False) : ∃ q os, w' = grow (w.drewN q) os := by
 refine ⟨w'.drawn - w.drawn, w'.heap.extract w.heap.size, ?_⟩
 have hd := h.drawn
 have e1 : w'.heap = w.heap ++ w'.heap.extract w.heap.size := by
   apply Array.ext_getElem?
   intro k
   rcases Nat.lt_or_ge k w.heap.size with hk | hk
   · rw [Array.getElem?_append_left hk]; exact h.block k hk (fun x => x)
   · rw [Array.getElem?_append_right hk, Array.getElem?_extract]
     simp only [Nat.min_self]
     split
     · rw [show w.heap.size + (k - w.heap.size) = k by omega]
     · rename_i hn
       exact Array.getElem?_eq_none (by omega)
 obtain ⟨heap, tape, drawn, os, output⟩ := w
 obtain ⟨heap', tape', drawn', os', output'⟩ := w'
 have h1 := h.os
 have h2 := h.tape
 have h3 := h.output
 simp only at h1 h2 h3 hd e1
 subst h1 h2 h3
 simp only [grow, World.drewN]
 rw [← e1]
 congr 1
 omega
section
variable {α : Type} [Inhabited α] (enc : α → List Value) (k : Nat)
theorem Jq (w : World) (blk off m : Nat) (dk : Array α) (os : Array Obj) : (sortWorldK enc k w blk off m dk os).heap = (mapBlock w blk (putCells id off (flatK enc k dk))).heap ++ os := by
 simp [sortWorldK, grow, putRowK, putRow, mapBlock, Sort.ahead]
theorem VS (w : World) (blk off m : Nat) (dk : Array α) (os : Array Obj) : w.heap.size ≤ (sortWorldK enc k w blk off m dk os).heap.size := by
 rw [Jq]; simp [mapBlock]
theorem VA (w : World) (blk off m : Nat) (dk : Array α) (os : Array Obj) {g : Nat} (hg : g < w.heap.size) (hne : g ≠ blk) : (sortWorldK enc k w blk off m dk os).heap[g]? = w.heap[g]? := by
 rw [Jq, Array.getElem?_append_left (by simpa [mapBlock] using hg)]
 simp only [mapBlock, Array.getElem?_modify]
 rw [if_neg (fun h => hne h.symm)]
theorem Z2q (w : World) (blk off m : Nat) (dk : Array α) (os : Array Obj) {c : Array Value} {T : TypeId} {fz : Nat × Nat} (h : w.heap[blk]? = some (.cells c T fz)) : (sortWorldK enc k w blk off m dk os).heap[blk]? = some (.cells (putCells id off (flatK enc k dk) c) T fz) := by
 have hlt := (Array.getElem?_eq_some_iff.1 h).1
 rw [Jq, Array.getElem?_append_left (by simpa [mapBlock] using hlt)]
 simp only [mapBlock, Array.getElem?_modify, if_true, h, Option.map_eq_map, Option.map_some, onCells]
end
theorem Z95 {w : World} {g i : Nat} {c : Array Value} {T : TypeId} {fz : Nat × Nat} (h : w.heap[g]? = some (.cells c T fz)) : w.cell? ⟨g, i, none⟩ = c[i]? := by simp [World.cell?, h]
theorem Z7B {P : Program} {T : Tab} {α : Type} [Inhabited α] {enc : α → List Value} {k : Nat} {row : α → List SV} {g : FuncId} {cf : α → α → Int} {blk off size : Nat} {w : World} (hlone : T.globs.all (fun p => Z5J p.2) = true) (hblk : ∀ h, lkp blk T.globs ≠ some h)
   (hc : ∀ x y, Does P T g 0 [.agg (row x), .agg (row y)] [] [] (Val (.int .i64 (cf x y)))) (eg : ∀ args w, (callFunc g args).run P w = .ok (.enter g args) w)
   (hrow : ∀ η x, DenL η (row x) (enc x) ∧ ∀ u ∈ enc x, u.oneCell' = true) (hg : ∀ g h, lkp g T.globs = some h → HpSat [] w false (.glob g) h ∧ g < w.heap.size) : CmpLays P g #[] enc k cf blk off size w := by
 intro m os dk hdk x y
 have hg' : ∀ g h, lkp g T.globs = some h → HpSat [] (sortWorldK enc k w blk off m dk os) false (.glob g) h ∧ g < (sortWorldK enc k w blk off m dk os).heap.size := by
   intro g' h hh
   obtain ⟨h1, h2⟩ := hg g' h hh
   have hne : g' ≠ blk := fun e => hblk h (e ▸ hh)
   refine ⟨h1.keep fun n f => ?_, Nat.lt_of_lt_of_le h2 (VS enc k w blk off m dk os)⟩
   have hlt := h1.feet_lt f
   obtain ⟨e, he, hf⟩ := f
   cases he
   rcases hf with rfl | hf
   · exact VA enc k w blk off m dk os hlt hne
   · exact (W4 (List.all_eq_true.1 hlone _ (VJ hh)) hf).elim
 have := Does.calls (hc x y) eg (vs := [.agg (enc x).toArray, .agg (enc y).toArray]) (w := sortWorldK enc k w blk off m dk os) (by
   simp only [DenL, Den]
   exact ⟨_, _, rfl, ⟨_, rfl, (hrow [] x).1, (hrow [] x).2⟩, _, _, rfl, ⟨_, rfl, (hrow [] y).1, (hrow [] y).2⟩, rfl⟩) hg'
 refine this.mono ?_
 rintro e w' ⟨v, rfl, hv, hf⟩
 simp only [Den] at hv
 subst hv
 exact ⟨rfl, hf.grown⟩
theorem Z35 {α : Type} [Inhabited α] {enc : α → List Value} {k : Nat} (hk : ∀ x, (enc x).length = k) {l : List α} {i j : Nat} {x : α} (hi : l[i]? = some x) (hj : j < k) : (flatK enc k l.toArray)[i * k + j]! = (enc x)[j]! ∧ i * k + j < l.length * k := by
 have hil := (List.getElem?_eq_some_iff.1 hi).1
 have hlt : i * k + j < l.length * k := by
   have : (i + 1) * k ≤ l.length * k := Nat.mul_le_mul_right k hil
   rw [Nat.succ_mul] at this
   omega
 refine ⟨?_, hlt⟩
 rw [get_flatK _ _ _ _ (by simpa using hlt)]
 have h1 : (i * k + j) / k = i := by rw [Nat.mul_comm, Nat.mul_add_div (by omega), Nat.div_eq_of_lt hj, Nat.add_zero]
 have h2 : (i * k + j) % k = j := by rw [Nat.mul_comm, Nat.mul_add_mod]; exact Nat.mod_eq_of_lt hj
 rw [h1, h2]
 congr 1
 have := (List.getElem?_eq_some_iff.1 hi).2
 simp [hil, this]
theorem Z3J {P : Program} {T : Tab} {ρ : Ren} {α : Type} [Inhabited α] (hT : TabOK P T) (L : SlLaysF0.n6 P ρ) (L' : SlLaysF0.n6 P ρ) {enc : α → List Value} {k : Nat} {row : α → List SV} {g : FuncId} {cf : α → α → Int}
   (aE : ∀ w, (isAgg (ρ.t 24)).run P w = .ok true w) (zE : ∀ w, (Go.sizeOf (ρ.t 24)).run P w = .ok k w) (hk : ∀ x, (enc x).length = k ∧ (row x).length = k) (hk0 : 0 < k) (hO : SWO (ltOf cf)) (hTo : ∀ x y, (ltOf cf) x y = false → (ltOf cf) y x = false → x = y)
   (hlone : T.globs.all (fun p => Z5J p.2) = true) (hc : ∀ x y, Does P T g 0 [.agg (row x), .agg (row y)] [] [] (Val (.int .i64 (cf x y)))) (eg : ∀ args w, (callFunc g args).run P w = .ok (.enter g args) w) (ef : ∀ args w, (callFunc (ρ.f 6) args).run P w = .ok (.enter (ρ.f 6) args) w)
   (hrow : ∀ η x, DenL η (row x) (enc x) ∧ ∀ u ∈ enc x, u.oneCell' = true) (hrow' : ∀ η x vs, DenL η (row x) vs → vs = enc x) (l : List α) (hl : l.length < 4611686018427387904) :
   Does P T (ρ.f 6) 1 [.sl (.loc 0) 0 k l.length none, .fn (.func g) [] []] [(0, .rows k (l.map row))] [] (fun r O nx => r = .tup [] ∧ O = [(0, .rows k ((l.mergeSort fun x y => !(ltOf cf) y x).map row))] ∧ nx = 1) := by
 refine ⟨fun M vs hP hT' hF hS H hd => .inl ⟨ρ.f 6, by rw [hP]; exact ef _ _, ?_⟩⟩
 obtain ⟨P', ⟨T', N', S', ro'⟩, w0, F, η0⟩ := M
 simp only at hP hT' hF hS H hd ⊢
 subst hP hT'
 simp only [DenL] at hd
 obtain ⟨v, us, rfl, hv, f, us', rfl, hf, rfl⟩ := hd
 simp only [Den] at hf
 obtain ⟨ff, fc, rfl, hff, hfc⟩ := hf
 simp only [DenL] at hff hfc
 subst hff hfc
 have hsat := (H.own.1 0 _ rfl).1
 have hgl : ∀ g h, lkp g T'.globs = some h → HpSat [] w0 false (.glob g) h ∧ g < w0.heap.size := by
   intro g' h hh
   have hp : JE h = true := List.all_eq_true.1 T'.gplain _ (VJ hh)
   have h1 := H.shared (b := .glob g') hh
   refine ⟨h1.plain hp, h1.feet_lt ⟨⟨g', 0, 0⟩, rfl, .inl rfl⟩⟩
 simp only [HpSat, Env.get] at hsat
 simp only [Den, Env.get] at hv
 have fin : ∀ w' (O' : Hps), FrW w0 w' F → HpSat η0 w' true (.loc 0) (.rows k ((l.mergeSort fun x y => !(ltOf cf) y x).map row)) →
     ∃ r O' nx' η', (r = SV.tup [] ∧ O' = [(0, Hp.rows k ((l.mergeSort fun x y => !(ltOf cf) y x).map row))] ∧ nx' = 1) ∧ η0 <+: η' ∧ HeapOK ⟨P', ⟨T', N', S', ro'⟩, w0, F, η0⟩ η' w' O' nx' ∧ Den η' r (.tuple #[]) := by
   intro w' O' hfr hs
   refine ⟨_, _, _, η0, ⟨rfl, rfl, rfl⟩, List.prefix_rfl, ⟨H.pre, H.len, ⟨fun i h hi => ?_, fun i j h h' k hi hj hij f f' => ?_⟩, hfr, H.sok⟩, ?_⟩
   · rw [Zk] at hi
     split at hi
     · rename_i e; subst e
       injection hi with hi; subst hi
       refine ⟨hs, fun n f => (H.own.1 0 _ rfl).2 n ?_⟩
       obtain ⟨e, h1, h2⟩ := f
       exact ⟨e, h1, h2⟩
     · simp [lkp] at hi
   · rw [Zk] at hi hj
     split at hi
     · rename_i e; subst e
       split at hj
       · rename_i e2; exact (hij e2.symm).elim
       · simp [lkp] at hj
     · simp [lkp] at hi
   · simp only [Den, DenL]; exact ⟨[], rfl, rfl⟩
 rcases hsat with ⟨hn, hnil⟩ | ⟨e, arr, Tt, fz, he, hheap, hown, hcells⟩
 ·
   have hl0 : l = [] := by simpa using hnil
   subst hl0
   have hv2 : v = .slice none 0 0 := by
     rcases hv with ⟨_, h, _⟩ | ⟨e, o, h, _⟩
     · exact h
     · rw [hn] at h; cases h
   subst hv2
   refine (AnyF.slices_SortFunc_none L' none 0 _ w0).mono ?_
   rintro e w' ⟨rfl, rfl⟩
   refine ⟨_, rfl, fin _ [] (FrW.refl _ _) ?_⟩
   simp only [HpSat, Env.get]
   exact .inl ⟨hn, by simp⟩
 · obtain ⟨hun, hsz, hle, hb0⟩ := hown trivial
   obtain ⟨hel, hvv⟩ : l.length ≤ e.cap ∧ v = .slice (some ⟨e.g, 0, none⟩) l.length e.cap := by
     rcases hv with ⟨h, _⟩ | ⟨e', o, h, h2, h3, h4, h5⟩
     · rw [he] at h; cases h
     · rw [he] at h; cases h
       simp only [Option.getD_none, Nat.zero_add, Nat.sub_zero] at h2 h3
       have := h5 (.inr trivial)
       rw [hb0] at this
       simp only [Nat.zero_mul, Nat.add_zero] at this
       subst this
       exact ⟨h3, h2⟩
   subst hvv
   have hblk : e.g < w0.heap.size := (Array.getElem?_eq_some_iff.1 hheap).1
   have hcell : ∀ (i : Nat) (x : α) (j : Nat), l[i]? = some x → j < k → arr[i * k + j]? = some (enc x)[j]! := by
     intro i x j hi hj
     obtain ⟨h1, h2⟩ := hcells i (row x) (by rw [List.getElem?_map, hi]; rfl)
     have hlen := (hk x).2
     have hen := (hk x).1
     have hall : ∀ (j : Nat) (c : SV), (row x)[j]? = some c → ∃ u, ((List.range k).map fun j => arr.getD (i * k + j) undef)[j]? = some u ∧ Den η0 c u := by
       intro j c hj
       have hjk : j < k := by have := (List.getElem?_eq_some_iff.1 hj).1; omega
       obtain ⟨u, h3, h4, h5⟩ := h2 j c hj
       rw [hb0, Nat.zero_add] at h3
       refine ⟨u, ?_, h5⟩
       rw [List.getElem?_map, List.getElem?_range hjk]
       simp only [Option.map_some, Array.getD_eq_getD_getElem?, h3, Option.getD_some]
     have hvs := hrow' η0 x _ (UJ (by simp [hlen]) hall)
     have hjr : j < (row x).length := by omega
     obtain ⟨u, h3, h4, h5⟩ := h2 j ((row x)[j]) (List.getElem?_eq_getElem hjr)
     rw [hb0, Nat.zero_add] at h3
     have h6 : (enc x)[j]! = u := by
       rw [← hvs]
       have : ((List.range k).map fun j => arr.getD (i * k + j) undef)[j]? = some u := by
         rw [List.getElem?_map, List.getElem?_range hj]
         simp only [Option.map_some, Array.getD_eq_getD_getElem?, h3, Option.getD_some]
       rw [List.getElem!_eq_getElem?_getD, this]; rfl
     rw [h3, h6]
   have split : ∀ t, t < l.length * k → ∃ x, l[t / k]? = some x ∧ t % k < k ∧ t / k * k + t % k = t := by
     intro t ht
     have h1 : t / k < l.length := Nat.div_lt_of_lt_mul (by rw [Nat.mul_comm]; exact ht)
     exact ⟨l[t / k], List.getElem?_eq_getElem h1, Nat.mod_lt _ hk0, by rw [Nat.mul_comm]; exact Nat.div_add_mod t k⟩
   have hsize : l.length * k ≤ arr.size := by rw [hsz]; exact Nat.mul_le_mul_right _ hel
   have hH : HoldsK enc k w0 e.g 0 l.toArray := by
     intro t ht
     rw [size_flatK, List.size_toArray] at ht
     obtain ⟨x, h1, h2, h3⟩ := split t ht
     have h4 := hcell _ x _ h1 h2
     have h5 := (Z35 (enc := enc) (fun x => (hk x).1) h1 h2).1
     rw [h3] at h4 h5
     refine ⟨by rw [Nat.zero_add, Z95 hheap, h4, h5]; rfl, ?_⟩
     have := hun t (by omega)
     simp only [World.frozen?, hheap, Nat.zero_add]
     simpa using this
   have hFg : F e.g := by
     rcases (H.own.1 0 _ rfl).2 e.g ⟨e, he, .inl rfl⟩ with h | h
     · exact h
     · have h : w0.heap.size ≤ e.g := h
       omega
   have hcl : CmpLays P' g #[] enc k cf e.g 0 l.toArray.size w0 := Z7B hlone (fun h hh => (H.sok (.glob e.g) h hh).2 e.g ⟨⟨e.g, 0, 0⟩, rfl, .inl rfl⟩ |>.2 hFg) hc eg (fun η x => hrow η x) hgl
   have hmain := AnyQ.slices_SortFunc_total L k aE zE enc (fun x => (hk x).1) (fun x u hu => (hrow [] x).2 u hu) cf hO g #[] e.g 0 e.cap l.toArray w0 eg hcl hH hblk (by simpa using hl) hTo
   rw [List.size_toArray] at hmain
   refine hmain.mono ?_
   rintro e1 w' ⟨rfl, n, os, rfl⟩
   refine ⟨_, rfl, fin _ [] ?_ ?_⟩
   · refine ⟨rfl, rfl, rfl, ?_, VS .., fun b hb hnF => VA enc k w0 e.g 0 n _ os hb (fun e => hnF (e ▸ hFg))⟩
     simp [sortWorldK, grow, putRowK, putRow, mapBlock, Sort.ahead]
   · simp only [HpSat, Env.get]
     have hsl : (l.mergeSort fun x y => !(ltOf cf) y x).length = l.length := List.length_mergeSort l
     refine .inr ⟨e, _, Tt, fz, he, Z2q enc k w0 e.g 0 n _ os hheap, fun _ => ⟨?_, ?_, ?_, hb0⟩, fun i rw1 hi => ?_⟩
     · simp only [putCells, Array.size_mapIdx]; exact hun
     · simp only [putCells, Array.size_mapIdx]; exact hsz
     · rw [List.length_map, hsl]; exact hel
     · rw [List.getElem?_map] at hi
       obtain ⟨x, hx, rfl⟩ := Option.map_eq_some_iff.1 hi
       refine ⟨(hk x).2, fun j sv hj => ?_⟩
       have hjk : j < k := by have := (List.getElem?_eq_some_iff.1 hj).1; have := (hk x).2; omega
       obtain ⟨h5, h6⟩ := Z35 (enc := enc) (fun x => (hk x).1) hx hjk
       rw [hsl] at h6
       obtain ⟨u, h7, h8⟩ := X4 (hrow η0 x).1 hj
       refine ⟨u, ?_, (hrow η0 x).2 u (List.mem_of_getElem? h7), h8⟩
       have hlt : i * k + j < arr.size := by omega
       rw [hb0, Nat.zero_add]
       simp only [putCells, Array.getElem?_mapIdx, Array.getElem?_eq_getElem hlt, Option.map_some, Nat.zero_le, true_and, Nat.zero_add, size_flatK, List.size_toArray, hsl, h6, if_true, Nat.sub_zero]
       rw [h5, List.getElem!_eq_getElem?_getD, h7]
       rfl
end Go.Sx
namespace Go.Sx
open Go
def Mx.at (M : Mx) (N : Nat) (ro : Option (Nat × Nat)) (η : Env) : Mx := ⟨M.P, ⟨M.C.T, N, M.C.S, ro⟩, M.w0, M.F, η⟩
def endI (M : Mx) (res : List ResultVar) (K : SV → Hps → Nat → Prop) : Post
 | .normal, fr, O, nx => Z3z fr O fun O => Z0q M.C fr O res fun vs => K (Z3y vs) O nx
 | .ret, fr, O, nx => Z3z fr O fun O => Z0q M.C fr O res fun vs => K (Z3y vs) O nx
 | .exit _, _, _, _ => STOP "exit"
def Z96 : List Nat → List SV → Fr → (Fr → Prop) → Prop
 | [], ags, fr, K => match ags with
   | [] => match Z5Q (lkp DS fr) with
     | true => STOP "round"
     | false => K fr
   | _ :: _ => STOP "round"
 | p :: ps, ags, fr, K => match ags with
   | a :: ags => Z96 ps ags ((p, a) :: fr) K
   | [] => STOP "round"
def Z97 (j : Nat) (K : SV → Hps → Nat → Prop) : Post := fun e fr O nx => match lkp j O with
 | some h => match h with
   | .lp st li fr0 => match st with
     | .busy => match e with
       | .normal => Z2k j (.lp .ready li fr0) O fun O => K (.bool true) O nx
       | .ret => Z2k j (.lp (.left none) li fr0) O fun O => K (.bool false) O nx
       | .exit id => Z2k j (.lp (.left (some id)) li fr0) O fun O => K (.bool false) O nx
     | _ => STOP "record"
   | _ => STOP "record"
 | none => STOP "record"
def Zb0 (M : Mx) (j : Nat) (body : Code) (K : SV → Hps → Nat → Prop) : Post := fun e fr O nx => match e with
 | .normal => match lkp j O with
   | some h => match h with
     | .lp st li fr0 => match st with
       | .ready => Z2k j (.lp .busy li fr0) O fun O => run M body fr O nx (Z97 j K)
       | _ => STOP "record"
     | _ => STOP "record"
   | none => STOP "record"
 | _ => STOP "assignment"
def noDS : Fr → (Fr → Prop) → Prop
 | [], K => K []
 | (t, v) :: r, K => match Nat.beq t DS with
   | true => noDS r K
   | false => noDS r fun r => K ((t, v) :: r)
def Zaf (fr : Fr) (d : Nat) (K : Fr → Prop) : Prop := match lkp DS fr with
 | some v => match v with
   | .dfs l => K ((DS, .dfs (.ptr (.loc d) 0 0 0 :: l)) :: fr)
   | _ => K ((DS, .dfs [.ptr (.loc d) 0 0 0]) :: fr)
 | none => K ((DS, .dfs [.ptr (.loc d) 0 0 0]) :: fr)
def Z98 (j : Nat) (frK : (Fr → Prop) → Prop) (Q : Post) : SV → Hps → Nat → Prop := fun _ O nx => match lkp j O with
 | some h => match h with
   | .lp st _ _ => match st with
     | .ready => Z11 j O fun O => frK fun fr => Q .normal fr O nx
     | .busy => STOP "record"
     | .left jump => match jump with
       | none => Z11 j O fun O => frK fun fr => Q .ret fr O nx
       | some id => Z11 j O fun O => frK fun fr => Q (.exit id) fr O nx
   | _ => STOP "record"
 | none => STOP "record"
section
variable {M : Mx} {η : Env} {w : World} {O : Hps} {nx : Nat}
theorem SOK.longer (h : SOK M) {η : Env} (hp : M.η0 <+: η) {N : Nat} {ro : Option (Nat × Nat)} : SOK (M.at N ro η) := by
 intro b hh hb
 have hb' : lkS M.C b = some hh := by cases b <;> exact hb
 obtain ⟨h1, h2⟩ := h b hh hb'
 obtain ⟨x, hx, _⟩ := h1.lt
 exact ⟨h1.mono hp, fun k f => h2 k (feet.less hp hx f)⟩
theorem HeapOK.at (H : HeapOK M η w O nx) {N : Nat} {ro : Option (Nat × Nat)} : HeapOK (M.at N ro η) η w O nx := ⟨List.prefix_rfl, H.len, H.own, H.fr, H.sok.longer H.pre⟩
theorem HeapOK.back {η0 : Env} {N : Nat} {ro : Option (Nat × Nat)} (H : HeapOK (M.at N ro η0) η w O nx) (hp : M.η0 <+: η0) (hs : SOK M) : HeapOK M η w O nx := ⟨hp.trans H.pre, H.len, H.own, H.fr, hs⟩
theorem Z4T (hT : TabOK M.P M.C.T) {g : FuncId} {fn : Func} {c : Code} (hf : M.P.funcs[g]? = some fn) (hb : fn.body = some c) (N : Nat) (hN : fn.ntmps = N) (hND : N ≤ DS) {args : List SV} (hlen : args.length ≤ N) {res : List ResultVar} (hres : fn.results = res.toArray)
   {K : SV → Hps → Nat → Prop} {vs : List Value} (H : HeapOK M η w O nx) (hd : DenL η args vs) (h : run (M.at N none η) c (UN 0 args) O nx (endI (M.at N none η) res K))
   {R : Ending → World → Prop} (hR : ∀ v r w' O' nx' η', η <+: η' → HeapOK M η' w' O' nx' → Den η' r v → K r O' nx' → R (.returned v) w') : Calls M.P g ⟨vs⟩ w R := by
 have hl := ZN hd
 refine callsIn_wide (n := 0) |>.1 (callsIn_of_wp_marks hf hb trivial ?_)
 have hm : Models (M.at N none η) η (UN 0 args) O nx { tmps := ⟨vs⟩ ++ Array.replicate (fn.ntmps - (Array.mk vs).size) undef, defers := [] } w := by
   refine ⟨H.at, ?_, hND, Z6E (Nat.le_trans hlen hND), (fun l j h => by cases h), ?_⟩
   · simp only [Array.size_append, Array.size_replicate, hN, List.size_toArray]
     show vs.length + (N - vs.length) = N
     omega
   · intro t sv ht
     obtain ⟨v, _, h1, h2⟩ := Z3A hd ht
     have hlt := (List.getElem?_eq_some_iff.1 h1).1
     simp only [Nat.sub_zero] at h1 hlt
     rw [Array.getD_eq_getD_getElem?, Array.getElem?_append_left (by simpa using hlt)]
     have : (Array.mk vs)[t]? = some v := by simpa using h1
     rw [this]; exact h2
 refine Code.wpIn_mono ?_ (Y1 (M := M.at N none η) hT c h η _ w hm)
 have fin : ∀ {η1 : Env} {fr1 : Fr} {O1 : Hps} {nx1 : Nat} {a : Act} {w1 : World}, Models (M.at N none η) η1 fr1 O1 nx1 a w1 → (Z3z fr1 O1 fun O1 => Z0q (M.at N none η).C fr1 O1 res fun vs => K (Z3y vs) O1 nx1) →
     LeavesInM Fence.wide 0 M.P fn a.tmps R a.defers .returning w1 := by
   intro η1 fr1 O1 nx1 a w1 hm1 hr
   exact Z4D (M := M.at N none η) hT hres hm1 hr fun w2 O2 v r H2 hd2 hk => hR v r w2 O2 nx1 η1 H2.pre (H2.back H.pre H.sok) hd2 hk
 intro e a w hq
 cases e with
 | normal => obtain ⟨η1, fr1, O1, nx1, hm1, hq⟩ := hq; exact fin hm1 hq
 | ret => obtain ⟨η1, fr1, O1, nx1, hm1, hq⟩ := hq; exact fin hm1 hq
 | exit id => obtain ⟨η1, fr1, O1, nx1, hm1, hq⟩ := hq; exact hq.out.elim
 | goto l => exact hq.elim
 | panic ch => exact hq.elim
 | outgrown => exact hq.elim
def JK : List Nat → List Value → Array Value → Array Value
 | p :: ps, v :: vs, t => JK ps vs (t.setIfInBounds p v)
 | _, _, t => t
theorem Z4U : ∀ (ps : List Nat) (vs : List Value) (t : Array Value), ((ps.toArray.zip ⟨vs⟩).foldl (fun tmps (p : Nat × Value) => tmps.setIfInBounds p.1 p.2) t) = JK ps vs t := by
 intro ps vs t
 have h1 : (ps.toArray.zip ⟨vs⟩ : Array (Nat × Value)) = (ps.zip vs).toArray := by simp
 rw [h1, ← Array.foldl_toList]
 simp only
 induction ps generalizing vs t with
 | nil => simp [JK]
 | cons p ps ih =>
   cases vs with
   | nil => simp [JK]
   | cons v vs =>
     simp only [List.zip_cons_cons, List.foldl_cons, JK]
     exact ih vs (t.setIfInBounds p v) (by simp)
theorem Z1S : ∀ (ps : List Nat) (vs : List Value) (t : Array Value), (JK ps vs t).size = t.size
 | [], vs, t => by simp [JK]
 | p :: ps, [], t => by simp [JK]
 | p :: ps, v :: vs, t => by simp only [JK]; rw [Z1S ps vs]; simp
theorem Z6W {η : Env} : ∀ {ps : List Nat} {ags : List SV} {fr : Fr} {K : Fr → Prop} {vs : List Value} {t : Array Value}, Z96 ps ags fr K → DenL η ags vs → TmpsOK η t fr → (∀ p ∈ ps, p < t.size) → ∃ fr', K fr' ∧ Z5Q (lkp DS fr') = false ∧ TmpsOK η (JK ps vs t) fr' ∧ vs.length = ps.length
 | [], ags, fr, K, vs, t, h, hd, ht, hp => by
   simp only [Z96] at h
   split at h
   · split at h
     · exact h.out.elim
     · rename_i hn
       simp only [DenL] at hd
       subst hd
       exact ⟨fr, h, hn, ht, rfl⟩
   · exact h.out.elim
 | p :: ps, ags, fr, K, vs, t, h, hd, ht, hp => by
   simp only [Z96] at h
   split at h
   · rename_i a ags
     simp only [DenL] at hd
     obtain ⟨u, us, rfl, h1, h2⟩ := hd
     have hpt := hp p (List.mem_cons_self ..)
     obtain ⟨fr', h3, h4, h5, h6⟩ := Z6W (t := t.setIfInBounds p u) h h2 (fun s sv hs => by
       rw [Zk] at hs
       split at hs
       · rename_i e; subst e; injection hs with hs; subst hs
         simpa [Array.getD_eq_getD_getElem?, Array.getElem?_setIfInBounds, hpt] using h1
       · rename_i e
         rw [Array.getD_eq_getD_getElem?, Array.getElem?_setIfInBounds, if_neg (Ne.symm e), ← Array.getD_eq_getD_getElem?]
         exact ht s sv hs) (fun q hq => by rw [Array.size_setIfInBounds]; exact hp q (List.mem_cons_of_mem _ hq))
     exact ⟨fr', h3, h4, h5, by simp [h6]⟩
   · exact h.out.elim
theorem HeapOK.record (H : HeapOK M η w O nx) {j : Nat} {st st' : LpS} {li : LpI} {fr0 : Fr} (hj : lkp j O = some (.lp st li fr0)) {e : Ent} (he : η[j]? = some (some e)) :
   ∃ r, w.heap[e.g]? = some (.loop r) ∧ r.state = st.state ∧ r.pending = st.jump ∧ ∀ r' : Loop, r'.state = st'.state → r'.pending = st'.jump → r'.params = r.params → r'.assign = r.assign → r'.body = r.body → r'.tmps = r.tmps → HeapOK M η (w.putObj e.g (.loop r')) (setK j (.lp st' li fr0) O) nx := by
 have hs := (H.own.1 j _ hj).1
 simp only [HpSat] at hs
 obtain ⟨e', r, h1, h2, h3, h4, h5, h6, h7, h8, h9, h10⟩ := hs
 have h1' : η[j]? = some (some e') := h1
 rw [he] at h1'
 injection h1' with h1'
 injection h1' with h1'
 subst h1'
 have hlt := (Array.getElem?_eq_some_iff.1 h3).1
 refine ⟨r, h3, h4, h5, fun r' q1 q2 q3 q4 q5 q6 => ?_⟩
 refine H.upd hj he (fun k hk => World.putObj_heap_other hk) World.putObj_size rfl rfl rfl ?_
 simp only [HpSat]
 exact ⟨e, r', h1, h2, World.putObj_heap_same hlt, q1, q2, by rw [q3]; exact h6, by rw [q4]; exact h7, by rw [q5]; exact h8, by rw [q6]; exact h9, by rw [q6]; exact h10⟩
theorem YIELD.of (hT : TabOK M.P M.C.T) {j : Nat} {li : LpI} {fr0 : Fr} {args : List SV} {K : SV → Hps → Nat → Prop} (hj : lkp j O = some (.lp .ready li fr0)) (hps : li.ps.all (fun p => Nat.blt p li.N) = true) (hND : Nat.ble li.N DS = true)
   (h : ∀ (η1 : Env) (l : Nat), η1.length = nx → Z96 li.ps args fr0 fun fr => run (M.at li.N (some (l, j)) η1) li.asg fr O nx (Zb0 (M.at li.N (some (l, j)) η1) j li.body K)) : YIELD M j args O nx K := by
 refine ⟨fun η w vs e H hd he => ?_⟩
 obtain ⟨r, hr, hst, hpe, _⟩ := H.record (st' := .ready) hj he
 have hs := (H.own.1 j _ hj).1
 simp only [HpSat] at hs
 obtain ⟨e', r', h1, h2, h3, h4, h5, h6, h7, h8, h9, h10⟩ := hs
 have h1' : η[j]? = some (some e') := h1
 rw [he] at h1'
 injection h1' with h1'
 injection h1' with h1'
 subst h1'
 rw [hr] at h3
 injection h3 with h3
 injection h3 with h3
 subst h3
 obtain ⟨fr, hrun, hnd, htm, hlen⟩ := Z6W (h η e.g H.len) hd h10 (fun p hp => by rw [h9]; simpa [Nat.blt_eq] using List.all_eq_true.1 hps p hp)
 have hpr : r.params = li.ps.toArray := by rw [← h6]
 refine ⟨r.fn, _, r.assign, r.body, run_yield hr (by rw [hpr]; simpa using hlen), ?_⟩
 rw [h7, h8]
 have hfold : ((r.params.zip ⟨vs⟩).foldl (fun tmps (x : Nat × Value) => tmps.setIfInBounds x.1 x.2) r.tmps) = JK li.ps vs r.tmps := by rw [hpr]; exact Z4U li.ps vs r.tmps
 have hfold' : ((r.params.zip ⟨vs⟩).foldl (fun tmps x => match x with | (t, a) => tmps.setIfInBounds t a) r.tmps) = JK li.ps vs r.tmps := hfold
 rw [hfold']
 generalize hMr : M.at li.N (some (e.g, j)) η = Mr at hrun
 have hTr : TabOK Mr.P Mr.C.T := by subst hMr; exact hT
 have hPr : Mr.P = M.P := by subst hMr; rfl
 have hfr : Mr.fence = Fence.wide.inRound e.g := by subst hMr; rfl
 have hm : Models Mr η fr O nx { tmps := JK li.ps vs r.tmps, defers := [] } w := by
   subst hMr
   refine ⟨H.at, by rw [Z1S]; exact h9, Nat.le_of_ble_eq_true hND, (DfOK.no hnd).2 rfl, fun l' j' hl => ?_, htm⟩
   injection hl with hl
   injection hl with hl1 hl2
   subst hl1 hl2
   exact ⟨e, he, rfl⟩
 refine roundIn_of_wpIn trivial ?_
 rw [← hPr, ← hfr]
 refine Code.wpIn_mono ?_ (Y1 hTr li.asg hrun η _ w hm)
 intro ex a1 w1 hq
 cases ex with
 | exit id => obtain ⟨η1, fr1, O1, nx1, hm1, hq⟩ := hq; exact hq.out.elim
 | ret => obtain ⟨η1, fr1, O1, nx1, hm1, hq⟩ := hq; exact hq.out.elim
 | goto l => exact hq.elim
 | panic ch => exact hq.elim
 | outgrown => exact hq.elim
 | normal =>
   obtain ⟨η1, fr1, O1, nx1, hm1, hq⟩ := hq
   simp only [Zb0] at hq
   split at hq
   case h_2 => exact hq.out.elim
   rename_i hh hj1
   split at hq
   case h_2 => exact hq.out.elim
   rename_i st1 li1 fr01
   split at hq
   case h_2 => exact hq.out.elim
   rw [XP] at hq
   obtain ⟨e1, he1, heg⟩ := hm1.ro e.g j (by subst hMr; rfl)
   obtain ⟨r1, hr1, hs1, hp1, hup1⟩ := hm1.heap.record (st' := .busy) hj1 he1
   rw [heg] at hr1 hup1
   refine ⟨_, run_beginRound hr1 hs1, ?_⟩
   have hm2 : Models Mr η1 fr1 (setK j (.lp .busy li1 fr01) O1) nx1 a1 (w1.putObj e.g (.loop { r1 with state := .busy })) := ⟨hup1 _ rfl hp1 rfl rfl rfl rfl, hm1.size, hm1.nds, hm1.defers, hm1.ro, hm1.frame⟩
   refine Code.wpIn_mono ?_ (Y1 hTr li.body hq η1 a1 _ hm2)
   have fin : ∀ {ex : Ex} {η2 : Env} {fr2 : Fr} {O2 : Hps} {nx2 : Nat} {a2 : Act} {w2 : World} (jump : Option Code), Models Mr η2 fr2 O2 nx2 a2 w2 → Z97 j K ex fr2 O2 nx2 → (match ex with | .normal => jump = none | .ret => jump = some .ret | .exit id => jump = some (.exit id)) →
       ∃ v w', (Instr.endRound e.g jump).run Mr.P w2 = .ok v w' ∧ ∃ v', Ending.returned v = .returned v' ∧ ∃ r O' nx' η', η <+: η' ∧ HeapOK M η' w' O' nx' ∧ Den η' r v' ∧ K r O' nx' := by
     intro ex η2 fr2 O2 nx2 a2 w2 jump hm2 hq hj'
     unfold Z97 at hq
     split at hq
     case h_2 => exact hq.out.elim
     rename_i hh hj2
     split at hq
     case h_2 => exact hq.out.elim
     rename_i st2 li2 fr02
     split at hq
     case h_2 => exact hq.out.elim
     obtain ⟨e2, he2, heg2⟩ := hm2.ro e.g j (by subst hMr; rfl)
     have hpre : η <+: η2 := by have := hm2.heap.pre; subst hMr; exact this
     have back : ∀ {w' : World} {O' : Hps}, HeapOK Mr η2 w' O' nx2 → HeapOK M η2 w' O' nx2 := fun h => by subst hMr; exact h.back H.pre H.sok
     cases ex with
     | normal =>
       simp only at hj'
       subst hj'
       simp only [XP] at hq
       obtain ⟨r2, hr2, hs2, hp2, hup2⟩ := hm2.heap.record (st' := .ready) hj2 he2
       rw [heg2] at hr2 hup2
       exact ⟨_, _, run_endRound none hr2, _, rfl, .bool true, _, _, η2, hpre, back (hup2 _ rfl rfl rfl rfl rfl rfl), (by simp only [Den]; rfl), hq⟩
     | ret =>
       simp only at hj'
       subst hj'
       simp only [XP] at hq
       obtain ⟨r2, hr2, hs2, hp2, hup2⟩ := hm2.heap.record (st' := .left none) hj2 he2
       rw [heg2] at hr2 hup2
       exact ⟨_, _, run_endRound (some .ret) hr2, _, rfl, .bool false, _, _, η2, hpre, back (hup2 _ rfl rfl rfl rfl rfl rfl), (by simp only [Den]; rfl), hq⟩
     | exit id =>
       simp only at hj'
       subst hj'
       simp only [XP] at hq
       obtain ⟨r2, hr2, hs2, hp2, hup2⟩ := hm2.heap.record (st' := .left (some id)) hj2 he2
       rw [heg2] at hr2 hup2
       exact ⟨_, _, run_endRound (some (.exit id)) hr2, _, rfl, .bool false, _, _, η2, hpre, back (hup2 _ rfl rfl rfl rfl rfl rfl), (by simp only [Den]; rfl), hq⟩
   intro ex a2 w2 hq2
   cases ex with
   | normal => obtain ⟨η2, fr2, O2, nx2, hm2, hq2⟩ := hq2; exact fin none hm2 hq2 rfl
   | ret => obtain ⟨η2, fr2, O2, nx2, hm2, hq2⟩ := hq2; exact fin (some .ret) hm2 hq2 rfl
   | exit id => obtain ⟨η2, fr2, O2, nx2, hm2, hq2⟩ := hq2; exact fin (some (.exit id)) hm2 hq2 rfl
   | goto l => exact hq2.elim
   | panic ch => exact hq2.elim
   | outgrown => exact hq2.elim
theorem Z62 {K : Fr → Prop} : ∀ {fr : Fr}, noDS fr K → ∃ fr0, K fr0 ∧ lkp DS fr0 = none ∧ ∀ t v, lkp t fr0 = some v → lkp t fr = some v
 | [], h => ⟨[], h, rfl, fun t v h => h⟩
 | (d, u) :: r, h => by
   unfold noDS at h
   split at h
   · rename_i e
     have e := Zy e
     obtain ⟨fr0, h1, h0, h2⟩ := Z62 h
     refine ⟨fr0, h1, h0, fun t v ht => ?_⟩
     rw [Zk]
     split
     · rename_i e2
       rw [e2, e, h0] at ht; cases ht
     · exact h2 t v ht
   · rename_i e
     have e := XQ e
     obtain ⟨fr0, h1, h0, h2⟩ := Z62 h
     refine ⟨(d, u) :: fr0, h1, by rw [Zk, if_neg (Ne.symm e)]; exact h0, fun t v ht => ?_⟩
     rw [Zk] at ht ⊢
     split
     · rename_i e; rw [if_pos e] at ht; exact ht
     · rename_i e; rw [if_neg e] at ht; exact h2 t v ht
theorem Z7C (hT : TabOK M.P M.C.T) {gf g : FuncId} {fn : Func} {c : Code} {cap : List SV} (hcall : ∀ args w, (callFunc gf args).run M.P w = .ok (.enter g args) w) (hf : M.P.funcs[g]? = some fn) (hb : fn.body = some c) (N : Nat) (hN : fn.ntmps = N) (hND : N ≤ DS) (hlen : cap.length + 1 ≤ N) (hres : fn.results = #[])
   {f : Operand} {Q : Post} {a a' : Act} {η1 : Env} {w1 : World} {O1 : Hps} {n1 j l : Nat} (hev : ∃ vs, a.eval f = .func (.func gf) #[] ⟨vs⟩ ∧ DenL η1 cap vs) (H1 : HeapOK M η1 w1 O1 n1) (hj : η1[j]? = some (some ⟨l, 0, 0⟩)) {frK : (Fr → Prop) → Prop}
   (hfrK : ∀ {K : Fr → Prop}, frK K → ∃ fr', K fr' ∧ ∀ η' w' O' nx', η1 <+: η' → HeapOK M η' w' O' nx' → Models M η' fr' O' nx' a' w')
   (h : run (M.at N none η1) c (UN 0 (.yf (.loc j) :: cap)) O1 n1 (endI (M.at N none η1) [] (Z98 j frK Q))) :
   ∃ (d : Deferred) (w1' : World) (f' : FuncId) (args : Array Value) (w2 : World), (resolve a.eval (rangeCall f l) 0).run M.P w1 = .ok d w1' ∧ (∀ f', Target.leads M.P w1' d.target d.args = some f' → M.fence.fn f') ∧ (invoke d.target d.args).run M.P w1' = .ok (.enter f' args) w2 ∧
     (M.fence.depth.isSome = true → 1 ≤ 0) ∧ CallsIn M.fence (0 - 1) M.P f' args w2 (rangePost M.fence 0 M.P l (Z8i M Q) a') := by
 obtain ⟨vs, hv, hd⟩ := hev
 refine ⟨{ target := .fn (.func gf) ⟨vs⟩, args := #[.func (.yield l) #[] #[]] }, w1, g, #[.func (.yield l) #[] #[]] ++ ⟨vs⟩, w1, ?_, fun f' _ => M.all f', ?_, (fun h => by cases h), ?_⟩
 · simp only [resolve, hv]
   simp [go_sem]
 · simp [invoke, go_sem, hcall]
 · have hargs : (#[.func (.yield l) #[] #[]] ++ (⟨vs⟩ : Array Value)) = ⟨Value.func (.yield l) #[] #[] :: vs⟩ := by apply Array.ext'; simp
   rw [hargs]
   have hd1 : DenL η1 (.yf (.loc j) :: cap) (Value.func (.yield l) #[] #[] :: vs) := by
     simp only [DenL, Den]
     exact ⟨_, _, rfl, ⟨_, hj, rfl⟩, hd⟩
   refine callsIn_wide.2 (Z4T hT hf hb N hN hND (by simpa using hlen) (by simpa using hres) H1 hd1 h fun v r w' O' nx' η' hp H' hd' hk => ?_)
   unfold Z98 at hk
   split at hk
   case h_2 => exact hk.out.elim
   rename_i hh hj'
   split at hk
   case h_2 => exact hk.out.elim
   rename_i st li fr0
   have hje : η'[j]? = some (some ⟨l, 0, 0⟩) := Env.get_mono (b := .loc j) hp hj
   obtain ⟨r1, hr1, hs1, hp1, _⟩ := H'.record (st' := .ready) hj' hje
   obtain ⟨s1, p1, c1, c2, c3, c4, c5, c6⟩ := r1
   simp only at hr1 hs1 hp1
   subst hs1 hp1
   have hdrop : HeapOK M η' (w'.putObj l (.loop { state := .exhausted, pending := st.jump, fn := c1, tmps := c2, params := c3, assign := c4, body := c5, defers := c6 })) (delK j O') nx' := H'.drop hj' hje (fun k hk => World.putObj_heap_other (by rintro rfl; exact hk (feet.own (b := .loc j) hje))) World.putObj_size rfl rfl rfl (Nat.le_refl _)
   split at hk
   · rw [Xh] at hk
     obtain ⟨fr', h1, h2⟩ := hfrK hk
     exact ⟨_, _, run_endLoop hr1 (by simp [LpS.state]), ⟨η', fr', _, nx', h2 η' _ _ _ hp hdrop, h1⟩⟩
   · exact hk.out.elim
   · split at hk
     · rw [Xh] at hk
       obtain ⟨fr', h1, h2⟩ := hfrK hk
       exact ⟨_, _, run_endLoop hr1 (by simp [LpS.state]), wpIn_ret ⟨η', fr', _, nx', h2 η' _ _ _ hp hdrop, h1⟩⟩
     · rw [Xh] at hk
       obtain ⟨fr', h1, h2⟩ := hfrK hk
       exact ⟨_, _, run_endLoop hr1 (by simp [LpS.state]), wpIn_exit ⟨η', fr', _, nx', h2 η' _ _ _ hp hdrop, h1⟩⟩
theorem Zag {fr : Fr} {d : Nat} {K : Fr → Prop} (h : Zaf fr d K) : ∃ l, K ((DS, .dfs (.ptr (.loc d) 0 0 0 :: l)) :: fr) ∧ ∀ {η : Env} {ds : List Deferred}, DfOK η ds (lkp DS fr) → DfL η l ds := by
 unfold Zaf at h
 split at h
 · rename_i v hv
   split at h
   · rename_i l
     exact ⟨l, h, fun hd => by rw [hv] at hd; exact hd⟩
   · rename_i hn
     refine ⟨[], h, fun hd => ?_⟩
     rw [hv] at hd
     have : Z5Q (some v) = false := by cases v <;> first | rfl | exact (hn _ rfl).elim
     rw [DfOK.no this] at hd
     subst hd; rfl
 · rename_i hv
   refine ⟨[], h, fun hd => ?_⟩
   rw [hv] at hd
   have hd : _ = [] := hd
   subst hd; rfl
theorem RANGEF.of (hT : TabOK M.P M.C.T) {f : Operand} {ps : Array Tmp} {asg body : Code} {fr : Fr} {Q : Post} {gf g : FuncId} {cap : List SV} {fn : Func} {c : Code} (hcall : ∀ args w, (callFunc gf args).run M.P w = .ok (.enter g args) w) (hf : M.P.funcs[g]? = some fn) (hb : fn.body = some c) (N : Nat) (hN : fn.ntmps = N)
   (li : LpI) (hli : li = ⟨M.C.N, ps.toList, asg, body⟩) (hv : VC fr f = some (.fn (.func gf) [] cap)) (hlen : Nat.ble (cap.length + 1) N = true) (hres : fn.results = #[]) (hro : M.C.ro = none)
   (h : noDS fr fun fr0 => ∀ η1 : Env, η1.length = nx + 2 → run (M.at N none η1) c (UN 0 (.yf (.loc (nx + 1)) :: cap)) ((nx + 1, .lp .ready li fr0) :: (nx, .dfr []) :: O) (nx + 2) (endI (M.at N none η1) [] (Z98 (nx + 1) (Zaf fr nx) Q))) (hND : Nat.ble N DS = true := by rfl) : RANGEF M f ps asg body fr O nx Q := by
 obtain ⟨fr0, h, _, hfr0⟩ := Z62 h
 refine ⟨fun η a w hm => wpIn_rangeFunc fun fnid _ => ?_⟩
 have hround : M.fence.round = none := by simp [Mx.fence, hro]
 rw [hround]
 obtain ⟨rec, hrec⟩ : ∃ rec : Loop, rec = { state := .ready, pending := none, fn := fnid, tmps := a.tmps, params := ps, assign := asg, body, defers := w.heap.size } := ⟨_, rfl⟩
 have hl := hm.heap.len
 obtain ⟨η1, hη1⟩ : ∃ η1 : Env, η1 = η ++ [some ⟨w.heap.size, 0, 0⟩] := ⟨_, rfl⟩
 have H1 : HeapOK M η1 (w.alloc (.deferred (some []))) ((nx, .dfr []) :: O) (nx + 1) := by
   rw [hη1]
   refine hm.heap.alloc (w' := w.alloc (.deferred (some []))) (o := .deferred (some [])) (h := .dfr []) rfl rfl rfl rfl 0 0 ?_
   simp only [HpSat]
   exact ⟨⟨w.heap.size, 0, 0⟩, by simp [Env.get, ← hl], rfl, World.alloc_heap_new w _, (fun n hn => nomatch hn), by simp⟩
 have hl1 := H1.len
 obtain ⟨η2, hη2⟩ : ∃ η2 : Env, η2 = η1 ++ [some ⟨w.heap.size + 1, 0, 0⟩] := ⟨_, rfl⟩
 have hsz : (w.alloc (.deferred (some []))).heap.size = w.heap.size + 1 := World.size_alloc _ _
 have hpre : η <+: η2 := by rw [hη2, hη1, List.append_assoc]; exact List.prefix_append _ _
 have hj2 : η2[nx + 1]? = some (some ⟨w.heap.size + 1, 0, 0⟩) := by rw [hη2, ← hl1]; simp
 have hd2 : η2[nx]? = some (some ⟨w.heap.size, 0, 0⟩) := by
   rw [hη2, List.getElem?_append_left (by omega), hη1, ← hl]; simp
 have H2 : HeapOK M η2 ((w.alloc (.deferred (some []))).alloc (.loop rec)) ((nx + 1, .lp .ready li fr0) :: (nx, .dfr []) :: O) (nx + 2) := by
   have := H1.alloc (w' := (w.alloc (.deferred (some []))).alloc (.loop rec)) (o := .loop rec) (h := .lp .ready li fr0) rfl rfl rfl rfl 0 0 (by
     rw [hsz, ← hη2]
     simp only [HpSat]
     refine ⟨_, rec, hj2, rfl, by rw [← hsz]; exact World.alloc_heap_new _ _, ?_⟩
     subst hrec hli
     exact ⟨rfl, rfl, rfl, rfl, rfl, hm.size, fun t sv ht => (hm.frame t sv (hfr0 t sv ht)).mono hpre⟩)
   rw [hsz, ← hη2] at this
   exact this
 have hev : ∃ vs, a.eval f = .func (.func gf) #[] ⟨vs⟩ ∧ DenL η2 cap vs := by
   have := Yf hm.frame hv
   simp only [Den, DenL] at this
   obtain ⟨us, vs, h1, rfl, h3⟩ := this
   exact ⟨vs, h1, h3.mono hpre⟩
 obtain ⟨d, w1', f', args, w2, q1, q2, q3, q4, q5⟩ := Z7C (a' := { a with defers := [{ target := .collected w.heap.size, args := #[] }] ++ a.defers }) hT hcall hf hb N hN (Nat.le_of_ble_eq_true hND) (Nat.le_of_ble_eq_true hlen) hres hev H2 hj2 (frK := Zaf fr nx) (fun {K} hk => by
   obtain ⟨l, h1, h2⟩ := Zag hk
   refine ⟨_, h1, fun η' w' O' nx' hp H' => ⟨H', hm.size, hm.nds, ?_, UM (hpre.trans hp) hm.ro, fun t sv ht => ?_⟩⟩
   · rw [Zk, if_pos rfl]
     exact ⟨⟨w.heap.size, 0, 0⟩, a.defers, Env.get_mono (b := .loc nx) hp hd2, rfl, h2 (hm.defers.mono (hpre.trans hp))⟩
   · rw [Zk] at ht
     split at ht
     · injection ht with ht; subst ht; simp only [Den]
     · exact (hm.frame t sv ht).mono (hpre.trans hp)) (h η2 H2.len)
 refine ⟨w.heap.size + 1, [{ target := .collected w.heap.size, args := #[] }], _, d, w1', f', args, w2, run_enterLoop_outer _ _ _ _ _, ?_, q2, q3, q4, q5⟩
 rw [hrec] at q1
 exact q1
end
theorem FIN.weak {M : Mx} {O O1 : Hps} {nx n1 : Nat} {r r1 : SV} {Q : SV → Hps → Nat → Prop} (h : ∀ η w v, HeapOK M η w O nx → Den η r v → ∃ η', η <+: η' ∧ HeapOK M η' w O1 n1 ∧ Den η' r1 v) (hf : FIN M O1 n1 r1 Q) : FIN M O nx r Q :=
 ⟨fun η w v H hd => let ⟨η1, h1, h2, h3⟩ := h η w v H hd; hf.out η1 w v h2 h3⟩
theorem FIN.nil {M : Mx} {O : Hps} {nx : Nat} {Q : SV → Hps → Nat → Prop} (es : Nat) (hf : FIN M ((nx, .rows es []) :: O) (nx + 1) (.sl (.loc nx) 0 es 0 none) Q) : FIN M O nx (.val (.slice none 0 0)) Q := by
 refine FIN.weak (fun η w v H hd => ?_) hf
 have hnew : (η ++ [none])[nx]? = some none := by rw [List.getElem?_append_right (by rw [H.len]; omega), H.len]; simp
 refine ⟨η ++ [none], List.prefix_append _ _, H.push none (fun _ _ => rfl) (Nat.le_refl _) rfl rfl rfl (Nat.le_refl _) (.inl ⟨hnew, rfl⟩) (fun k f => (feet.none (b := .loc nx) hnew f).elim) (fun k f => (feet.none (b := .loc nx) hnew f).elim), ?_⟩
 simp only [Den] at hd ⊢
 exact .inl ⟨hnew, hd.1, trivial⟩
theorem FIN.nilCell {M : Mx} {O : Hps} {nx : Nat} {r : SV} {Q : SV → Hps → Nat → Prop} (i j es : Nat) {row row' : List SV} (hi : lkp i O = some (.box row)) (hr : Z1P nx es j row = some row') (hf : FIN M ((nx, .rows es []) :: setK i (.box row') O) (nx + 1) r Q) : FIN M O nx r Q :=
 FIN.weak (fun η w v H hd => let ⟨η', h1, h2⟩ := H.nilCell hi hr; ⟨η', h1, h2, Den.mono h1 hd⟩) hf
end Go.Sx
namespace Go.Sx
open Go Go.Sort Go.Shelf Go.Proofs Go.Our
def Zo (s : List UInt8) : List SV := [.str s]
theorem Zq (l : List (List UInt8)) : Zs (l.map Zo) = true := ZX _ (fun _ => rfl) l
instance : PlF Zo := ⟨fun _ => rfl⟩
theorem leS (x y : List UInt8) : decide (x ≤ y) = leC cmpL x y := by
 show decide (x ≤ y) = !decide (Lib.compareBytes y x < 0)
 rw [← VO, Go.Proofs.bytesLess_eq]
 rw [Bool.eq_iff_iff]
 simp [List.not_lt]
theorem Vu (w : World) (blk m : Nat) (d : Array (List UInt8)) (os : Array Obj) : (grow (putRow encStr (Sort.ahead w m) blk 0 d) os).heap = (mapBlock w blk (putCells encStr 0 d)).heap ++ os := by simp [grow, putRow, mapBlock, Sort.ahead]
theorem Z3M (w : World) (blk m : Nat) (d : Array (List UInt8)) (os : Array Obj) : w.heap.size ≤ (grow (putRow encStr (Sort.ahead w m) blk 0 d) os).heap.size := by
 rw [Vu]; simp [mapBlock]
theorem Z2r (w : World) (blk m : Nat) (d : Array (List UInt8)) (os : Array Obj) {g : Nat} (hg : g < w.heap.size) (hne : g ≠ blk) : (grow (putRow encStr (Sort.ahead w m) blk 0 d) os).heap[g]? = w.heap[g]? := by
 rw [Vu, Array.getElem?_append_left (by simpa [mapBlock] using hg)]
 simp only [mapBlock, Array.getElem?_modify]
 rw [if_neg (fun h => hne h.symm)]
theorem Z4Y (w : World) (blk m : Nat) (d : Array (List UInt8)) (os : Array Obj) {c : Array Value} {T : TypeId} {fz : Nat × Nat} (h : w.heap[blk]? = some (.cells c T fz)) : (grow (putRow encStr (Sort.ahead w m) blk 0 d) os).heap[blk]? = some (.cells (putCells encStr 0 d c) T fz) := by
 have hlt := (Array.getElem?_eq_some_iff.1 h).1
 rw [Vu, Array.getElem?_append_left (by simpa [mapBlock] using hlt)]
 simp only [mapBlock, Array.getElem?_modify, if_true, h, Option.map_eq_map, Option.map_some, onCells]
theorem Z4Z {P : Program} {T : Tab} {ρ : Ren} (L : Lays.n190 P ρ) (ef : ∀ args w, (callFunc (ρ.f 190) args).run P w = .ok (.enter (ρ.f 190) args) w) (l : List (List UInt8)) (hl : l.length < 4611686018427387904) :
   Does P T (ρ.f 190) 1 [.sl (.loc 0) 0 1 l.length none] [(0, .rows 1 (l.map Zo))] [] (fun r O nx => r = .tup [] ∧ O = [(0, .rows 1 ((l.mergeSort (leC cmpL)).map Zo))] ∧ nx = 1) := by
 refine ⟨fun M vs hP hT' hF hS H hd => .inl ⟨ρ.f 190, by rw [hP]; exact ef _ _, ?_⟩⟩
 obtain ⟨P', ⟨T', N', S', ro'⟩, w0, F, η0⟩ := M
 simp only at hP hT' hF hS H hd ⊢
 subst hP hT'
 simp only [DenL] at hd
 obtain ⟨v, us, rfl, hv, rfl⟩ := hd
 have hsat := (H.own.1 0 _ rfl).1
 simp only [HpSat, Env.get] at hsat
 simp only [Den, Env.get] at hv
 have fin : ∀ w' (O' : Hps), FrW w0 w' F → HpSat η0 w' true (.loc 0) (.rows 1 ((l.mergeSort (leC cmpL)).map Zo)) →
     ∃ r O' nx' η', (r = SV.tup [] ∧ O' = [(0, Hp.rows 1 ((l.mergeSort (leC cmpL)).map Zo))] ∧ nx' = 1) ∧ η0 <+: η' ∧ HeapOK ⟨P', ⟨T', N', S', ro'⟩, w0, F, η0⟩ η' w' O' nx' ∧ Den η' r (.tuple #[]) := by
   intro w' O' hfr hs
   refine ⟨_, _, _, η0, ⟨rfl, rfl, rfl⟩, List.prefix_rfl, ⟨H.pre, H.len, ⟨fun i h hi => ?_, fun i j h h' k hi hj hij f f' => ?_⟩, hfr, H.sok⟩, ?_⟩
   · rw [Zk] at hi
     split at hi
     · rename_i e; subst e
       injection hi with hi; subst hi
       refine ⟨hs, fun n f => (H.own.1 0 _ rfl).2 n ?_⟩
       obtain ⟨e, h1, h2⟩ := f
       exact ⟨e, h1, h2⟩
     · simp [lkp] at hi
   · rw [Zk] at hi hj
     split at hi
     · rename_i e; subst e
       split at hj
       · rename_i e2; exact (hij e2.symm).elim
       · simp [lkp] at hj
     · simp [lkp] at hi
   · simp only [Den, DenL]; exact ⟨[], rfl, rfl⟩
 rcases hsat with ⟨hn, hnil⟩ | ⟨e, arr, Tt, fz, he, hheap, hown, hcells⟩
 · have hl0 : l = [] := by simpa using hnil
   subst hl0
   have hv2 : v = .slice none 0 0 := by
     rcases hv with ⟨_, h, _⟩ | ⟨e, o, h, _⟩
     · exact h
     · rw [hn] at h; cases h
   subst hv2
   refine (Any.slices_Sort_string_none L none 0 w0).mono ?_
   rintro e w' ⟨rfl, rfl⟩
   refine ⟨_, rfl, fin _ [] (FrW.refl _ _) ?_⟩
   simp only [HpSat, Env.get]
   exact .inl ⟨hn, by simp⟩
 · obtain ⟨hun, hsz, hle, hb0⟩ := hown trivial
   obtain ⟨hel, hvv⟩ : l.length ≤ e.cap ∧ v = .slice (some ⟨e.g, 0, none⟩) l.length e.cap := by
     rcases hv with ⟨h, _⟩ | ⟨e', o, h, h2, h3, h4, h5⟩
     · rw [he] at h; cases h
     · rw [he] at h; cases h
       simp only [Option.getD_none, Nat.zero_add, Nat.sub_zero] at h2 h3
       have := h5 (.inr trivial)
       rw [hb0] at this
       simp only [Nat.zero_mul, Nat.add_zero] at this
       subst this
       exact ⟨h3, h2⟩
   subst hvv
   have hblk : e.g < w0.heap.size := (Array.getElem?_eq_some_iff.1 hheap).1
   have hsize : l.length ≤ arr.size := by rw [hsz]; omega
   have hcell : ∀ (i : Nat) (x : List UInt8), l[i]? = some x → arr[i]? = some (encStr x) := by
     intro i x hi
     obtain ⟨h1, h2⟩ := hcells i (Zo x) (by rw [List.getElem?_map, hi]; rfl)
     obtain ⟨u, h3, h4, h5⟩ := h2 0 (.str x) rfl
     rw [hb0, Nat.zero_add, Nat.mul_one, Nat.add_zero] at h3
     simp only [Den] at h5
     rw [h3, h5]; try rfl
   have hH : Holds encStr w0 e.g 0 l.toArray := by
     intro t ht
     rw [List.size_toArray] at ht
     have h4 := hcell t l[t] (List.getElem?_eq_getElem ht)
     refine ⟨by rw [Nat.zero_add, Z95 hheap, h4]; simp [ht], ?_⟩
     have := hun t (by omega)
     simp only [World.frozen?, hheap, Nat.zero_add]
     simpa using this
   have hFg : F e.g := by
     rcases (H.own.1 0 _ rfl).2 e.g ⟨e, he, .inl rfl⟩ with h | h
     · exact h
     · have h : w0.heap.size ≤ e.g := h
       omega
   have hmain := Any.slices_Sort_string L e.g 0 e.cap l w0 hH hblk hl
   rw [show (fun x y : List UInt8 => decide (x ≤ y)) = leC cmpL from funext fun x => funext fun y => leS x y] at hmain
   refine hmain.mono ?_
   rintro e1 w' ⟨rfl, n, os, rfl⟩
   refine ⟨_, rfl, fin _ [] ?_ ?_⟩
   · refine ⟨rfl, rfl, rfl, ?_, Z3M .., fun b hb hnF => Z2r w0 e.g n _ os hb (fun e => hnF (e ▸ hFg))⟩
     simp [grow, putRow, mapBlock, Sort.ahead]
   · simp only [HpSat, Env.get]
     have hsl : (l.mergeSort (leC cmpL)).length = l.length := List.length_mergeSort l
     refine .inr ⟨e, _, Tt, fz, he, Z4Y w0 e.g n _ os hheap, fun _ => ⟨?_, ?_, ?_, hb0⟩, fun i rw1 hi => ?_⟩
     · simp only [putCells, Array.size_mapIdx]; exact hun
     · simp only [putCells, Array.size_mapIdx]; exact hsz
     · rw [List.length_map, hsl]; exact hel
     · rw [List.getElem?_map] at hi
       obtain ⟨x, hx, rfl⟩ := Option.map_eq_some_iff.1 hi
       refine ⟨rfl, fun j sv hj => ?_⟩
       have hil := (List.getElem?_eq_some_iff.1 hx).1
       match j, hj with
       | 0, hj =>
         injection hj with hj; subst hj
         refine ⟨encStr x, ?_, rfl, by simp only [Den]; try rfl⟩
         have hlt : i < arr.size := by omega
         rw [hb0, Nat.zero_add, Nat.mul_one, Nat.add_zero]
         have hxe := (List.getElem?_eq_some_iff.1 hx).2
         have hil' : i < l.length := by omega
         simp only [putCells, Array.getElem?_mapIdx, Array.getElem?_eq_getElem hlt, Option.map_some, Nat.zero_le, true_and, Nat.zero_add, List.size_toArray, hsl, hil', if_true, Nat.sub_zero]
         rw [Array.getElem!_eq_getD, Array.getD_eq_getD_getElem?]
         simp [hx]
end Go.Sx
namespace Go.Our
section
variable {α : Type} {c : α → α → Int}
end
end Go.Our
namespace Go.Sx
open Go
def Z52 : List Nat → Hps → (Hps → Prop) → Prop
 | [], _, K => K []
 | i :: is, O, K => match lkp i O with
   | some h => Z52 is O fun r => K ((i, h) :: r)
   | none => Z52 is O K
def Z7K : Hps → Hps → (Hps → Prop) → Prop
 | [], r, K => K r
 | (i, h) :: l, r, K => Z7K l r fun r => K ((i, h) :: r)
theorem WI : ∀ {ts : List Nat} {O : Hps} {K : Hps → Prop}, Z52 ts O K → ∃ r, K r
 | [], O, K, h => ⟨_, h⟩
 | t :: ts, O, K, h => by
   simp only [Z52] at h
   split at h
   · obtain ⟨r, hr⟩ := WI h; exact ⟨_, hr⟩
   · exact WI h
theorem Z53 : ∀ {l r : Hps} {K : Hps → Prop}, Z7K l r K ↔ K (l ++ r)
 | [], r, K => Iff.rfl
 | (t, v) :: l, r, K => by simp only [Z7K, List.cons_append, Z53]
theorem Zj {m es : Nat} {rs : List (List SV)} (h : Zs rs = true) : Z4 m (.rows es rs) = true := by simp only [Z4, Z0 _ h]
theorem Zf {m es : Nat} {σ : Nat → Nat} {rs : List (List SV)} (h : Zs rs = true) : Z4 m (renH σ (.rows es rs)) = true := by rw [Zh _ (h := .rows es rs) h]; exact Zj h
section
variable {M : Mx} {fr : Fr} {O : Hps} {nx : Nat}
theorem LOOP.gok {body : Code} {Q : Post} (hT : TabOK M.P M.C.T) (ks ko : List Nat) {X : Type} (P : X → Prop) (chg : X → Fr) (Ox : X → Hps) (n0 : Nat) (μ : X → Nat) (x0 : X) (hP : P x0)
   (h : Z7w ks fr fun fr0 => Z52 ko O fun O0 => (appK (chg x0) fr0 fun fr' => Z7K (Ox x0) O0 fun O' => GOES M fr O nx fr' O' n0) ∧
     ∀ x, P x → appK (chg x) fr0 fun fr1 => Z7K (Ox x) O0 fun O1 => run M body fr1 O1 n0 fun e fr O nx => match e with
       | .normal => ∃ x', P x' ∧ μ x' < μ x ∧ appK (chg x') fr0 fun fr' => Z7K (Ox x') O0 fun O' => GOES M fr O nx fr' O' n0
       | e => Q e fr O nx) : LOOP M body fr O nx Q := by
 obtain ⟨fr0, h⟩ := Z1J h
 obtain ⟨O0, h1, h2⟩ := WI h
 simp only [Z3G, Z53] at h1 h2
 exact LOOP.inv hT P (fun x => (chg x ++ fr0, Ox x ++ O0, n0)) μ x0 hP h1 h2
theorem LOOP.nilCell {body : Code} {Q : Post} (i j es : Nat) {row row' : List SV} (hi : lkp i O = some (.box row)) (hr : Z1P nx es j row = some row') (k : LOOP M body fr ((nx, .rows es []) :: setK i (.box row') O) (nx + 1) Q) : LOOP M body fr O nx Q :=
 LOOP.goes ⟨fun η a w hm => let ⟨η', hp, H⟩ := hm.heap.nilCell hi hr; ⟨η', H, hm.size, hm.nds, hm.defers.mono hp, UM hp hm.ro, fun t v ht => (hm.frame t v ht).mono hp⟩⟩ k
end
end Go.Sx
namespace Go.Our
open Go.Sx
def Zu : List UInt8 → List (List UInt8)
 | [] => [[]]
 | c :: t => if c = 45 then [] :: Zu t else match Zu t with
   | h :: r => (c :: h) :: r
   | [] => [[c]]
theorem Z0Q : ∀ s, Zu s ≠ []
 | [] => by simp [Zu]
 | c :: t => by
   unfold Zu
   split
   · simp
   · split <;> simp
theorem XI : ∀ s : List UInt8, (Zu s).length = s.count 45 + 1
 | [] => rfl
 | c :: t => by
   have ih := XI t
   unfold Zu
   split
   · rename_i h; subst h; simp [ih]
   · rename_i h
     split
     · rename_i h' r e
       rw [e] at ih
       simp at ih ⊢
       rw [List.count_cons_of_ne (by simpa using h)]; omega
     · rename_i e; exact (Z0Q t e).elim
theorem Z3b : ∀ {s : List UInt8}, Lib.indexByte s 45 = -1 → Zu s = [s]
 | [], _ => rfl
 | c :: t, h => by
   unfold Lib.indexByte at h
   by_cases hc : c = 45
   · subst hc; simp at h
   · have hge := Lib.indexByte_ge t 45
     have : Lib.indexByte t 45 = -1 := by
       simp [hc] at h
       apply Classical.byContradiction
       intro hn
       have := h hn
       omega
     unfold Zu
     rw [if_neg hc, Z3b this]
theorem Z3c : ∀ {s : List UInt8} {m : Nat}, Lib.indexByte s 45 = m → m < s.length ∧ Zu s = s.take m :: Zu (s.drop (m + 1))
 | [], m, h => by unfold Lib.indexByte at h; omega
 | c :: t, m, h => by
   unfold Lib.indexByte at h
   by_cases hc : c = 45
   · subst hc
     simp at h
     obtain rfl : m = 0 := by omega
     simp [Zu]
   · have hge := Lib.indexByte_ge t 45
     simp [hc] at h
     split at h
     · omega
     · obtain ⟨k, rfl⟩ : ∃ k, m = k + 1 := ⟨m - 1, by omega⟩
       have ih := Z3c (s := t) (m := k) (by omega)
       refine ⟨by simp; omega, ?_⟩
       conv => lhs; unfold Zu
       rw [if_neg hc, ih.2]
       simp only [List.take_succ_cons, List.drop_succ_cons]
theorem Wn (s : List UInt8) : (Zu s).length ≤ s.length + 1 := by
 rw [XI]; have := List.count_le_length (a := (45 : UInt8)) (l := s); omega
def Zb (s : List UInt8) : List SV := [.str s]
theorem Z1 (l : List (List UInt8)) : Zs (l.map Zb) = true := ZX _ (fun _ => rfl) l
instance : PlF Zb := ⟨fun _ => rfl⟩
def Z22 (d : List (List UInt8)) (k : Nat) : List (List SV) := d.map Zb ++ List.replicate k (Zb [])
theorem Z5d (d : List (List UInt8)) (k : Nat) : Zs (Z22 d k) = true := by
 unfold Z22
 refine JV (Z1 d) ?_
 induction k with
 | zero => rfl
 | succ k ih => rw [List.replicate_succ]; simp only [Zs, ih]; rfl
theorem Z74 {d : List (List UInt8)} {k i : Nat} (h : i = d.length) (hk : 0 < k) : (Z22 d k)[i]? = some (Zb []) := by
 subst h
 unfold Z22
 rw [List.getElem?_append_right (by simp)]
 simp [List.getElem?_replicate, hk]
theorem Z75 {d : List (List UInt8)} {k i : Nat} {p : List UInt8} (h : i = d.length) (hk : 0 < k) : (Z22 d k).set i [.str p] = Z22 (d ++ [p]) (k - 1) := by
 subst h
 obtain ⟨j, rfl⟩ : ∃ j, k = j + 1 := ⟨k - 1, by omega⟩
 unfold Z22
 rw [List.set_append_right _ _ (by simp)]
 simp [List.replicate_succ, Zb]
def YX (s : List UInt8) : Bool := ZE s 1 1 false && !ZS s
def ZK (p : List UInt8 → Bool) : List (List UInt8) → Nat
 | [] => 0
 | s :: l => if p s = true then ZK p l + 1 else 0
theorem JZ (p : List UInt8 → Bool) : ∀ l, ZK p l ≤ l.length
 | [] => by simp [ZK]
 | s :: l => by
   have := JZ p l
   unfold ZK; split <;> simp <;> omega
abbrev Yl (least : Int) : List UInt8 → Bool := fun s => ZE s least 8 false
def extP : Nat → List (List UInt8) → List (List UInt8)
 | 0, l => l
 | _ + 1, [] => []
 | n + 1, s :: l => if ZE s 3 3 true = true then extP n l else s :: l
def J4 : List (List UInt8) → Option (List (List UInt8))
 | [] => none
 | s :: l => if ZE s 2 8 true = true then (if 3 < s.length then some l else some (extP 3 l)) else none
def Xw (p : List UInt8 → Bool) : List (List UInt8) → List (List UInt8)
 | [] => []
 | s :: l => if p s = true then l else s :: l
def Yp (seen : List (List UInt8)) : List (List UInt8) → Option (List (List UInt8) × List (List UInt8))
 | [] => some ([], seen)
 | s :: l => if XM s = true then (if Zd s ∈ seen then none else Yp (seen ++ [Zd s]) l) else some (s :: l, seen)
def ZT (seen : List (List UInt8)) : List (List UInt8) → Option (List (List UInt8))
 | [] => some []
 | s :: l => if YX s = true then
       (if ZK (Yl 2) l = 0 ∨ Zd s ∈ seen then none else ZT (seen ++ [Zd s]) (l.drop (ZK (Yl 2) l)))
     else some (s :: l)
termination_by l => l.length
decreasing_by simp; omega
def YY (l : List (List UInt8)) : Option (List (List UInt8)) :=
 match Yp [] (Xw YO (Xw (fun s => ZE s 4 4 true) l)) with
 | none => none
 | some (l, seen) => ZT seen l
def Z3d (p : List UInt8 → Bool) : List (List UInt8) → Bool
 | [] => false
 | s :: _ => p s
def V0 : List (List UInt8) → Bool
 | [] => true
 | s :: l => if ZS s = true then decide (ZK (Yl 1) l ≠ 0 ∧ ZK (Yl 1) l = l.length) else false
def tagP (l : List (List UInt8)) : Bool :=
 if Z3d ZS l = true then V0 l else
 match J4 l with
 | none => false
 | some l => match YY l with
   | none => false
   | some l => V0 l
theorem WM : ∀ s : List UInt8, ((Zu s).map List.length).sum + (Zu s).length = s.length + 1
 | [] => rfl
 | c :: t => by
   have ih := WM t
   have hne := Z0Q t
   unfold Zu
   split
   · simp only [List.map_cons, List.sum_cons, List.length_cons, List.length_nil]; omega
   · split
     · rename_i h r e
       rw [e] at ih
       simp only [List.map_cons, List.sum_cons, List.length_cons] at ih ⊢; omega
     · rename_i e; exact (hne e).elim
theorem Z5e : ∀ (u : List UInt8) (n : Nat), (∀ c ∈ u.take n, c ≠ 45) → u[n]? = some 45 → Zu u = u.take n :: Zu (u.drop (n + 1))
 | [], n, _, h => by simp at h
 | c :: t, 0, _, h => by
   have h : c = 45 := by simpa using h
   subst h
   conv => lhs; unfold Zu
   rw [if_pos rfl]; rfl
 | c :: t, n + 1, h, h2 => by
   have hc : c ≠ 45 := h c (by simp)
   have ih := Z5e t n (fun d hd => h d (by simp [hd])) (by simpa using h2)
   conv => lhs; unfold Zu
   rw [if_neg hc, ih]; rfl
theorem Z5f : ∀ (u : List UInt8), (∀ c ∈ u, c ≠ 45) → Zu u = [u]
 | [], _ => rfl
 | c :: t, h => by
   have hc : c ≠ 45 := h c (by simp)
   have ih := Z5f t (fun d hd => h d (by simp [hd]))
   unfold Zu
   rw [if_neg hc, ih]
theorem Z7P : Ju true = Jt := by funext c; simp [Ju]
def WN (least most : Int) (digits : Bool) (s : List UInt8) : Bool := decide (least ≤ s.length ∧ (s.length : Int) ≤ most) && (if digits = true then allB Xb s 0 else allB Jt s 0)
theorem Xt (least most : Int) (s : List UInt8) : WN least most false s = ZE s least most true := by
 unfold WN ZE; rw [Z7P, Bool.and_comm]; rfl
theorem Z7Q {s : List UInt8} (h : s.length = 3) : allB Xb s 0 = (Xb (Z9 s 0) && Xb (Z9 s 1) && Xb (Z9 s 2)) := by
 rw [J3 (by omega), J3 (by omega), J3 (by omega), Ui (by omega), Bool.and_true, Bool.and_assoc]; rfl
theorem XJ (s : List UInt8) : YO s = (WN 2 2 false s || WN 3 3 true s) := by
 unfold YO
 rw [Xt]
 congr 1
 unfold WN
 by_cases h : s.length = 3
 · rw [if_pos rfl, Z7Q h]; simp [h, Bool.and_assoc]
 · have : decide ((3 : Int) ≤ s.length ∧ (s.length : Int) ≤ 3) = false := decide_eq_false (by omega)
   rw [this]; simp [h]
theorem Z23 (s : List UInt8) : ZE s 2 8 true = (WN 2 3 false s || WN 4 8 false s) := by
 rw [Xt, Xt]; unfold ZE
 cases allB (Ju true) s 0
 · simp
 · simp only [Bool.true_and]
   rw [Bool.eq_iff_iff]; simp; omega
theorem YA (s : List UInt8) : ZS s = (Zd s == [120]) := by
 unfold ZS Zd
 rcases s with _ | ⟨a, _ | ⟨b, t⟩⟩
 · rfl
 · rw [Bool.eq_iff_iff]
   simp only [Bool.or_eq_true, beq_iff_eq, List.map_cons, List.map_nil, List.cons.injEq, and_true]
   unfold lowB
   constructor
   · rintro (rfl | rfl) <;> rfl
   · intro h
     split at h
     · rename_i h1
       right
       have h2 := congrArg UInt8.toNat h
       rw [UInt8.toNat_ofNat_of_lt' (by show a.toNat + 32 < 256; omega)] at h2
       have : a.toNat = 88 := by simpa using h2
       exact UInt8.toNat_inj.1 (by simpa using this)
     · exact .inl h
 · simp
def Y9 : List UInt8 := [104, 116, 116, 112, 58, 47, 47, 119, 119, 119, 46, 119, 51, 46, 111, 114, 103, 47, 49, 57, 57, 57, 47, 48, 50, 47, 50, 50, 45, 114, 100, 102, 45, 115, 121, 110, 116, 97, 120, 45, 110, 115, 35, 108, 97, 110, 103, 83, 116, 114, 105, 110, 103]
def litM (t y l : List UInt8) : Int :=
 if 65536 < t.length then 2 else if 0 ≤ chk t 0 then 40 else if iriM y ≠ 0 then iriM y else
 if l ≠ [] ∧ 65536 < l.length then 2 else if l ≠ [] ∧ (¬ tagP (Zu l) = true ∨ Zd l ≠ l) then 61 else
 if (l ≠ [] ∧ ¬ y = Y9) ∨ (l = [] ∧ y = Y9) then 71 else 0
def YK (x : Tm) : Int :=
 if x.k = 1 ∨ x.k = 2 then (if x.y ≠ [] ∨ x.l ≠ [] then 70 else if x.k = 1 then iriM x.t else if 65536 < x.t.length then 2 else Z39 x.t)
 else if x.k = 3 then litM x.t x.y x.l else 70
def VV (q : Qd) : Int :=
 if ¬ (q.s.k = 1 ∨ q.s.k = 2) then 70 else if YK q.s ≠ 0 then YK q.s else
 if ¬ q.p.k = 1 then 70 else if YK q.p ≠ 0 then YK q.p else
 if YK q.o ≠ 0 then YK q.o else
 if q.g = Yb then 0 else if ¬ (q.g.k = 1 ∨ q.g.k = 2) then 70 else YK q.g
theorem Z6a {x : Tm} (h : ¬ (x.k = 1 ∨ x.k = 2 ∨ x.k = 3)) : YK x = 70 := by
 unfold YK
 rw [if_neg (by omega), if_neg (by omega)]
theorem Z7R {c : UInt8} (h : 65 ≤ c.toNat ∧ c.toNat ≤ 90) : lowB c ≠ c := by
 unfold lowB
 rw [if_pos h]
 intro he
 have := congrArg UInt8.toNat he
 rw [UInt8.toNat_ofNat_of_lt' (by show c.toNat + 32 < 256; omega)] at this
 omega
theorem Z76 {s : List UInt8} {i : Nat} (h : i < s.length) : (Zd s)[i]? = some (lowB s[i]) := by
 unfold Zd; rw [List.getElem?_map, List.getElem?_eq_getElem h]; rfl
theorem Zar {s : List UInt8} {i : Nat} (h : i < s.length) (hu : 65 ≤ Z9 s i ∧ Z9 s i ≤ 90) : Zd s ≠ s := by
 intro he
 have h1 := Z76 h
 rw [he, List.getElem?_eq_getElem h] at h1
 have hb : Z9 s i = (s[i].toNat : Int) := by unfold Z9; rw [Int.toNat_natCast, List.getD, List.getElem?_eq_getElem h]; rfl
 exact Z7R (by omega) (Option.some.inj h1).symm
theorem Z7S {s : List UInt8} (hu : ∀ i : Nat, i < s.length → ¬ (65 ≤ Z9 s i ∧ Z9 s i ≤ 90)) : Zd s = s := by
 apply List.ext_getElem?
 intro i
 by_cases h : i < s.length
 · rw [Z76 h, List.getElem?_eq_getElem h]
   have hb : Z9 s i = (s[i].toNat : Int) := by unfold Z9; rw [Int.toNat_natCast, List.getD, List.getElem?_eq_getElem h]; rfl
   have := hu i h
   rw [Z69 (by omega)]
 · rw [List.getElem?_eq_none (by unfold Zd; simp; omega), List.getElem?_eq_none (by omega)]
def badM (l : List Qd) (i : Nat) : Option (Nat × Int) := if h : i < l.length then (if VV l[i] ≠ 0 then some (i, VV l[i]) else badM l (i + 1)) else none
termination_by l.length - i
theorem Z9l {l : List Qd} {i : Nat} (h : l.length ≤ i) : badM l i = none := by unfold badM; rw [dif_neg (by omega)]
theorem Zb3 {l : List Qd} {i : Nat} (h : i < l.length) : badM l i = if VV l[i] ≠ 0 then some (i, VV l[i]) else badM l (i + 1) := by
 conv => lhs; unfold badM
 rw [dif_pos h]
def Z24 (l : List Qd) (i : Nat) : Option Nat := if h : i < l.length then (if 0 ≤ ZJ (l[i - 1]'(by omega)) l[i] then some i else Z24 l (i + 1)) else none
termination_by l.length - i
theorem Z77 {l : List Qd} {i : Nat} (h : l.length ≤ i) : Z24 l i = none := by unfold Z24; rw [dif_neg (by omega)]
theorem Z9m {l : List Qd} {i : Nat} (h : i < l.length) : Z24 l i = if 0 ≤ ZJ (l[i - 1]'(by omega)) l[i] then some i else Z24 l (i + 1) := by
 conv => lhs; unfold Z24
 rw [dif_pos h]
def Jv (l : List Qd) : Nat × Int :=
 if 1048576 < l.length then (0, 2) else match badM l 0 with
 | some x => x
 | none => match Z24 l 1 with
   | some i => (i, 6)
   | none => (0, 0)
def typB : List UInt8 := [104, 116, 116, 112, 58, 47, 47, 119, 119, 119, 46, 119, 51, 46, 111, 114, 103, 47, 49, 57, 57, 57, 47, 48, 50, 47, 50, 50, 45, 114, 100, 102, 45, 115, 121, 110, 116, 97, 120, 45, 110, 115, 35, 116, 121, 112, 101]
def domB : List UInt8 := [104, 116, 116, 112, 58, 47, 47, 119, 119, 119, 46, 119, 51, 46, 111, 114, 103, 47, 50, 48, 48, 48, 47, 48, 49, 47, 114, 100, 102, 45, 115, 99, 104, 101, 109, 97, 35, 100, 111, 109, 97, 105, 110]
def ranB : List UInt8 := [104, 116, 116, 112, 58, 47, 47, 119, 119, 119, 46, 119, 51, 46, 111, 114, 103, 47, 50, 48, 48, 48, 47, 48, 49, 47, 114, 100, 102, 45, 115, 99, 104, 101, 109, 97, 35, 114, 97, 110, 103, 101]
def subP : List UInt8 := [104, 116, 116, 112, 58, 47, 47, 119, 119, 119, 46, 119, 51, 46, 111, 114, 103, 47, 50, 48, 48, 48, 47, 48, 49, 47, 114, 100, 102, 45, 115, 99, 104, 101, 109, 97, 35, 115, 117, 98, 80, 114, 111, 112, 101, 114, 116, 121, 79, 102]
def subC : List UInt8 := [104, 116, 116, 112, 58, 47, 47, 119, 119, 119, 46, 119, 51, 46, 111, 114, 103, 47, 50, 48, 48, 48, 47, 48, 49, 47, 114, 100, 102, 45, 115, 99, 104, 101, 109, 97, 35, 115, 117, 98, 67, 108, 97, 115, 115, 79, 102]
abbrev iriT (s : List UInt8) : Tm := ⟨1, s, [], []⟩
abbrev dr2 (a b : Qd) : Qd × Bool := (⟨b.s, iriT typB, a.o, a.g⟩, decide (a.p = iriT domB ∧ a.s = b.p))
abbrev dr3 (a b : Qd) : Qd × Bool := (⟨b.o, iriT typB, a.o, a.g⟩, decide (a.p = iriT ranB ∧ a.s = b.p))
abbrev chn (s : List UInt8) (a b : Qd) : Qd × Bool := (⟨a.s, a.p, b.o, a.g⟩, decide (a.p = iriT s ∧ b.p = a.p ∧ a.o = b.s))
abbrev dr7 (a b : Qd) : Qd × Bool := (⟨b.s, a.o, b.o, a.g⟩, decide (a.p = iriT subP ∧ a.s = b.p))
abbrev dr9 (a b : Qd) : Qd × Bool := (⟨b.s, iriT typB, a.o, a.g⟩, decide (a.p = iriT subC ∧ b.p = iriT typB ∧ b.o = a.s))
def Z9x (n : Int) (a b : Qd) : Qd × Bool :=
 if n = 2 then dr2 a b else if n = 3 then dr3 a b else if n = 5 then chn subP a b else if n = 7 then dr7 a b else if n = 9 then dr9 a b else if n = 11 then chn subC a b else (YV, false)
def Z2B (n : Int) (a b : Qd) : Qd × Bool :=
 if VV a = 0 ∧ VV b = 0 ∧ a.g = b.g ∧ (Z9x n a b).2 = true ∧ VV (Z9x n a b).1 = 0 then ((Z9x n a b).1, true) else (YV, false)
structure St where
 r : Int
 a : Qd
 b : Qd
 q : Qd
 deriving DecidableEq
def St.row (s : St) : List SV := [.int .i64 s.r,
 .int .i64 s.a.s.k, .str s.a.s.t, .str s.a.s.y, .str s.a.s.l, .int .i64 s.a.p.k, .str s.a.p.t, .str s.a.p.y, .str s.a.p.l, .int .i64 s.a.o.k, .str s.a.o.t, .str s.a.o.y, .str s.a.o.l, .int .i64 s.a.g.k, .str s.a.g.t, .str s.a.g.y, .str s.a.g.l,
 .int .i64 s.b.s.k, .str s.b.s.t, .str s.b.s.y, .str s.b.s.l, .int .i64 s.b.p.k, .str s.b.p.t, .str s.b.p.y, .str s.b.p.l, .int .i64 s.b.o.k, .str s.b.o.t, .str s.b.o.y, .str s.b.o.l, .int .i64 s.b.g.k, .str s.b.g.t, .str s.b.g.y, .str s.b.g.l,
 .int .i64 s.q.s.k, .str s.q.s.t, .str s.q.s.y, .str s.q.s.l, .int .i64 s.q.p.k, .str s.q.p.t, .str s.q.p.y, .str s.q.p.l, .int .i64 s.q.o.k, .str s.q.o.t, .str s.q.o.y, .str s.q.o.l, .int .i64 s.q.g.k, .str s.q.g.t, .str s.q.g.y, .str s.q.g.l]
abbrev ZcO (s : St) : List SV := s.row
instance : PlF ZcO := ⟨fun _ => rfl⟩
structure Wd where
 all : List Qd
 why : List St
 place : List (Qd × Int)
 at' : List (Qd × List Qd)
def Zcw (q : Qd) : Qd := ⟨q.g, Yb, q.p, Yb⟩
def Zcx (q : Qd) : Qd := ⟨q.g, q.s, q.p, Yb⟩
def Zcy (q : Qd) : Qd := ⟨q.g, Yb, q.p, q.o⟩
def atL (k : Qd) (l : List (Qd × List Qd)) : List Qd := (getA k l).getD []
def Z83 (k q : Qd) (l : List (Qd × List Qd)) : List (Qd × List Qd) := setA k (atL k l ++ [q]) l
def putM (w : Wd) (s : St) : Wd :=
 if (getA s.q w.place).isSome then w else ⟨w.all ++ [s.q], w.why ++ [s], setA s.q (w.all.length : Int) w.place, Z83 (Zcy s.q) s.q (Z83 (Zcx s.q) s.q (Z83 (Zcw s.q) s.q w.at'))⟩
def Zcz : Wd := ⟨[], [], [], []⟩
def ZcA (q : Qd) : St := ⟨0, YV, YV, q⟩
def ZcB (l : List Qd) : Wd := l.foldl (fun w q => putM w (ZcA q)) Zcz
abbrev intV (n : Int) : SV := .int .i64 n
abbrev qdsV (l : List Qd) : List (List SV) := l.map Zl
abbrev Zb5 (l : List (Qd × Int)) : List (List SV) := Z5Y KQ intV l
abbrev atR (l : List (Qd × List Qd)) : List (List DC) := Z33 KQ 16 qdsV l
theorem Z84 (l : List (Qd × Int)) : Zs (Zb5 l) = true := Z91 KQ _ (fun _ => rfl) l
instance {l : List (Qd × Int)} : Pl (Zb5 l) := ⟨Z84 l⟩
theorem ZbI (l : List (Qd × List Qd)) : XK (atR l) = true := Z6V KQ 16 _ (fun b => ZX _ (fun _ => rfl) b) l
instance {l : List (Qd × List Qd)} : PlD (atR l) := ⟨ZbI l⟩
theorem ZbJ (k q k' : Qd) (m : List (Qd × List Qd)) : atL k' (Z83 k q m) = if k' = k then atL k m ++ [q] else atL k' m := by
 unfold Z83 atL
 rw [Z6U]
 split <;> rfl
def Zaw (i : Nat) (q : Qd) : Qd := match i with | 0 => Zcw q | 1 => Zcx q | _ => Zcy q
def atN (q : Qd) (l : List (Qd × List Qd)) : Nat → List (Qd × List Qd)
 | 0 => l
 | i + 1 => Z83 (Zaw i q) q (atN q l i)
structure WdOK (w : Wd) : Prop where
 len : w.why.length = w.all.length
 mem : ∀ q, q ∈ w.all ↔ (getA q w.place).isSome = true
 at3 : ∀ k, (atL k w.at').length ≤ 3 * w.all.length
theorem ZbK {w : Wd} {s : St} (h : (getA s.q w.place).isSome = true) : putM w s = w := by unfold putM; rw [if_pos h]
theorem ZcC {w : Wd} {s : St} (h : getA s.q w.place = none) : putM w s = ⟨w.all ++ [s.q], w.why ++ [s], setA s.q (w.all.length : Int) w.place, atN s.q w.at' 3⟩ := by unfold putM; rw [h]; rfl
inductive Der (l : List Qd) : Qd → Prop
 | base {q : Qd} (h : q ∈ l) : Der l q
 | step {n : Int} {a b : Qd} (ha : Der l a) (hb : Der l b) (h : (Z2B n a b).2 = true) : Der l (Z2B n a b).1
def ZcP (first : Bool) (q o : Qd) (n : Int) : Option St :=
 let a := if first then q else o
 let b := if first then o else q
 if (Z2B n a b).2 then some ⟨n, a, b, (Z2B n a b).1⟩ else none
def ZcQ (first : Bool) (q : Qd) (others : List Qd) (ns : List Int) : List St := others.flatMap fun o => ns.filterMap (ZcP first q o)
def ZcD {σ : Type} (T : σ → St → σ × Bool) : List St → σ → σ × Bool
 | [], s => (s, true)
 | c :: cs, s => if (T s c).2 then ZcD T cs (T s c).1 else ((T s c).1, false)
abbrev Ask := Bool × Qd × List Int
def asks (q : Qd) : List Ask := [(true, ⟨q.g, Yb, q.s, Yb⟩, [2, 3, 7]), (true, ⟨q.g, q.o, q.p, Yb⟩, [5, 11]), (true, ⟨q.g, Yb, iriT typB, q.s⟩, [9]),
 (false, ⟨q.g, q.p, iriT domB, Yb⟩, [2]), (false, ⟨q.g, q.p, iriT ranB, Yb⟩, [3]), (false, ⟨q.g, q.p, iriT subP, Yb⟩, [7]),
 (false, ⟨q.g, Yb, q.p, q.s⟩, [5, 11]), (false, ⟨q.g, q.o, iriT subC, Yb⟩, [9])]
def askM {σ : Type} (T : σ → St → σ × Bool) (rd : σ → List (Qd × List Qd)) (q : Qd) (a : Ask) (s : σ) : σ × Bool := ZcD T (ZcQ a.1 q (atL a.2.1 (rd s)) a.2.2) s
def askL {σ : Type} (T : σ → St → σ × Bool) (rd : σ → List (Qd × List Qd)) (q : Qd) : List Ask → σ → σ × Bool
 | [], s => (s, true)
 | a :: as', s => if (askM T rd q a s).2 then askL T rd q as' (askM T rd q a s).1 else ((askM T rd q a s).1, false)
structure AtOK (w : Wd) : Prop where
 sub : ∀ k o, o ∈ atL k w.at' → o ∈ w.all
 all : ∀ o ∈ w.all, ∀ k, k < 3 → o ∈ atL (Zaw k o) w.at'
 nodup : w.all.Nodup
theorem Z9y (q : Qd) (m : List (Qd × List Qd)) (k o : Qd) : ∀ i, o ∈ atL k (atN q m i) ↔ o ∈ atL k m ∨ (o = q ∧ ∃ j, j < i ∧ k = Zaw j q)
 | 0 => by simp [atN]
 | i + 1 => by
   unfold atN
   rw [ZbJ]
   have ih := fun k => Z9y q m k o i
   by_cases e : k = Zaw i q
   · subst e
     rw [if_pos rfl, List.mem_append, ih, List.mem_singleton]
     constructor
     · rintro ((h | ⟨h1, j, h2, h3⟩) | rfl)
       · exact .inl h
       · exact .inr ⟨h1, j, by omega, h3⟩
       · exact .inr ⟨rfl, i, by omega, rfl⟩
     · rintro (h | ⟨h1, j, h2, h3⟩)
       · exact .inl (.inl h)
       · exact .inr h1
   · rw [if_neg e, ih]
     constructor
     · rintro (h | ⟨h1, j, h2, h3⟩)
       · exact .inl h
       · exact .inr ⟨h1, j, by omega, h3⟩
     · rintro (h | ⟨h1, j, h2, h3⟩)
       · exact .inl h
       · refine .inr ⟨h1, j, ?_, h3⟩
         rcases Nat.lt_or_eq_of_le (Nat.le_of_lt_succ h2) with h | rfl
         · exact h
         · exact (e h3).elim
def ZbL (most : Int) (w : Wd) (s : St) : Wd × Bool := (putM w s, decide (((putM w s).all.length : Int) ≤ most))
def SOK (known : List Qd) (s : St) : Prop := s.a ∈ known ∧ s.b ∈ known ∧ (Z2B s.r s.a s.b).2 = true ∧ (Z2B s.r s.a s.b).1 = s.q
theorem SOK.mono {k k' : List Qd} {s : St} (h : SOK k s) (hs : ∀ q ∈ k, q ∈ k') : SOK k' s := ⟨hs _ h.1, hs _ h.2.1, h.2.2⟩
structure WhyI (l : List Qd) (w : Wd) : Prop where
 here : ∀ (i : Nat) q, w.all[i]? = some q → getA q w.place = some (i : Int)
 why : ∀ (i : Nat) s, w.why[i]? = some s → w.all[i]? = some s.q ∧ (s.q ∈ l ∨ SOK (w.all.take i) s)
structure CInv (l : List Qd) (w : Wd) : Prop where
 ok : WdOK w
 spots : AtOK w
 sub : ∀ q ∈ l, q ∈ w.all
 der : ∀ q ∈ w.all, Der l q
 why : WhyI l w
 pre : (ZcB l).all <+: w.all
theorem Z8u (w : Wd) (s : St) (k o : Qd) (h : o ∈ atL k w.at') : o ∈ atL k (putM w s).at' := by
 cases hg : getA s.q w.place with
 | some v => rw [ZbK (by rw [hg]; rfl)]; exact h
 | none => rw [ZcC hg]; exact (Z9y s.q w.at' k o 3).2 (.inl h)
structure Grown (l : List Qd) (most : Int) (w : Wd) (r : Wd × Bool) : Prop where
 inv : CInv l r.1
 pre : w.all <+: r.1.all
 spots : ∀ k o, o ∈ atL k w.at' → o ∈ atL k r.1.at'
 less : r.2 = false → most < (r.1.all.length : Int)
 upto : (w.all.length : Int) ≤ most → (r.1.all.length : Int) ≤ most + 1
 yes : r.2 = true → (w.all.length : Int) ≤ most → (r.1.all.length : Int) ≤ most
theorem Grown.refl {l : List Qd} {most : Int} {w : Wd} (h : CInv l w) : Grown l most w (w, true) := ⟨h, List.prefix_rfl, fun _ _ h => h, (fun h => by cases h), (fun h => by show (w.all.length : Int) ≤ most + 1; omega), fun _ h => h⟩
def ZcR (most : Int) (q : Qd) (w : Wd) : Wd × Bool := askL (ZbL most) Wd.at' q (asks q) w
def runW (most : Int) (w : Wd) : Nat → Wd
 | 0 => w
 | i + 1 => match (runW most w i).all[i]? with
   | some q => (ZcR most q (runW most w i)).1
   | none => runW most w i
abbrev More (most : Int) (i : Nat) (w : Wd) : Prop := i < w.all.length ∧ (w.all.length : Int) ≤ most
def ZcS (most : Int) (w : Wd) (n : Nat) (v : Wd) : Prop := v = runW most w n ∧ ∀ j, j < n → More most j (runW most w j)
theorem Xi (most : Int) (w : Wd) : ZcS most w 0 w := ⟨rfl, fun j h => by omega⟩
end Go.Our
