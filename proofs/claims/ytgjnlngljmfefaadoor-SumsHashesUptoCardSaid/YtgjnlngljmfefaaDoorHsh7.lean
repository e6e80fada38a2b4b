/- Part 7: SxDrawn, SxDrawnS, SxDrawnT, SxAuto3, SxRange, SxKeep, SxKids, SxLent. Conditions: as each part says. -/
import Derived.RangeFuncNested
import Derived.Test.YtgjnlngljmfefaaDoorHsh3
import Derived.Test.YtgjnlngljmfefaaDoorHsh6
set_option linter.unusedVariables false
set_option linter.unusedSimpArgs false
namespace Go.Sx
open Go
def Det (v : SV) : Prop := ∀ η u u', Den η v u → Den η v u' → u = u'
def DetL (vs : List SV) : Prop := ∀ η us us', DenL η vs us → DenL η vs us' → us = us'
mutual
def detV : SV → Bool
 | .bool _ | .int _ _ | .str _ | .ptr _ _ _ _ | .val _ | .mp _ | .yf _ => true
 | .dfs _ => false
 | .sl _ r _ _ _ => Nat.beq r 0
 | .agg cs => Wz cs
 | .tup vs => Wz vs
 | .ifc _ v => detV v
 | .fn _ a b => Wz a && Wz b
 | .arr _ _ => false
 | .any => false
 | .nb _ => false
def Wz : List SV → Bool
 | [] => true
 | c :: cs => detV c && Wz cs
end
mutual
theorem Det.of : ∀ {v : SV}, detV v = true → Det v
 | .bool _, _ => fun η u u' h h' => by simp only [Den] at h h'; rw [h, h']
 | .int _ _, _ => fun η u u' h h' => by simp only [Den] at h h'; rw [h, h']
 | .str _, _ => fun η u u' h h' => by simp only [Den] at h h'; rw [h, h']
 | .val _, _ => fun η u u' h h' => by simp only [Den] at h h'; rw [h.1, h'.1]
 | .mp b, _ => fun η u u' h h' => by
   simp only [Den] at h h'
   obtain ⟨e, h1, rfl⟩ := h
   obtain ⟨e', h2, rfl⟩ := h'
   rw [h1] at h2; injection h2 with h2; injection h2 with h2; rw [h2]
 | .ptr b r es c, _ => fun η u u' h h' => by
   simp only [Den] at h h'
   obtain ⟨e, h1, rfl⟩ := h
   obtain ⟨e', h2, rfl⟩ := h'
   rw [h1] at h2; injection h2 with h2; injection h2 with h2; rw [h2]
 | .sl b r es len lim, hd => fun η u u' h h' => by
   simp only [detV] at hd
   have hd := Zj hd
   simp only [Den] at h h'
   rcases h with ⟨h1, rfl, _⟩ | ⟨e, o, h1, rfl, _, _, h2⟩
   · rcases h' with ⟨h1', rfl, _⟩ | ⟨e', o', h1', rfl, _, _, h2'⟩
     · rfl
     · rw [h1] at h1'; cases h1'
   · rcases h' with ⟨h1', rfl, _⟩ | ⟨e', o', h1', rfl, _, _, h2'⟩
     · rw [h1] at h1'; cases h1'
     · rw [h1] at h1'; injection h1' with h1'; injection h1' with h1'; subst h1'
       rw [h2 (.inr hd), h2' (.inr hd)]
 | .agg cs, hd => fun η u u' h h' => by
   simp only [detV] at hd
   simp only [Den] at h h'
   obtain ⟨us, rfl, h1, _⟩ := h
   obtain ⟨us', rfl, h2, _⟩ := h'
   rw [DetL.of hd η us us' h1 h2]
 | .tup cs, hd => fun η u u' h h' => by
   simp only [detV] at hd
   simp only [Den] at h h'
   obtain ⟨us, rfl, h1⟩ := h
   obtain ⟨us', rfl, h2⟩ := h'
   rw [DetL.of hd η us us' h1 h2]
 | .ifc t v, hd => fun η u u' h h' => by
   simp only [detV] at hd
   simp only [Den] at h h'
   obtain ⟨us, rfl, h1⟩ := h
   obtain ⟨us', rfl, h2⟩ := h'
   rw [Det.of hd η us us' h1 h2]
 | .fn f a b, hd => fun η u u' h h' => by
   simp only [detV, Bool.and_eq_true] at hd
   simp only [Den] at h h'
   obtain ⟨us, vs, rfl, h1, h3⟩ := h
   obtain ⟨us', vs', rfl, h2, h4⟩ := h'
   rw [DetL.of hd.1 η us us' h1 h2, DetL.of hd.2 η vs vs' h3 h4]
 | .arr _ _, hd => by simp [detV] at hd
 | .any, hd => by simp [detV] at hd
 | .nb _, hd => by simp [detV] at hd
 | .dfs _, hd => by simp [detV] at hd
 | .yf b, _ => fun η u u' h h' => by
   simp only [Den] at h h'
   obtain ⟨e, h1, rfl⟩ := h
   obtain ⟨e', h2, rfl⟩ := h'
   rw [h1] at h2; injection h2 with h2; injection h2 with h2; rw [h2]
theorem DetL.of : ∀ {vs : List SV}, Wz vs = true → DetL vs
 | [], _ => fun η us us' h h' => by simp only [DenL] at h h'; rw [h, h']
 | c :: cs, hd => fun η us us' h h' => by
   simp only [Wz, Bool.and_eq_true] at hd
   simp only [DenL] at h h'
   obtain ⟨u, r, rfl, h1, h2⟩ := h
   obtain ⟨u', r', rfl, h1', h2'⟩ := h'
   rw [Det.of hd.1 η u u' h1 h1', DetL.of hd.2 η r r' h2 h2']
end
def JK : Hps → List (Blk × Hp)
 | [] => []
 | (i, h) :: r => (.loc i, h) :: JK r
def Z0e (C : Cx) (O : Hps) : Cx := ⟨C.T, C.N, JK O ++ C.S, C.ro⟩
def Uq (C : Cx) : Cx := ⟨{ C.T with globs := [], gplain := rfl }, C.N, [], C.ro⟩
def shMx (M : Mx) (O : Hps) (η : Env) (w : World) : Mx := ⟨M.P, Z0e M.C O, w, fun _ => False, η⟩
def blMx (M : Mx) (η : Env) (w : World) : Mx := ⟨M.P, Uq M.C, w, fun _ => False, η⟩
def WA : SV → Prop → Prop
 | .bool _, K | .int _ _, K | .str _, K | .ptr _ _ _ _, K | .val _, K => K
 | .agg cs, K => match Wz cs with | true => K | false => NEED (Det (.agg cs)) K
 | .tup cs, K => match Wz cs with | true => K | false => NEED (Det (.tup cs)) K
 | v, K => NEED (Det v) K
def Z22 (N : Nat) (C : Cx) (o : Oper) (fr : Fr) (nx : Nat) (K : SV → Prop) : Prop :=
 match Xm N o.dst with
 | false => STOP "slot"
 | true => match o.op with
   | .move x => match Xx fr x with | some v => K v | none => STOP "operand"
   | .assign x => match Xx fr x with | some v => K v | none => STOP "operand"
   | op => match Z4h op with
     | true => STOP "writes"
     | false => (opR C (Xx fr) [] nx op).gv fun v => WA v (K v)
structure ADD (M : Mx) (o : Oper) (fr : Fr) (O : Hps) (nx : Nat) (K : SV → Hps → Nat → Prop) : Prop where
 mkH ::
 hout : ∀ η w, HeapOK M η w O nx → VI (shMx M O η w) o (Xx fr) [] nx fun v O2 nx => K v (O2 ++ O) nx
theorem ADD.mk {M : Mx} {o : Oper} {fr : Fr} {O : Hps} {nx : Nat} {K : SV → Hps → Nat → Prop} (h : ∀ η w, VI (shMx M O η w) o (Xx fr) [] nx fun v O2 nx => K v (O2 ++ O) nx) : ADD M o fr O nx K := ⟨fun η w _ => h η w⟩
def Z2S (M : Mx) (m : Nat) (o : Oper) (fr : Fr) (O : Hps) (nx : Nat) (K : SV → Hps → Nat → Prop) : Prop :=
 match m with
 | 0 => VI M o (Xx fr) O nx K
 | 1 => Z22 M.C.N (Uq M.C) o fr nx fun v => K v O nx
 | 2 => Z22 M.C.N (Z0e M.C O) o fr nx fun v => K v O nx
 | _ => ADD M o fr O nx K
inductive Plan where
 | nil
 | take (i m : Nat) (t : Plan)
 | fork (i mi j mj : Nat) (a b : Plan)
 | fork3 (i mi j mj k mk : Nat) (a b c : Plan)
 | join (t : Plan)
def ZV : List (Nat × Nat) → Plan
 | [] => .nil
 | (i, m) :: r => .take i m (ZV r)
def Plan.depth : Plan → Nat
 | .nil => 0
 | .take _ _ t => t.depth + 1
 | .fork _ _ _ _ a _ => a.depth + 1
 | .fork3 _ _ _ _ _ _ a _ _ => a.depth + 1
 | .join t => t.depth
structure FORK (A B : Prop) : Prop where
 a : A
 b : B
structure JOIN (A : Fr → Prop) (fr : Fr) : Prop where
 out : ∃ fr', (∀ t, lkp t fr' = lkp t fr) ∧ A fr'
theorem JOIN.go {A : Fr → Prop} {fr : Fr} (h : A fr) : JOIN A fr := ⟨fr, fun _ => rfl, h⟩
theorem JOIN.ij {A : Fr → Prop} {fr : Fr} {a b c s : Nat} {x y z g : SV} (h : A ((b, y) :: (c, z) :: (a, x) :: (s, g) :: fr)) (hd : (a ≠ s ∧ b ≠ s ∧ c ≠ s) ∧ a ≠ b ∧ a ≠ c ∧ b ≠ c) : JOIN A ((b, y) :: (s, g) :: (c, z) :: (s, g) :: (a, x) :: (s, g) :: fr) := by
 refine ⟨_, fun t => ?_, h⟩
 obtain ⟨⟨h1, h2, h3⟩, h4, h5, h6⟩ := hd
 simp only [Zb]
 repeat' split
 all_goals first | rfl | (exfalso; omega)
theorem JOIN.ji {A : Fr → Prop} {fr : Fr} {a b c s : Nat} {x y z g : SV} (h : A ((b, y) :: (c, z) :: (a, x) :: (s, g) :: fr)) (hd : (a ≠ s ∧ b ≠ s ∧ c ≠ s) ∧ a ≠ b ∧ a ≠ c ∧ b ≠ c) : JOIN A ((c, z) :: (s, g) :: (a, x) :: (s, g) :: (b, y) :: (s, g) :: fr) := by
 refine ⟨_, fun t => ?_, h⟩
 obtain ⟨⟨h1, h2, h3⟩, h4, h5, h6⟩ := hd
 simp only [Zb]
 repeat' split
 all_goals first | rfl | (exfalso; omega)
def oneD (M : Mx) (ops : List Oper) (i m : Nat) (fr : Fr) (O : Hps) (nx : Nat) (K : Fr → Hps → Nat → Prop) : Prop :=
 match nth ops i with
 | none => STOP "order"
 | some o => match o.guard with
   | none => Z2S M m o fr O nx fun v O nx => putK o.dst v fr fun fr => K fr O nx
   | some (j, want) =>
     match XR ops j with
     | none => STOP "guard"
     | some s => match lkp s fr with
       | some (.bool b) => IF b
         (fun J => match want with
          | true => Z2S M m o ((s, .bool true) :: fr) O nx fun v O nx => putK o.dst v ((s, .bool true) :: fr) fun fr => J fr O nx
          | false => match Xm M.C.N o.dst with | true => putK o.dst Y8 ((s, .bool true) :: fr) fun fr => J fr O nx | false => STOP "slot")
         (fun J => match want with
          | false => Z2S M m o ((s, .bool false) :: fr) O nx fun v O nx => putK o.dst v ((s, .bool false) :: fr) fun fr => J fr O nx
          | true => match Xm M.C.N o.dst with | true => putK o.dst Y8 ((s, .bool false) :: fr) fun fr => J fr O nx | false => STOP "slot")
         K
       | some (.tup []) => match Xm M.C.N o.dst with | true => putK o.dst Y8 fr fun fr => K fr O nx | false => STOP "slot"
       | _ => STOP "guard"
def runD (M : Mx) (ops : List Oper) : Plan → Fr → Hps → Nat → (Fr → Hps → Nat → Prop) → Prop
 | .nil, fr, O, nx, K => K fr O nx
 | .take i m rest, fr, O, nx, K => oneD M ops i m fr O nx fun fr O nx => runD M ops rest fr O nx K
 | .fork i mi j mj a b, fr, O, nx, K => FORK (oneD M ops i mi fr O nx fun fr O nx => runD M ops a fr O nx K) (oneD M ops j mj fr O nx fun fr O nx => runD M ops b fr O nx K)
 | .fork3 i mi j mj k mk a b c, fr, O, nx, K => FORK (oneD M ops i mi fr O nx fun fr O nx => runD M ops a fr O nx K) (FORK (oneD M ops j mj fr O nx fun fr O nx => runD M ops b fr O nx K) (oneD M ops k mk fr O nx fun fr O nx => runD M ops c fr O nx K))
 | .join t, fr, O, nx, K => JOIN (fun fr => runD M ops t fr O nx K) fr
theorem FORK.skip {M : Mx} {ops : List Oper} {i mi j mj k mk : Nat} {p : Plan} {fr : Fr} {O : Hps} {nx : Nat} {K : Fr → Hps → Nat → Prop} (a b c s : Nat)
   (ha : runD M ops p ((b, Y8) :: (c, Y8) :: (a, Y8) :: (s, .bool false) :: fr) O nx K → oneD M ops i mi fr O nx fun fr O nx => runD M ops (.take k mk (.take j mj (.join p))) fr O nx K)
   (hb : runD M ops p ((b, Y8) :: (c, Y8) :: (a, Y8) :: (s, .bool false) :: fr) O nx K → oneD M ops j mj fr O nx fun fr O nx => runD M ops (.take i mi (.take k mk (.join p))) fr O nx K)
   (r : runD M ops p ((b, Y8) :: (c, Y8) :: (a, Y8) :: (s, .bool false) :: fr) O nx K) :
   FORK (oneD M ops i mi fr O nx fun fr O nx => runD M ops (.take k mk (.take j mj (.join p))) fr O nx K) (oneD M ops j mj fr O nx fun fr O nx => runD M ops (.take i mi (.take k mk (.join p))) fr O nx K) := ⟨ha r, hb r⟩
theorem oneD.pass {M : Mx} {ops : List Oper} {i m : Nat} {fr : Fr} {O : Hps} {nx : Nat} {K : Fr → Hps → Nat → Prop} {o : Oper} {g s a : Nat} {e : Bool}
   (h1 : nth ops i = some o) (h2 : o.guard = some (g, true)) (h3 : XR ops g = some s) (h4 : lkp s fr = some (.bool e)) (he : e = false) (h5 : o.dst = some a) (h6 : Nat.blt a M.C.N = true)
   (h : K ((a, Y8) :: (s, .bool false) :: fr) O nx) : oneD M ops i m fr O nx K := by
 subst he
 unfold oneD
 simp only [h1, h2, h3, h4, h5, Xm, h6, putK]
 exact IF.ff h
theorem FORK.pass {M : Mx} {ops : List Oper} {i mi j mj k mk : Nat} {p : Plan} {fr : Fr} {O : Hps} {nx : Nat} {K : Fr → Hps → Nat → Prop} (a b c s : Nat) {oi oj ok : Oper} {gi gj gk : Nat} {e : Bool}
   (hi : nth ops i = some oi) (hj : nth ops j = some oj) (hk : nth ops k = some ok)
   (ei : oi.guard = some (gi, true)) (ej : oj.guard = some (gj, true)) (ek : ok.guard = some (gk, true))
   (si : XR ops gi = some s) (sj : XR ops gj = some s) (sk : XR ops gk = some s)
   (di : oi.dst = some a) (dj : oj.dst = some b) (dk : ok.dst = some c)
   (ni : Nat.blt a M.C.N = true) (nj : Nat.blt b M.C.N = true) (nk : Nat.blt c M.C.N = true)
   (hf : lkp s fr = some (.bool e)) (he : e = false)
   (hd : (a ≠ s ∧ b ≠ s ∧ c ≠ s) ∧ a ≠ b ∧ a ≠ c ∧ b ≠ c)
   (r : runD M ops p ((b, Y8) :: (c, Y8) :: (a, Y8) :: (s, .bool false) :: fr) O nx K) :
   FORK (oneD M ops i mi fr O nx fun fr O nx => runD M ops (.take k mk (.take j mj (.join p))) fr O nx K) (oneD M ops j mj fr O nx fun fr O nx => runD M ops (.take i mi (.take k mk (.join p))) fr O nx K) := by
 have l1 : ∀ {v : SV} {t : Nat}, t ≠ s → lkp s ((t, v) :: (s, .bool false) :: fr) = some (.bool false) := fun h => by
   rw [Zb, if_neg (fun h' => h h'.symm), Zb, if_pos rfl]
 obtain ⟨⟨a1, a2, a3⟩, hd2⟩ := id hd
 have l2 : ∀ {v w : SV} {t u : Nat}, t ≠ s → u ≠ s → lkp s ((t, v) :: (s, .bool false) :: (u, w) :: (s, .bool false) :: fr) = some (.bool false) := fun h _ => by
   rw [Zb, if_neg (fun h' => h h'.symm), Zb, if_pos rfl]
 constructor
 · refine oneD.pass hi ei si hf he di ni ?_
   show oneD M ops k mk _ O nx fun fr O nx => runD M ops (.take j mj (.join p)) fr O nx K
   refine oneD.pass hk ek sk (l1 a1) rfl dk nk ?_
   show oneD M ops j mj _ O nx fun fr O nx => runD M ops (.join p) fr O nx K
   refine oneD.pass hj ej sj (l2 a3 a1) rfl dj nj ?_
   exact JOIN.ij r hd
 · refine oneD.pass hj ej sj hf he dj nj ?_
   show oneD M ops i mi _ O nx fun fr O nx => runD M ops (.take k mk (.join p)) fr O nx K
   refine oneD.pass hi ei si (l1 a2) rfl di ni ?_
   show oneD M ops k mk _ O nx fun fr O nx => runD M ops (.join p) fr O nx K
   refine oneD.pass hk ek sk (l2 a1 a2) rfl dk nk ?_
   exact JOIN.ji r hd
def Xs (acc : List Nat) (o : Oper) : Nat := o.after.foldl (fun s e => if Region.binds .any e then s ||| 2 ^ e.on ||| acc.getD e.on 0 else s) 0
def Vt : List Oper → List Nat → List Nat
 | [], acc => acc
 | o :: r, acc => Vt r (acc ++ [Xs acc o])
def Ur (i : Nat) : Nat → List Nat → List Nat
 | 0, l => i :: l
 | _, l => l
def Vi (m : Nat) : Bool := m == 0 || m == 3
def Zn : Plan → List Nat
 | .nil => []
 | .take i 0 t => i :: Zn t
 | .take _ _ t => Zn t
 | .fork i mi j mj a b => Ur i mi (Ur j mj (Zn a ++ Zn b))
 | .fork3 i mi j mj k mk a b c => Ur i mi (Ur j mj (Ur k mk (Zn a ++ (Zn b ++ Zn c))))
 | .join t => Zn t
def YA (ops : Array Oper) (ms : List Nat) : Plan → Array Bool → Bool
 | .nil, l => (Region.ready .any ops l).isEmpty
 | .take i m rest, l =>
   (match m with
    | 0 => Region.ready .any ops l == [i]
    | 1 => (Region.ready .any ops l).contains i && Region.free .any ops l i && (Zn rest).all (fun k => k != i)
    | 2 => (Region.ready .any ops l).contains i && Region.free .any ops l i && (Zn rest).all (fun k => k != i && (ms.getD k 0).testBit i)
    | _ => Region.ready .any ops l == [i]) &&
   YA ops ms rest (l.setIfInBounds i true)
 | .fork i mi j mj a b, l => Region.ready .any ops l == [i, j] && Vi mi && Vi mj && a.depth == b.depth && YA ops ms a (l.setIfInBounds i true) && YA ops ms b (l.setIfInBounds j true)
 | .fork3 i mi j mj k mk a b c, l => Region.ready .any ops l == [i, j, k] && Vi mi && Vi mj && Vi mk && a.depth == b.depth && a.depth == c.depth && YA ops ms a (l.setIfInBounds i true) && YA ops ms b (l.setIfInBounds j true) && YA ops ms c (l.setIfInBounds k true)
 | .join t, l => YA ops ms t l
def Z2T (ops : Array Oper) (steps : Plan) : Bool :=
 Region.noSelect ops && steps.depth == ops.size && YA ops (Vt ops.toList []) steps (Array.replicate ops.size false)
end Go.Sx
namespace Go.Sx
open Go
theorem W3 : ∀ (os : List Oper) (acc : List Nat), (Vt os acc).take acc.length = acc ∧ ∀ j o, os[j]? = some o → (Vt os acc)[acc.length + j]? = some (Xs ((Vt os acc).take (acc.length + j)) o)
 | [], acc => ⟨by simp [Vt], fun j o h => by simp at h⟩
 | o :: os, acc => by
   simp only [Vt]
   obtain ⟨h1, h2⟩ := W3 os (acc ++ [Xs acc o])
   simp only [List.length_append, List.length_singleton] at h1 h2
   have h0 : (Vt os (acc ++ [Xs acc o])).take acc.length = acc := by
     have := congrArg (List.take acc.length) h1
     rw [List.take_take] at this
     simpa using this
   refine ⟨h0, fun j o' hj => ?_⟩
   cases j with
   | zero =>
     simp at hj; subst hj
     rw [Nat.add_zero, h0]
     have := congrArg (fun l : List Nat => l[acc.length]?) h1
     simpa [List.getElem?_take] using this
   | succ j =>
     have := h2 j o' (by simpa using hj)
     rw [show acc.length + (j + 1) = acc.length + 1 + j by omega]
     exact this
theorem UJ {acc : List Nat} {o : Oper} {i : Nat} (h : (Xs acc o).testBit i = true) : ∃ e ∈ o.after, Region.binds .any e = true ∧ (e.on = i ∨ (acc.getD e.on 0).testBit i = true) := by
 unfold Xs at h
 rw [← Array.foldl_toList] at h
 have key : ∀ (es : List Edge) (s : Nat), (es.foldl (fun s e => if Region.binds .any e then s ||| 2 ^ e.on ||| acc.getD e.on 0 else s) s).testBit i = true →
     s.testBit i = true ∨ ∃ e ∈ es, Region.binds .any e = true ∧ (e.on = i ∨ (acc.getD e.on 0).testBit i = true) := by
   intro es
   induction es with
   | nil => intro s h; exact .inl h
   | cons e es ih =>
     intro s h
     simp only [List.foldl_cons] at h
     rcases ih _ h with h | ⟨e', he', h⟩
     · split at h
       · rename_i hb
         simp only [Nat.testBit_or, Bool.or_eq_true] at h
         rcases h with (h | h) | h
         · exact .inl h
         · refine .inr ⟨e, List.mem_cons_self .., hb, .inl ?_⟩
           rw [Nat.testBit_two_pow] at h
           simpa using h
         · exact .inr ⟨e, List.mem_cons_self .., hb, .inr h⟩
       · exact .inl h
     · exact .inr ⟨e', List.mem_cons_of_mem _ he', h⟩
 rcases key _ _ h with h | ⟨e, he, h⟩
 · simp at h
 · exact ⟨e, by simpa using he, h⟩
theorem Z0f {ops : Array Oper} {l : Array Bool} (hc : Closed .any ops l) {i : Nat} : ∀ (k : Nat), ((Vt ops.toList []).getD k 0).testBit i = true → l.getD k false = true → l.getD i false = true := by
 intro k
 induction k using Nat.strongRecOn with
 | _ k ih =>
   intro h hk
   cases hg : (Vt ops.toList [])[k]? with
   | none => rw [List.getD_eq_getElem?_getD, hg] at h; simp at h
   | some m =>
     have hlt : k < ops.size := by
       rcases Nat.lt_or_ge k ops.size with h' | h'
       · exact h'
       · rw [← hc.1] at h'
         simp [Array.getElem?_eq_none h'] at hk
     have ho : ops[k]? = some ops[k] := Array.getElem?_eq_getElem hlt
     have hm := (W3 ops.toList []).2 k ops[k] (by simp)
     simp only [List.length_nil, Nat.zero_add] at hm
     rw [List.getD_eq_getElem?_getD, hm, Option.getD_some] at h
     obtain ⟨e, he, hb, h⟩ := UJ h
     have hon := hc.2 k _ ho hk e he hb
     rcases h with rfl | h
     · exact hon
     · rw [List.getD_eq_getElem?_getD, List.getElem?_take] at h
       split at h
       · rename_i hlt'
         exact ih e.on hlt' (by rw [List.getD_eq_getElem?_getD]; exact h) hon
       · simp at h
def agree (w w' : World) : Prop := ∀ k, k < w.heap.size → w'.heap[k]? = w.heap[k]?
theorem agree.refl (w : World) : agree w w := fun _ _ => rfl
theorem agree.trans {a b c : World} (h : agree a b) (k : agree b c) : agree a c := fun n hn => by
 have h1 := h n hn
 have hlt : n < b.heap.size := by
   rw [Array.getElem?_eq_getElem hn] at h1
   exact (Array.getElem?_eq_some_iff.1 h1).1
 rw [k n hlt, h1]
section
variable {M : Mx} {η : Env} {w : World} {O : Hps} {nx : Nat}
theorem Us {C : Cx} : ∀ {O : Hps} {j : Nat}, lkpB (.loc j) (JK O ++ C.S) = ZR C O (.loc j)
 | [], j => by simp [JK, ZR, lkp]
 | (i, h) :: r, j => by
   have ih := Us (C := C) (O := r) (j := j)
   simp only [JK, List.cons_append, lkpB, WL, ZR, lkp]
   cases e : Nat.beq j i
   · simp only [e]; rw [ih]; rfl
   · simp only [e]
theorem Z23 {C : Cx} {O : Hps} {b : Blk} : lkS (Z0e C O) b = ZR C O b := by
 cases b with
 | glob g => rfl
 | loc j => exact Us
theorem HeapOK.read (H : HeapOK M η w O nx) {w' : World} (hag : agree w w') : HeapOK (shMx M O η w') η w' [] nx := by
 refine ⟨List.prefix_rfl, H.len, ⟨fun i h hi => by simp [lkp] at hi, fun i j h h' n hi => by simp [lkp] at hi⟩, FrW.refl _ _, fun b h hb => ?_⟩
 have hb' : ZR M.C O b = some h := by rw [← Z23]; exact hb
 have hsat := H.look hb'
 have hag' : ∀ k, feet η w b h k → w'.heap[k]? = w.heap[k]? := fun k f => hag _ (hsat.feet_lt f)
 have hs' := hsat.keep hag'
 exact ⟨hs', fun k f => ⟨hs'.feet_lt f, fun h => h⟩⟩
theorem HeapOK.blind (hl : η.length = nx) (w : World) : HeapOK (blMx M η w) η w [] nx :=
 ⟨List.prefix_rfl, hl, ⟨fun i h hi => by simp [lkp] at hi, fun i j h h' n hi => by simp [lkp] at hi⟩, FrW.refl _ _, fun b h hb => by cases b <;> simp [blMx, Uq, lkS, lkpB, lkp] at hb⟩
theorem HeapOK.join (H : HeapOK M η w O nx) {η' : Env} {w' : World} {O2 : Hps} {nx2 : Nat} (H2 : HeapOK (shMx M O η w) η' w' O2 nx2) : HeapOK M η' w' (O2 ++ O) nx2 ∧ agree w w' := by
 have hag : agree w w' := fun k hk => H2.fr.block k hk (fun h => h)
 have hp : η <+: η' := H2.pre
 have old : ∀ {i : Nat} {h : Hp}, lkp i O = some h → HpSat η' w' true (.loc i) h ∧ ∀ k, feet η' w' (.loc i) h k → feet η w (.loc i) h k ∧ k < w.heap.size := by
   intro i h hi
   obtain ⟨hsat, hF⟩ := H.own.1 i h hi
   have hk : ∀ k, feet η w (.loc i) h k → w'.heap[k]? = w.heap[k]? := fun k f => hag _ (hsat.feet_lt f)
   refine ⟨(hsat.keep (w' := w') hk).mono hp, fun k f => ?_⟩
   have f' := H.stands hp hi hk f
   exact ⟨f', hsat.feet_lt f'⟩
 refine ⟨⟨H.pre.trans hp, H2.len, ⟨fun i h hi => ?_, fun i j h h' k hi hj hij f f' => ?_⟩, H.fr.trans H2.fr (fun n hn => hn.elim), H.sok⟩, hag⟩
 · rcases Yw hi with hi | ⟨_, hi⟩
   · obtain ⟨h1, h2⟩ := H2.own.1 i h hi
     refine ⟨h1, fun k f => .inr ?_⟩
     rcases h2 k f with h3 | h3
     · exact h3.elim
     · exact Nat.le_trans H.fr.size h3
   · obtain ⟨h1, h2⟩ := old hi
     exact ⟨h1, fun k f => (H.own.1 i h hi).2 k (h2 k f).1⟩
 · rcases Yw hi with hi | ⟨_, hi⟩
   · rcases Yw hj with hj | ⟨_, hj⟩
     · exact H2.own.2 i j h h' k hi hj hij f f'
     · have h1 := ((old hj).2 k f').2
       rcases (H2.own.1 i h hi).2 k f with h3 | h3
       · exact h3.elim
       · have h3 : w.heap.size ≤ k := h3
         omega
   · rcases Yw hj with hj | ⟨_, hj⟩
     · have h1 := ((old hi).2 k f).2
       rcases (H2.own.1 j h' hj).2 k f' with h3 | h3
       · exact h3.elim
       · have h3 : w.heap.size ≤ k := h3
         omega
     · exact H.own.2 i j h h' k hi hj hij ((old hi).2 k f).1 ((old hj).2 k f').1
theorem Z10 {v : SV} {K : Prop} (h : WA v K) : Det v ∧ K := by
 cases v with
 | agg cs =>
   simp only [WA] at h
   split at h
   · rename_i e; exact ⟨Det.of (by simpa only [detV] using e), h⟩
   · exact ⟨h.p, h.k⟩
 | tup cs =>
   simp only [WA] at h
   split at h
   · rename_i e; exact ⟨Det.of (by simpa only [detV] using e), h⟩
   · exact ⟨h.p, h.k⟩
 | _ => first | exact ⟨h.p, h.k⟩ | exact ⟨Det.of rfl, h⟩
theorem Vj {P : Program} {C' : Cx} (hT : TabOK P C'.T) {N : World → Prop} {o : Oper} {a : Act} {fr : Fr} {nx N0 : Nat} {K : SV → Prop} (hf : FrOK η a fr)
   (hN : ∀ w', N w' → HeapOK ⟨P, C', w', fun _ => False, η⟩ η w' [] nx) (hw : N w) (h : Z22 N0 C' o fr nx K) :
   Xm N0 o.dst = true ∧ ∃ u v, (∀ w', N w' → (execOp a.eval o).run P w' = .ok (.value u) w' ∨ ((execOp a.eval o).run P w' = .ok .skip w' ∧ u = undef)) ∧ Den η v u ∧ K v := by
 unfold Z22 at h
 split at h
 · exact h.out.elim
 rename_i hd
 refine ⟨hd, ?_⟩
 split at h
 · rename_i x ho
   split at h
   case h_2 => exact h.out.elim
   rename_i v hv
   exact ⟨a.eval x, v, fun w' _ => .inl (by simp [execOp, ho]), ZK hf hv, h⟩
 · rename_i x ho
   split at h
   case h_2 => exact h.out.elim
   rename_i v hv
   exact ⟨a.eval x, v, fun w' _ => .inl (by simp [execOp, ho]), ZK hf hv, h⟩
 · split at h
   · exact h.out.elim
   rename_i hst
   obtain ⟨v, hok, h⟩ := Res.gv_ok h
   obtain ⟨hdet, h⟩ := Z10 h
   have one : ∀ w', N w' → ∃ u, ((execOp a.eval o).run P w' = .ok (.value u) w' ∨ ((execOp a.eval o).run P w' = .ok .skip w' ∧ u = undef)) ∧ Den η v u := by
     intro w' hw'
     have H := hN w' hw'
     obtain ⟨u, w'', η'', h1, h2, h3, h4, h5⟩ := Wq (M := ⟨P, C', w', fun _ => False, η⟩) (w := w') (ρ := a.eval) ⟨H, hT, fun x sv hx => ZK hf hx⟩ o (hok [] nx)
     have he : η'' = η := (h2.eq_of_length (by rw [H.len, h3.len])).symm
     subst he
     have hww := h5 hst rfl
     subst hww
     exact ⟨u, h1, h4⟩
   obtain ⟨u, h1, h2⟩ := one w hw
   refine ⟨u, v, fun w' hw' => ?_, h2, h⟩
   obtain ⟨u', h3, h4⟩ := one w' hw'
   rw [hdet η u u' h2 h4]
   exact h3
end
def SS (ks : List Nat) (wc : World) (l : Array Bool) (w : World) : Prop := (∀ k ∈ ks, l.getD k false = false) → agree wc w
section
variable {M : Mx} {ops : Array Oper} {Q : Exit → Act → World → Prop}
theorem Yp {i m : Nat} {rest : Plan} (h : m ≠ 0) : Zn (.take i m rest) = Zn rest := by
 cases m with
 | zero => exact (h rfl).elim
 | succ m => rfl
theorem Z0g {i : Nat} {rest : Plan} : Zn (.take i 0 rest) = i :: Zn rest := rfl
theorem JL {l : Array Bool} {i : Nat} (h : l.getD i true = false) : l.getD i false = false := by
 rcases Nat.lt_or_ge i l.size with h' | h'
 · simp [h'] at h ⊢; exact h
 · simp [Array.getElem?_eq_none h'] at h
theorem Jf {η : Env} {fr : Fr} {O : Hps} {nx : Nat} {a : Act} {w : World} (hm : Models M η fr O nx a w) {o : Oper} (hd : Xm M.C.N o.dst = true) {u : Value} {v : SV} (hv : Den η v u) {Kp : Fr → Prop} (hk : putK o.dst v fr Kp) :
   ∃ fr', Kp fr' ∧ Models M η fr' O nx (a.put o.dst u) w := hm.put hd List.prefix_rfl hm.heap hv hk
theorem XH (hQ : ∀ c a w, ¬ Q (.panic c) a w) (hs : Region.noSelect ops = true) {i n : Nat} {o : Oper} {l : Array Bool} {ks : List Nat} (ho : ops[i]? = some o) (hready : i ∈ Region.ready .any ops l) (hfree : Region.free .any ops l i = true) (hne : ∀ k ∈ ks, k ≠ i) (hc : Closed .any ops l)
   {N : World → Prop} {wc : World} (hN : ∀ l w, Closed .any ops l → l.getD i true = false → SS ks wc l w → N w) {a : Act} {w : World} {u : Value} (hy : YieldsN M.P ops N o u a) (hag : agree wc w)
   (h : wpH M.fence M.P .any ops Q (SS ks wc) n (l.setIfInBounds i true) (a.put o.dst u) w) : wpH M.fence M.P .any ops Q (SS ks wc) (n + 1) l a w := by
 refine Z2R M.all ho (Region.noSelect_spec hs) (fun c a w hq => (hQ _ _ _ hq).elim) hN (fun l' w' hc' hun hr hS hk => hS fun k hk' => ?_) n l a w hc (Region.free_spec ho hfree) hready hy (fun _ => hag) (fun _ => hag) h
 rw [getD_set_ne false (Ne.symm (hne k hk'))]; exact hk k hk'
theorem HeapOK.drawn {η : Env} {w : World} {O : Hps} {nx : Nat} (H : HeapOK M η w O nx) {n : Nat} (hn : w.drawn ≤ n) : HeapOK M η { w with drawn := n } O nx :=
 ⟨H.pre, H.len, H.own.still rfl, ⟨H.fr.os, H.fr.tape, H.fr.output, Nat.le_trans H.fr.drawn hn, H.fr.size, H.fr.block⟩, H.sok⟩
theorem Z0h {m : Nat} (h : Vi m = true) : m = 0 ∨ m = 3 := by
 unfold Vi at h
 simpa using h
theorem Zq {i m : Nat} {l : List Nat} {x : Nat} (h : x ∈ l) : x ∈ Ur i m l := by
 cases m with
 | zero => exact List.mem_cons_of_mem _ h
 | succ m => exact h
theorem X8 {i : Nat} {l : List Nat} : i ∈ Ur i 0 l := List.mem_cons_self ..
theorem Z4H (hT : TabOK M.P M.C.T) {i m : Nat} (hmode : m = 0 ∨ m = 3) {fr : Fr} {O : Hps} {nx : Nat} {Kn : Fr → Hps → Nat → Prop} (h : oneD M ops.toList i m fr O nx Kn) {η : Env} {a : Act} {w : World} (hm : Models M η fr O nx a w) {R : Act → World → Prop}
   (hR : ∀ {fr : Fr} {O : Hps} {nx : Nat} {η : Env} {a : Act} {w' : World}, Kn fr O nx → Models M η fr O nx a w' → (m = 3 → agree w w') → R a w') : wpOpIn M.fence 0 M.P ops Q i R a w := by
 unfold oneD at h
 split at h
 · exact h.out.elim
 rename_i o ho
 have ho : ops[i]? = some o := by rw [Xf] at ho; simpa using ho
 have skip : ∀ {fr' : Fr}, Models M η fr' O nx a w → Region.wanted o (yielded ops a.tmps) ≠ true → (match Xm M.C.N o.dst with | true => putK o.dst Y8 fr' fun fr => Kn fr O nx | false => STOP "slot") → wpOpIn M.fence 0 M.P ops Q i R a w := by
   intro fr' hm' hw h
   split at h
   case h_2 => exact h.out.elim
   rename_i hd
   obtain ⟨fr2, h1, h2⟩ := Jf hm' hd (Xh η) h
   unfold wpOpIn
   simp only [ho]
   rw [if_neg hw]; exact ⟨fun f _ => M.all f, hR h1 h2 fun _ => agree.refl w⟩
 have go : ∀ {fr' : Fr}, Models M η fr' O nx a w → Region.wanted o (yielded ops a.tmps) = true → (Z2S M m o fr' O nx fun v O nx => putK o.dst v fr' fun fr => Kn fr O nx) → wpOpIn M.fence 0 M.P ops Q i R a w := by
   intro fr' hm' hw h
   unfold wpOpIn
   simp only [ho]
   rw [if_pos hw]
   rcases hmode with rfl | rfl
   · have h : VI M o (Xx fr') O nx fun v O nx => putK o.dst v fr' fun fr => Kn fr O nx := h
     refine (JG hT hm' (fun x sv hx => ZK hm'.frame hx) h fun u v O' nx' η' w' hd hp hH hv hk => ?_)
     obtain ⟨fr2, h1, h2⟩ := hm'.put hd hp hH hv hk
     exact hR h1 h2 fun h => by cases h
   · have h : ADD M o fr' O nx fun v O nx => putK o.dst v fr' fun fr => Kn fr O nx := h
     have hm2 : Models (shMx M O η w) η fr' [] nx a w := ⟨hm'.heap.read (agree.refl w), hm'.size, hm'.nds, hm'.defers, hm'.ro, hm'.frame⟩
     refine (JG (M := shMx M O η w) hT hm2 (fun x sv hx => ZK hm'.frame hx) (h.hout η w hm'.heap) fun u v O2 nx2 η' w' hd hp hH hv hk => ?_)
     obtain ⟨hJ, hag2⟩ := hm'.heap.join hH
     obtain ⟨fr2, h1, h2⟩ := hm'.put hd hp hJ hv hk
     exact hR h1 h2 fun _ => hag2
 split at h
 · rename_i hg
   exact go hm (XC hg) h
 · rename_i j want hg
   split at h
   · exact h.out.elim
   rename_i s hsl
   split at h
   · rename_i b hb
     have hbv := ZX (hm.frame s _ hb)
     have hy := Jd hsl hbv
     cases b with
     | true =>
       have h := h.t rfl
       have hm' : Models M η ((s, .bool true) :: fr) O nx a w := hm.know hb rfl rfl hbv
       cases want with
       | true => exact go hm' ((Zo hg).2 hy) h
       | false => exact skip hm' (fun hw => by rw [Zo hg, hy] at hw; cases hw) h
     | false =>
       have h := h.f rfl
       have hm' : Models M η ((s, .bool false) :: fr) O nx a w := hm.know hb rfl rfl hbv
       cases want with
       | false => exact go hm' ((Zo hg).2 hy) h
       | true => exact skip hm' (fun hw => by rw [Zo hg, hy] at hw; cases hw) h
   · rename_i hb
     have hbv := hm.frame s _ hb
     simp only [Den, DenL] at hbv
     obtain ⟨vs, hbv, rfl⟩ := hbv
     exact skip hm (fun hw => by rw [Zo hg] at hw; exact XB hsl (by rw [hbv]; simp) hw) h
   · exact h.out.elim
theorem arm (hT : TabOK M.P M.C.T) {fk t : Plan} {d : Nat} {fr : Fr} {O : Hps} {nx : Nat} {K : Fr → Hps → Nat → Prop} {η : Env} {a : Act} {w wc : World} {l : Array Bool} (hm : Models M η fr O nx a w) (hag : agree wc w) (hc : Closed .any ops l)
   {x m : Nat} (hmo : Vi m = true) (hx : x ∈ Region.ready .any ops l) (hxk : m = 0 → x ∈ Zn fk) (hsub : ∀ k ∈ Zn t, k ∈ Zn fk) (hd : t.depth = d)
   (ih : ∀ {fr : Fr} {O : Hps} {nx : Nat} {η : Env} {a : Act} {w wc : World}, runD M ops.toList t fr O nx K → Models M η fr O nx a w → agree wc w → wpH M.fence M.P .any ops Q (SS (Zn t) wc) t.depth (l.setIfInBounds x true) a w)
   (hrun : oneD M ops.toList x m fr O nx fun fr O nx => runD M ops.toList t fr O nx K) :
   wpOpIn M.fence 0 M.P ops Q x (fun a' w' => SS (Zn fk) wc (l.setIfInBounds x true) w' ∧ wpH M.fence M.P .any ops Q (SS (Zn fk) wc) d (l.setIfInBounds x true) a' w') a w := by
 have hin : x < l.size := by
   obtain ⟨h1, o, ho, _⟩ := mem_ready.1 hx
   rw [hc.1]; exact (Array.getElem?_eq_some_iff.1 ho).1
 have hset : (l.setIfInBounds x true).getD x false = true := by simp [hin]
 refine Z4H hT (Z0h hmo) hrun hm fun {fr O nx η a w'} hk hm' hag' => ?_
 rcases Z0h hmo with h0 | h3
 · have hno : ∀ l' w', Grows (l.setIfInBounds x true) l' → SS (Zn fk) wc l' w' := by
     intro l' w' hg hk
     have h1 := hk x (hxk h0)
     rw [hg x hset] at h1; cases h1
   refine ⟨hno _ _ (fun _ h => h), ?_⟩
   have := ih hk hm' (agree.refl _)
   rw [hd] at this
   exact JJ (l0 := l.setIfInBounds x true) (fun l' w' hg _ => hno l' w' hg) _ _ _ _ (fun _ h => h) this
 · have hag2 : agree wc w' := hag.trans (hag' h3)
   refine ⟨fun _ => hag2, ?_⟩
   have := ih hk hm' hag2
   rw [hd] at this
   exact JJ (l0 := l.setIfInBounds x true) (fun l' w'' hg hS hk => hS fun k hkt => hk k (hsub k hkt)) _ _ _ _ (fun _ h => h) this
theorem Ye (hT : TabOK M.P M.C.T) (hQ : ∀ c a w, ¬ Q (.panic c) a w) (hs : Region.noSelect ops = true) : ∀ (steps : Plan) {fr : Fr} {O : Hps} {nx : Nat} {K : Fr → Hps → Nat → Prop}, runD M ops.toList steps fr O nx K →
   ∀ {l : Array Bool}, YA ops (Vt ops.toList []) steps l = true → Closed .any ops l → ∀ {η : Env} {a : Act} {w : World}, Models M η fr O nx a w → (∀ η fr O nx a w, Models M η fr O nx a w → K fr O nx → Q .normal a w) →
   ∀ {wc : World}, agree wc w → wpH M.fence M.P .any ops Q (SS (Zn steps) wc) steps.depth l a w
 | .nil, fr, O, nx, K, h, l, hl, hc, η, a, w, hm, hq, wc, hag => by
   simp only [YA, List.isEmpty_iff] at hl
   exact ⟨hl, hq η fr O nx a w hm h⟩
 | .take i m rest, fr, O, nx, K, h, l, hl, hc, η, a, w, hm, hq, wc, hag => by
   have IH := @Ye hT hQ hs rest
   unfold runD oneD at h
   split at h
   · exact h.out.elim
   rename_i o ho
   have ho : ops[i]? = some o := by rw [Xf] at ho; simpa using ho
   simp only [YA, Bool.and_eq_true] at hl
   obtain ⟨hl1, hl2⟩ := hl
   have hready : i ∈ Region.ready .any ops l := by
     revert hl1
     split <;> intro hl1
     · rw [beq_iff_eq.1 hl1]; exact List.mem_singleton.2 rfl
     · simp only [Bool.and_eq_true] at hl1; simpa using hl1.1.1
     · simp only [Bool.and_eq_true] at hl1; simpa using hl1.1.1
     · rw [beq_iff_eq.1 hl1]; exact List.mem_singleton.2 rfl
   have hc' := hc.set hready
   have hin : i < l.size := by rw [hc.1]; exact (Array.getElem?_eq_some_iff.1 ho).1
   have hset : (l.setIfInBounds i true).getD i false = true := by simp [hin]
   have modes : ∀ {p : Prop}, (m = 0 → p) → (m = 1 → p) → (m = 2 → p) → (3 ≤ m → p) → p := by
     intro p h0 h1 h2 h3
     match m, h0, h1, h2, h3 with
     | 0, h0, _, _, _ => exact h0 rfl
     | 1, _, h1, _, _ => exact h1 rfl
     | 2, _, _, h2, _ => exact h2 rfl
     | m + 3, _, _, _, h3 => exact h3 (by omega)
   have alone : Region.ready .any ops l = [i] → ∀ {a : Act} {w : World}, agree wc w → wpOpIn M.fence 0 M.P ops Q i (fun a' w' => SS (Zn (.take i m rest)) wc (l.setIfInBounds i true) w' ∧ wpH M.fence M.P .any ops Q (SS (Zn (.take i m rest)) wc) rest.depth (l.setIfInBounds i true) a' w') a w →
       wpH M.fence M.P .any ops Q (SS (Zn (.take i m rest)) wc) (Plan.take i m rest).depth l a w := fun hr a w hag h => Z4G hr h
   have afterKill : m = 0 → ∀ {fr : Fr} {O : Hps} {nx : Nat} {η : Env} {a : Act} {w : World}, runD M ops.toList rest fr O nx K → Models M η fr O nx a w →
       SS (Zn (.take i m rest)) wc (l.setIfInBounds i true) w ∧ wpH M.fence M.P .any ops Q (SS (Zn (.take i m rest)) wc) rest.depth (l.setIfInBounds i true) a w := by
     intro h0 fr O nx η a w hrun hm
     subst h0
     rw [Z0g]
     have hno : ∀ l' w', Grows (l.setIfInBounds i true) l' → SS (i :: Zn rest) wc l' w' := by
       intro l' w' hg hk
       have h1 := hk i (List.mem_cons_self ..)
       rw [hg i hset] at h1; cases h1
     exact ⟨hno _ _ (fun _ h => h), JJ (l0 := l.setIfInBounds i true) (fun l' w' hg _ => hno l' w' hg) _ _ _ _ (fun _ h => h) (IH hrun hl2 hc' hm hq (agree.refl w))⟩
   have afterElse : m ≠ 0 → ∀ {fr : Fr} {O : Hps} {nx : Nat} {η : Env} {a : Act} {w : World}, runD M ops.toList rest fr O nx K → Models M η fr O nx a w → agree wc w →
       SS (Zn (.take i m rest)) wc (l.setIfInBounds i true) w ∧ wpH M.fence M.P .any ops Q (SS (Zn (.take i m rest)) wc) rest.depth (l.setIfInBounds i true) a w := by
     intro h0 fr O nx η a w hrun hm hag
     rw [Yp h0]
     exact ⟨fun _ => hag, IH hrun hl2 hc' hm hq hag⟩
   have quiet1 : m = 1 → Region.free .any ops l i = true ∧ ∀ k ∈ Zn rest, k ≠ i := by
     intro h1; subst h1
     simp only [Bool.and_eq_true, List.all_eq_true, bne_iff_ne] at hl1
     exact ⟨hl1.1.2, hl1.2⟩
   have quiet2 : m = 2 → Region.free .any ops l i = true ∧ ∀ k ∈ Zn rest, k ≠ i ∧ ((Vt ops.toList []).getD k 0).testBit i = true := by
     intro h1; subst h1
     simp only [Bool.and_eq_true, List.all_eq_true, bne_iff_ne] at hl1
     exact ⟨hl1.1.2, hl1.2⟩
   have alone0 : m = 0 → Region.ready .any ops l = [i] := by intro h1; subst h1; exact beq_iff_eq.1 hl1
   have alone3 : 3 ≤ m → Region.ready .any ops l = [i] := by
     intro h1
     match m, h1, hl1 with
     | m + 3, _, hl1 => exact beq_iff_eq.1 hl1
   have skip : ∀ {fr' : Fr}, Models M η fr' O nx a w → Region.wanted o (yielded ops a.tmps) ≠ true → (match Xm M.C.N o.dst with | true => putK o.dst Y8 fr' fun fr => runD M ops.toList rest fr O nx K | false => STOP "slot") →
       wpH M.fence M.P .any ops Q (SS (Zn (.take i m rest)) wc) (Plan.take i m rest).depth l a w := by
     intro fr' hm' hw h
     split at h
     case h_2 => exact h.out.elim
     rename_i hd
     obtain ⟨fr2, h1, h2⟩ := Jf hm' hd (Xh η) h
     have hwf : Region.wanted o (yielded ops a.tmps) = false := by simpa using hw
     have op : ∀ {K' : Act → World → Prop}, K' (a.put o.dst undef) w → wpOpIn M.fence 0 M.P ops Q i K' a w := by
       intro K' hk
       unfold wpOpIn
       simp only [ho]
       rw [if_neg hw]; exact ⟨fun f _ => M.all f, hk⟩
     refine modes (fun h0 => alone (alone0 h0) hag (op (afterKill h0 h1 h2))) (fun h0 => ?_) (fun h0 => ?_) (fun h0 => alone (alone3 h0) hag (op (afterElse (by omega) h1 h2 hag)))
     · have hn : m ≠ 0 := by omega
       have := (afterElse hn h1 h2 hag).2
       rw [Yp hn] at this ⊢
       exact XH hQ hs ho hready (quiet1 h0).1 (quiet1 h0).2 hc (N := fun _ => True) (fun _ _ _ _ _ => trivial) (.inr ⟨hwf, rfl⟩) hag this
     · have hn : m ≠ 0 := by omega
       have := (afterElse hn h1 h2 hag).2
       rw [Yp hn] at this ⊢
       exact XH hQ hs ho hready (quiet2 h0).1 (fun k hk => ((quiet2 h0).2 k hk).1) hc (N := fun _ => True) (fun _ _ _ _ _ => trivial) (.inr ⟨hwf, rfl⟩) hag this
   have go : ∀ {fr' : Fr}, Models M η fr' O nx a w → Region.wanted o (yielded ops a.tmps) = true → (Z2S M m o fr' O nx fun v O nx => putK o.dst v fr' fun fr => runD M ops.toList rest fr O nx K) →
       wpH M.fence M.P .any ops Q (SS (Zn (.take i m rest)) wc) (Plan.take i m rest).depth l a w := by
     intro fr' hm' hw h
     have op : ∀ {K' : Act → World → Prop}, o.wpIn M.fence 0 M.P a w K' Q → wpOpIn M.fence 0 M.P ops Q i K' a w := by
       intro K' hk
       unfold wpOpIn
       simp only [ho]
       rw [if_pos hw]; exact hk
     refine modes (fun h0 => ?_) (fun h0 => ?_) (fun h0 => ?_) (fun h0 => ?_)
     · have h : VI M o (Xx fr') O nx fun v O nx => putK o.dst v fr' fun fr => runD M ops.toList rest fr O nx K := by subst h0; exact h
       refine alone (alone0 h0) hag (op (JG hT hm' (fun x sv hx => ZK hm'.frame hx) h fun u v O' nx' η' w' hd hp hH hv hk => ?_))
       obtain ⟨fr2, h1, h2⟩ := hm'.put hd hp hH hv hk
       exact afterKill h0 h1 h2
     · have h : Z22 M.C.N (Uq M.C) o fr' nx fun v => putK o.dst v fr' fun fr => runD M ops.toList rest fr O nx K := by subst h0; exact h
       obtain ⟨hd, u, v, hy, hv, hk⟩ := Vj (P := M.P) (C' := Uq M.C) ⟨hT.und, hT.info, hT.zero, hT.zsh, hT.flat, hT.key⟩ (N := fun _ => True) (w := w) hm'.frame (fun w' _ => HeapOK.blind (M := M) hm'.heap.len w') trivial h
       obtain ⟨fr2, h1, h2⟩ := Jf hm' hd hv hk
       have hn : m ≠ 0 := by omega
       have := (afterElse hn h1 h2 hag).2
       rw [Yp hn] at this ⊢
       exact XH hQ hs ho hready (quiet1 h0).1 (quiet1 h0).2 hc (N := fun _ => True) (fun _ _ _ _ _ => trivial) (.inl ⟨hw, fun w' h => hy w' h⟩) hag this
     · have h : Z22 M.C.N (Z0e M.C O) o fr' nx fun v => putK o.dst v fr' fun fr => runD M ops.toList rest fr O nx K := by subst h0; exact h
       obtain ⟨hd, u, v, hy, hv, hk⟩ := Vj (P := M.P) (C' := Z0e M.C O) hT (N := agree w) hm'.frame (fun w' h => hm'.heap.read h) (agree.refl w) h
       obtain ⟨fr2, h1, h2⟩ := Jf hm' hd hv hk
       have hn : m ≠ 0 := by omega
       have := IH h1 hl2 hc' h2 hq (agree.refl w)
       rw [Yp hn]
       refine JJ (S' := SS (Zn rest) w) (l0 := l) (fun l' w' _ hS hk => hag.trans (hS hk)) _ _ _ _ (fun _ h => h) ?_
       refine XH hQ hs ho hready (quiet2 h0).1 (fun k hk => ((quiet2 h0).2 k hk).1) hc (N := agree w) (fun l' w' hcl hun hS => hS fun k hk => ?_) (.inl ⟨hw, fun w' h => hy w' h⟩) (agree.refl w) this
       cases hlk : l'.getD k false with
       | false => rfl
       | true =>
         have := Z0f hcl k ((quiet2 h0).2 k hk).2 hlk
         rw [JL hun] at this; cases this
     · have h : ADD M o fr' O nx fun v O nx => putK o.dst v fr' fun fr => runD M ops.toList rest fr O nx K := by
         match m, h0, h with
         | m + 3, _, h => exact h
       have hm2 : Models (shMx M O η w) η fr' [] nx a w := ⟨hm'.heap.read (agree.refl w), hm'.size, hm'.nds, hm'.defers, hm'.ro, hm'.frame⟩
       refine alone (alone3 h0) hag (op (JG (M := shMx M O η w) hT hm2 (fun x sv hx => ZK hm'.frame hx) (h.hout η w hm'.heap) fun u v O2 nx2 η' w' hd hp hH hv hk => ?_))
       obtain ⟨hJ, hag2⟩ := hm'.heap.join hH
       obtain ⟨fr2, h1, h2⟩ := hm'.put hd hp hJ hv hk
       exact afterElse (by omega) h1 h2 (hag.trans hag2)
   split at h
   · rename_i hg
     exact go hm (XC hg) h
   · rename_i j want hg
     split at h
     · exact h.out.elim
     rename_i s hsl
     split at h
     · rename_i b hb
       have hbv := ZX (hm.frame s _ hb)
       have hy := Jd hsl hbv
       cases b with
       | true =>
         have h := h.t rfl
         have hm' : Models M η ((s, .bool true) :: fr) O nx a w := hm.know hb rfl rfl hbv
         cases want with
         | true => exact go hm' ((Zo hg).2 hy) h
         | false => exact skip hm' (fun hw => by rw [Zo hg, hy] at hw; cases hw) h
       | false =>
         have h := h.f rfl
         have hm' : Models M η ((s, .bool false) :: fr) O nx a w := hm.know hb rfl rfl hbv
         cases want with
         | false => exact go hm' ((Zo hg).2 hy) h
         | true => exact skip hm' (fun hw => by rw [Zo hg, hy] at hw; cases hw) h
     · rename_i hb
       have hbv := hm.frame s _ hb
       simp only [Den, DenL] at hbv
       obtain ⟨vs, hbv, rfl⟩ := hbv
       exact skip hm (fun hw => by rw [Zo hg] at hw; exact XB hsl (by rw [hbv]; simp) hw) h
     · exact h.out.elim
 | .fork i mi j mj p q, fr, O, nx, K, h, l, hl, hc, η, a, w, hm, hq, wc, hag => by
   simp only [YA, Bool.and_eq_true, beq_iff_eq] at hl
   obtain ⟨⟨⟨⟨⟨hr, hmi⟩, hmj⟩, hdep⟩, hlp⟩, hlq⟩ := hl
   unfold runD at h
   have hi : i ∈ Region.ready .any ops l := by rw [hr]; simp
   have hj : j ∈ Region.ready .any ops l := by rw [hr]; simp
   refine ⟨fun h0 => (by rw [hr] at h0; cases h0), fun x hx => ?_⟩
   rw [hr] at hx
   rcases List.mem_cons.1 hx with rfl | hx
   · exact arm hT hm hag hc hmi hi (fun h0 => by subst h0; exact X8) (fun k hk => Zq (Zq (List.mem_append_left _ hk))) rfl (fun hk hm' hag => Ye hT hQ hs p hk hlp (hc.set hi) hm' hq hag) h.a
   · have hx := List.mem_singleton.1 hx
     subst hx
     exact arm hT hm hag hc hmj hj (fun h0 => by subst h0; exact Zq X8) (fun k hk => Zq (Zq (List.mem_append_right _ hk))) hdep.symm (fun hk hm' hag => Ye hT hQ hs q hk hlq (hc.set hj) hm' hq hag) h.b
 | .fork3 i mi j mj k mk p q r, fr, O, nx, K, h, l, hl, hc, η, a, w, hm, hq, wc, hag => by
   simp only [YA, Bool.and_eq_true, beq_iff_eq] at hl
   obtain ⟨⟨⟨⟨⟨⟨⟨⟨hr, hmi⟩, hmj⟩, hmk⟩, hdep⟩, hdep2⟩, hlp⟩, hlq⟩, hlr⟩ := hl
   unfold runD at h
   have hi : i ∈ Region.ready .any ops l := by rw [hr]; simp
   have hj : j ∈ Region.ready .any ops l := by rw [hr]; simp
   have hk' : k ∈ Region.ready .any ops l := by rw [hr]; simp
   refine ⟨fun h0 => (by rw [hr] at h0; cases h0), fun x hx => ?_⟩
   rw [hr] at hx
   rcases List.mem_cons.1 hx with rfl | hx
   · exact arm hT hm hag hc hmi hi (fun h0 => by subst h0; exact X8) (fun k hk => Zq (Zq (Zq (List.mem_append_left _ hk)))) rfl (fun hk hm' hag => Ye hT hQ hs p hk hlp (hc.set hi) hm' hq hag) h.a
   · rcases List.mem_cons.1 hx with rfl | hx
     · exact arm hT hm hag hc hmj hj (fun h0 => by subst h0; exact Zq X8) (fun k hk => Zq (Zq (Zq (List.mem_append_right _ (List.mem_append_left _ hk))))) hdep.symm (fun hk hm' hag => Ye hT hQ hs q hk hlq (hc.set hj) hm' hq hag) h.b.a
     · have hx := List.mem_singleton.1 hx
       subst hx
       exact arm hT hm hag hc hmk hk' (fun h0 => by subst h0; exact Zq (Zq X8)) (fun k hk => Zq (Zq (Zq (List.mem_append_right _ (List.mem_append_right _ hk))))) hdep2.symm (fun hk hm' hag => Ye hT hQ hs r hk hlr (hc.set hk') hm' hq hag) h.b.b
 | .join p, fr, O, nx, K, h, l, hl, hc, η, a, w, hm, hq, wc, hag => by
   unfold runD at h
   obtain ⟨fr', he, h⟩ := h.out
   have hm' : Models M η fr' O nx a w := ⟨hm.heap, hm.size, hm.nds, (by rw [he]; exact hm.defers), hm.ro, fun t sv ht => hm.frame t sv (by rw [← he]; exact ht)⟩
   exact Ye hT hQ hs p h hl hc hm' hq hag
theorem DRAWN.of {M : Mx} (hT : TabOK M.P M.C.T) (hP : M.P.follows .mixedOrders = true) {id : Nat} {ops : Array Oper} {fr : Fr} {O : Hps} {nx : Nat} {Q : Post} (steps : Plan) (hord : Z2T ops steps = true)
   (h : runD M ops.toList steps fr O nx fun fr O nx => Q .normal fr O nx) : DRAWN M id ops fr O nx Q := by
 simp only [Z2T, Bool.and_eq_true, beq_iff_eq] at hord
 obtain ⟨⟨hs, hlen⟩, hord⟩ := hord
 refine ⟨fun η a w hm => wpIn_region_any hP (Vh (S := SS (Zn steps) { w with drawn := w.drawn + 1 }) _ _ _ _ ?_)⟩
 have hm' : Models M η fr O nx a { w with drawn := w.drawn + 1 } := ⟨hm.heap.drawn (Nat.le_succ _), hm.size, hm.nds, hm.defers, hm.ro, hm.frame⟩
 have hc0 : Closed .any ops (Array.replicate ops.size false) := by
   refine ⟨by simp, fun j o hj hl => ?_⟩
   rcases Nat.lt_or_ge j ops.size with h' | h'
   · simp [h'] at hl
   · simp [h'] at hl
 have key := Ye (Q := Z2s M Q) hT (fun c a w hq => hq) hs steps h hord hc0 hm' (fun η fr O nx a w hm hq => ⟨η, fr, O, nx, hm, hq⟩) (agree.refl _)
 rw [hlen] at key
 exact key
end
section
variable {σ : Nat → Nat} {k : Nat}
theorem Jh (h : ∀ j, j < k → σ j = j) : ∀ {b : Blk}, YP k b = true → renB σ b = b
 | .glob g, _ => rfl
 | .loc i, hb => by simp only [YP, Nat.blt_eq] at hb; simp only [renB, h i hb]
mutual
theorem Z0k (h : ∀ j, j < k → σ j = j) : ∀ {v : SV}, Zx k v = true → ren σ v = v
 | .bool _, _ => rfl
 | .int _ _, _ => rfl
 | .str _, _ => rfl
 | .val _, _ => rfl
 | .any, _ => rfl
 | .nb _, _ => rfl
 | .dfs l, hb => by simp only [Zx] at hb; simp only [ren, YB h hb]
 | .yf b, hb => by simp only [Zx] at hb; simp only [ren, Jh h hb]
 | .mp b, hb => by simp only [Zx] at hb; simp only [ren, Jh h hb]
 | .ptr b _ _ _, hb => by simp only [Zx] at hb; simp only [ren, Jh h hb]
 | .sl b _ _ _ _, hb => by simp only [Zx] at hb; simp only [ren, Jh h hb]
 | .agg cs, hb => by simp only [Zx] at hb; simp only [ren, YB h hb]
 | .arr _ rs, hb => by simp only [Zx] at hb; simp only [ren, Uu h hb]
 | .tup vs, hb => by simp only [Zx] at hb; simp only [ren, YB h hb]
 | .ifc _ v, hb => by simp only [Zx] at hb; simp only [ren, Z0k h hb]
 | .fn _ a b, hb => by simp only [Zx, Bool.and_eq_true] at hb; simp only [ren, YB h hb.1, YB h hb.2]
theorem YB (h : ∀ j, j < k → σ j = j) : ∀ {vs : List SV}, Zr k vs = true → renL σ vs = vs
 | [], _ => rfl
 | c :: cs, hb => by simp only [Zr, Bool.and_eq_true] at hb; simp only [renL, Z0k h hb.1, YB h hb.2]
theorem Uu (h : ∀ j, j < k → σ j = j) : ∀ {vs : List (List SV)}, Zy k vs = true → ZG σ vs = vs
 | [], _ => rfl
 | c :: cs, hb => by simp only [Zy, Bool.and_eq_true] at hb; simp only [ZG, YB h hb.1, Uu h hb.2]
end
end
variable {M : Mx} {fr fr' : Fr} {O O' : Hps} {nx : Nat}
def hereO (O : Hps) : Hps → Prop
 | [] => True
 | (i, h) :: r => match lkp i O with
   | some g => g = h ∧ hereO O r
   | none => False
def hereS (C : Cx) (O : Hps) : Hps → Prop
 | [] => True
 | (i, h) :: r => match ZR C O (.loc i) with
   | some g => g = h ∧ hereS C O r
   | none => False
theorem hereO.at {O : Hps} : ∀ {Oc : Hps}, hereO O Oc → ∀ p ∈ Oc, lkp p.1 O = some p.2
 | [], _, p, hp => by cases hp
 | (i, h) :: r, hs, p, hp => by
   simp only [hereO] at hs
   split at hs
   · rename_i g hg
     obtain ⟨rfl, hs⟩ := hs
     rcases List.mem_cons.1 hp with rfl | hp
     · exact hg
     · exact hereO.at hs p hp
   · exact hs.elim
theorem hereS.at {C : Cx} {O : Hps} : ∀ {Sc : Hps}, hereS C O Sc → ∀ p ∈ Sc, ZR C O (.loc p.1) = some p.2
 | [], _, p, hp => by cases hp
 | (i, h) :: r, hs, p, hp => by
   simp only [hereS] at hs
   split at hs
   · rename_i g hg
     obtain ⟨rfl, hs⟩ := hs
     rcases List.mem_cons.1 hp with rfl | hp
     · exact hg
     · exact hereS.at hs p hp
   · exact hs.elim
theorem Ji {k : Nat} : ∀ {O : Hps}, Zi k O = true → ∀ p ∈ O, p.1 < k ∧ Zg k p.2 = true
 | [], _, p, hp => by cases hp
 | (i, h) :: r, hb, p, hp => by
   simp only [Zi, Bool.and_eq_true, Nat.blt_eq] at hb
   rcases List.mem_cons.1 hp with rfl | hp
   · exact ⟨hb.1, hb.2.1⟩
   · exact Ji hb.2.2 p hp
theorem Z0l : ∀ {S : Hps} {p : Nat × Hp}, p ∈ S → p.1 ∈ Zk S
 | [], p, hp => by cases hp
 | (i, h) :: S, p, hp => by
   rcases List.mem_cons.1 hp with rfl | hp
   · exact List.mem_cons_self ..
   · exact List.mem_cons_of_mem _ (Z0l hp)
def thereO (σ : Nat → Nat) (O : Hps) : Hps → Prop
 | [] => True
 | (i, h) :: r => match lkp (σ i) O with
   | some g => g = renH σ h ∧ thereO σ O r
   | none => False
def thereS (C : Cx) (σ : Nat → Nat) (O : Hps) : Hps → Prop
 | [] => True
 | (i, h) :: r => match ZR C O (.loc (σ i)) with
   | some g => g = renH σ h ∧ thereS C σ O r
   | none => False
theorem thereO.at {σ : Nat → Nat} {O : Hps} : ∀ {Oc : Hps}, thereO σ O Oc → ∀ p ∈ Oc, lkp (σ p.1) O = some (renH σ p.2)
 | [], _, p, hp => by cases hp
 | (i, h) :: r, hs, p, hp => by
   simp only [thereO] at hs
   split at hs
   · rename_i g hg
     obtain ⟨rfl, hs⟩ := hs
     rcases List.mem_cons.1 hp with rfl | hp
     · exact hg
     · exact thereO.at hs p hp
   · exact hs.elim
theorem thereS.at {C : Cx} {σ : Nat → Nat} {O : Hps} : ∀ {Sc : Hps}, thereS C σ O Sc → ∀ p ∈ Sc, ZR C O (.loc (σ p.1)) = some (renH σ p.2)
 | [], _, p, hp => by cases hp
 | (i, h) :: r, hs, p, hp => by
   simp only [thereS] at hs
   split at hs
   · rename_i g hg
     obtain ⟨rfl, hs⟩ := hs
     rcases List.mem_cons.1 hp with rfl | hp
     · exact hg
     · exact thereS.at hs p hp
   · exact hs.elim
theorem CALL.at {f : FuncId} {args argsc : List SV} {K : SV → Hps → Nat → Prop} {k : Nat} {Oc Sc : Hps} {Q : SV → Hps → Nat → Prop} (L : List Nat) (sp : Does M.P M.C.T f k argsc Oc Sc Q)
   (hL : L.length = k) (hLn : L.all (fun i => Nat.blt i nx) = true) (ha : args = renL (Zu L nx) argsc) (hb : Zr k argsc = true) (hbO : Zi k Oc = true) (hbS : Zi k Sc = true) (hO : thereO (Zu L nx) O Oc) (hS : thereS M.C (Zu L nx) O Sc)
   (hinj : (Zk Oc).all (fun j => (Zk Oc).all fun j' => !(Nat.beq (Zu L nx j) (Zu L nx j')) || Nat.beq j j') = true)
   (hd : (Zk Sc).all (fun j => !((Zk Oc).any fun j' => Nat.beq (Zu L nx j) (Zu L nx j'))) = true)
   (hK : ∀ r O' nx', Q r O' nx' → K (ren (Zu L nx) r) (renO (Zu L nx) O' ++ Yc ((Zk Oc).map (Zu L nx)) O) (nx + (nx' - k))) : CALL M f args O nx K := by
 refine CALL.of L sp hL (fun i hi => by have := List.all_eq_true.1 hLn i hi; simpa [Nat.blt_eq] using this) ha hb (fun p hp => ?_) (fun j hj j' hj' he => ?_) (fun p hp => ?_) hK
 · obtain ⟨h1, h2⟩ := Ji hbO p hp
   exact ⟨h1, hO.at p hp, h2⟩
 · have := List.all_eq_true.1 (List.all_eq_true.1 hinj j hj) j' hj'
   simp only [he, YC, Bool.not_true, Bool.false_or] at this
   exact Zj this
 · obtain ⟨h1, h2⟩ := Ji hbS p hp
   refine ⟨h1, hS.at p hp, h2, fun hm => ?_⟩
   obtain ⟨j', hj', he⟩ := List.mem_map.1 hm
   have := List.all_eq_true.1 hd _ (Z0l hp)
   simp only [Bool.not_eq_eq_eq_not, Bool.not_true] at this
   have h3 : (Zk Oc).any (fun j' => Nat.beq (Zu L nx p.1) (Zu L nx j')) = true := List.any_eq_true.2 ⟨j', hj', by rw [he]; exact YC _⟩
   rw [h3] at this; cases this
theorem FIN.at {k : Nat} {r : SV} {Q : SV → Hps → Nat → Prop} (hk : M.η0.length = k) (τ : List Nat) (rc : SV) (Oc : Hps) (hτ : τ.all (fun i => Nat.blt i nx) = true) (hr : r = ren (Y6 k τ) rc) (hb : Zx (k + τ.length) rc = true) (hbO : Zi (k + τ.length) Oc = true)
   (hO : thereO (Y6 k τ) O Oc) (hinj : (Zk Oc).all (fun j => (Zk Oc).all fun j' => !(Nat.beq (Y6 k τ j) (Y6 k τ j')) || Nat.beq j j') = true) (hQ : Q rc Oc (k + τ.length)) : FIN M O nx r Q := by
 refine FIN.keep hk τ (rc := rc) (Oc := Oc) (fun i hi => by have := List.all_eq_true.1 hτ i hi; simpa [Nat.blt_eq] using this) hr hb (fun p hp => ?_) (fun j hj j' hj' he => ?_) hQ
 · obtain ⟨h1, h2⟩ := Ji hbO p hp
   exact ⟨h1, hO.at p hp, h2⟩
 · have := List.all_eq_true.1 (List.all_eq_true.1 hinj j hj) j' hj'
   simp only [he, YC, Bool.not_true, Bool.false_or] at this
   exact Zj this
theorem CALL.weak {f : FuncId} {args : List SV} {K : SV → Hps → Nat → Prop} {O1 : Hps} {n1 : Nat} (h : ∀ η w, HeapOK M η w O nx → ∃ η', η <+: η' ∧ HeapOK M η' w O1 n1) (hc : CALL M f args O1 n1 K) : CALL M f args O nx K := by
 refine ⟨fun η w vs H hd => ?_⟩
 obtain ⟨η1, hp, H1⟩ := h η w H
 refine (hc.out η1 w vs H1 (DenL.mono hp hd)).mono ?_
 rintro v w' ⟨r, O', nx', η', h1, h2⟩
 exact ⟨r, O', nx', η', hp.trans h1, h2⟩
def J2 (nx es : Nat) : Nat → List SV → Option (List SV)
 | 0, .val (.slice none 0 0) :: r => some (.sl (.loc nx) 0 es 0 none :: r)
 | j + 1, c :: r => match J2 nx es j r with | some r => some (c :: r) | none => none
 | _, _ => none
theorem Uv {nx es : Nat} : ∀ {j : Nat} {row row' : List SV}, J2 nx es j row = some row' → ∀ (i : Nat) (sv : SV), row'[i]? = some sv → row[i]? = some sv ∨ (row[i]? = some (SV.val (.slice none 0 0)) ∧ sv = SV.sl (.loc nx) 0 es 0 none)
 | 0, [], _, h => by simp [J2] at h
 | 0, c :: r, row', h => by
   unfold J2 at h
   split at h
   · rename_i e1 e2
     injection e2 with e2 e3
     subst e2 e3
     injection h with h; subst h
     intro i sv hi
     cases i with
     | zero => simp at hi; subst hi; exact .inr ⟨rfl, rfl⟩
     | succ i => exact .inl (by simpa using hi)
   · simp_all
   · cases h
 | j + 1, [], _, h => by simp [J2] at h
 | j + 1, c :: r, row', h => by
   unfold J2 at h
   split at h
   · rename_i r1 hr
     injection h with h; subst h
     intro i sv hi
     cases i with
     | zero => left; simpa using hi
     | succ i =>
       have := Uv hr i sv (by simpa using hi)
       simpa using this
   · cases h
theorem HeapOK.nilCell {η : Env} {w : World} (H : HeapOK M η w O nx) {i j es : Nat} {row row' : List SV} (hi : lkp i O = some (.box row)) (hr : J2 nx es j row = some row') :
   ∃ η', η <+: η' ∧ HeapOK M η' w ((nx, .rows es []) :: setK i (.box row') O) (nx + 1) := by
 have hpre : η <+: η ++ [none] := List.prefix_append _ _
 have hnew : (η ++ [none])[nx]? = some none := by rw [List.getElem?_append_right (by rw [H.len]; omega), H.len]; simp
 have hold : ∀ {i h}, lkp i O = some h → (η ++ [none])[i]? = η[i]? := fun {i h} hi => by
   rw [List.getElem?_append_left (by rw [H.len]; exact H.lt hi)]
 have hin : ∀ {a h}, lkp a (setK i (.box row') O) = some h → ∃ h0, lkp a O = some h0 ∧ HpSat (η ++ [none]) w true (.loc a) h ∧ ∀ n, feet (η ++ [none]) w (.loc a) h n → feet η w (.loc a) h0 n := by
   intro a h ha
   rw [ZF _ _ _ _ (by rw [hi]; rfl)] at ha
   split at ha
   · rename_i e
     subst e
     injection ha with ha
     subst ha
     refine ⟨_, hi, ?_, fun n f => H.stands hpre hi (fun _ _ => rfl) (show feet (η ++ [none]) w (.loc _) (.box row) n from f)⟩
     have := (H.own.1 _ _ hi).1.mono hpre
     simp only [HpSat] at this ⊢
     obtain ⟨e, arr, T, fz, h1, h2, h3, h4⟩ := this
     refine ⟨e, arr, T, fz, h1, h2, h3, fun c sv hc => ?_⟩
     rcases Uv hr c sv hc with hc' | ⟨hc', rfl⟩
     · exact h4 c sv hc'
     · obtain ⟨v, h5, h6, h7⟩ := h4 c _ hc'
       refine ⟨v, h5, h6, ?_⟩
       simp only [Den] at h7 ⊢
       exact .inl ⟨hnew, h7.1, trivial⟩
   · exact ⟨h, ha, (H.own.1 _ _ ha).1.mono hpre, fun n f => H.stands hpre ha (fun _ _ => rfl) f⟩
 refine ⟨η ++ [none], hpre, H.pre.trans hpre, by simp [H.len], ⟨fun a h ha => ?_, fun a b h h' n ha hb hab f f' => ?_⟩, H.fr, H.sok⟩
 · rw [Zb] at ha
   split at ha
   · rename_i e; subst e; injection ha with ha; subst ha
     exact ⟨.inl ⟨hnew, rfl⟩, fun n f => (feet.none (b := .loc _) hnew f).elim⟩
   · obtain ⟨h0, h1, h2, h3⟩ := hin ha
     exact ⟨h2, fun n f => (H.own.1 a h0 h1).2 n (h3 n f)⟩
 · rw [Zb] at ha hb
   split at ha
   · rename_i e1; subst e1; exact (feet.none (b := .loc _) hnew f).elim
   · split at hb
     · rename_i e2; subst e2; exact (feet.none (b := .loc _) hnew f').elim
     · obtain ⟨h0, h1, _, h3⟩ := hin ha
       obtain ⟨h0', h1', _, h3'⟩ := hin hb
       exact H.own.2 a b h0 h0' n h1 h1' hab (h3 n f) (h3' n f')
theorem CALL.nilCell {f : FuncId} {args : List SV} {K : SV → Hps → Nat → Prop} (i j es : Nat) {row row' : List SV} (hi : lkp i O = some (.box row)) (hr : J2 nx es j row = some row') (hc : CALL M f args ((nx, .rows es []) :: setK i (.box row') O) (nx + 1) K) : CALL M f args O nx K :=
 CALL.weak (fun η w H => H.nilCell hi hr) hc
def Loose (k : Nat) : List SV → List SV → Prop
 | _, [] => True
 | [], _ :: _ => False
 | c :: cs, c' :: cs' => (c' = .any ∨ (c' = c ∧ Zx k c = true)) ∧ Loose k cs cs'
theorem Loose.get {k : Nat} : ∀ {row row' : List SV}, Loose k row row' → ∀ (j : Nat) (sv : SV), row'[j]? = some sv → ∃ c, row[j]? = some c ∧ (sv = .any ∨ (sv = c ∧ Zx k c = true))
 | _, [], _, j, sv, h => by simp at h
 | [], _ :: _, h, _, _, _ => h.elim
 | c :: cs, c' :: cs', h, 0, sv, hj => by simp at hj; subst hj; exact ⟨c, rfl, h.1⟩
 | c :: cs, c' :: cs', h, j + 1, sv, hj => by simp at hj; obtain ⟨d, h1, h2⟩ := Loose.get h.2 j sv hj; exact ⟨d, by simpa using h1, h2⟩
class PlF {α : Type} (f : α → List SV) : Prop where
 h : ∀ x, Y9 (f x) = true
class Pl (rs : List (List SV)) : Prop where
 h : Zw rs = true
class PlD (rs : List (List DC)) : Prop where
 h : Xw rs = true
instance {α : Type} {f : α → List SV} [p : PlF f] {l : List α} : Pl (l.map f) := ⟨Yt f p.h l⟩
instance : PlF bytesRow := ⟨fun _ => rfl⟩
theorem Zl {m i : Nat} {h : Hp} {O : Hps} (h1 : Nat.blt i m = true) (h2 : Zg m h = true) (h3 : Zi m O = true) : Zi m ((i, h) :: O) = true := by simp only [Zi, h1, h2, h3, Bool.and_self]
theorem Z32 {k : IntKind} {a b : Int} (h : a = b) : Hp.box [.int k a] = Hp.box [.int k b] := by rw [h]
theorem Z4m {b : Blk} {r es n n' : Nat} {lim : Option Nat} (h : n = n') : Hp.box [.sl b r es n lim] = Hp.box [.sl b r es n' lim] := by rw [h]
section
variable {m es : Nat} {σ τ : Nat → Nat} {rs : List (List SV)} {ds : List (List DC)} {mp : Bool}
theorem YQ [p : Pl rs] : Zg m (.rows es rs) = true := Y3 m (h := .rows es rs) p.h
theorem Z1E [p : Pl rs] : Zg m (.mp rs) = true := Y3 m (h := .mp rs) p.h
theorem WE [p : PlD ds] : Zg m (.deep mp es ds) = true := Y3 m (h := .deep mp es ds) p.h
theorem renR [p : Pl rs] : renH σ (.rows es rs) = .rows es rs := Zd σ (h := .rows es rs) p.h
theorem renM [p : Pl rs] : renH σ (.mp rs) = .mp rs := Zd σ (h := .mp rs) p.h
theorem renDp [p : PlD ds] : renH σ (.deep mp es ds) = .deep mp es ds := Zd σ (h := .deep mp es ds) p.h
theorem Z4L [p : Pl rs] : renH σ (.rows es rs) = renH τ (.rows es rs) := renR.trans renR.symm
theorem Z4M [p : Pl rs] : renH σ (.mp rs) = renH τ (.mp rs) := renM.trans renM.symm
theorem Z4N [p : PlD ds] : renH σ (.deep mp es ds) = renH τ (.deep mp es ds) := renDp.trans renDp.symm
end
section
variable {M : Mx} {fr fr' : Fr} {O O' : Hps} {nx : Nat}
theorem CALL.aA {f : FuncId} {args argsc : List SV} {K : SV → Hps → Nat → Prop} {k : Nat} {Oc Sc : Hps} {Q : SV → Hps → Nat → Prop} (L : List Nat) (sp : Does M.P M.C.T f k argsc Oc Sc Q)
   (hK : ∀ r O' nx', Q r O' nx' → K (ren (Zu L nx) r) (renO (Zu L nx) O' ++ Yc ((Zk Oc).map (Zu L nx)) O) (nx + (nx' - k)))
   (hL : L.length = k := by exact rfl) (hLn : L.all (fun i => Nat.blt i nx) = true := by exact rfl) (ha : args = renL (Zu L nx) argsc := by exact rfl) (hb : Zr k argsc = true := by exact rfl)
   (hbO : Zi k Oc = true := by (repeat' (first | (refine Zl rfl ?_ ?_) | exact YQ | exact Z1E | exact WE | rfl))) (hbS : Zi k Sc = true := by (repeat' (first | (refine Zl rfl ?_ ?_) | exact YQ | exact Z1E | exact WE | rfl))) (hO : thereO (Zu L nx) O Oc := by (repeat' (first | exact trivial | (with_reducible rfl) | exact renR.symm | exact Z4L | exact renM.symm | exact Z4M | exact renDp.symm | exact Z4N | (exact ZQ Pl.h (by simp [XO, List.take_of_length_le] <;> rfl)) | exact rfl | ((conv => whnf); refine ⟨?_, ?_⟩)))) (hS : thereS M.C (Zu L nx) O Sc := by (repeat' (first | exact trivial | (with_reducible rfl) | exact renR.symm | exact Z4L | exact renM.symm | exact Z4M | exact renDp.symm | exact Z4N | (exact ZQ Pl.h (by simp [XO, List.take_of_length_le] <;> rfl)) | exact rfl | ((conv => whnf); refine ⟨?_, ?_⟩))))
   (hinj : (Zk Oc).all (fun j => (Zk Oc).all fun j' => !(Nat.beq (Zu L nx j) (Zu L nx j')) || Nat.beq j j') = true := by exact rfl)
   (hd : (Zk Sc).all (fun j => !((Zk Oc).any fun j' => Nat.beq (Zu L nx j) (Zu L nx j'))) = true := by exact rfl) : CALL M f args O nx K :=
 CALL.at L sp hL hLn ha hb hbO hbS hO hS hinj hd hK
theorem FIN.aA {k : Nat} {r : SV} {Q : SV → Hps → Nat → Prop} (hk : M.η0.length = k) (τ : List Nat) (rc : SV) (Oc : Hps) (hQ : Q rc Oc (k + τ.length)) (hτ : τ.all (fun i => Nat.blt i nx) = true := by exact rfl) (hr : r = ren (Y6 k τ) rc := by exact rfl) (hb : Zx (k + τ.length) rc = true := by exact rfl) (hbO : Zi (k + τ.length) Oc = true := by (repeat' (first | (refine Zl rfl ?_ ?_) | exact YQ | exact Z1E | exact WE | rfl)))
   (hO : thereO (Y6 k τ) O Oc := by (repeat' (first | exact trivial | (with_reducible rfl) | exact renR.symm | exact Z4L | exact renM.symm | exact Z4M | exact renDp.symm | exact Z4N | (exact ZQ Pl.h (by simp [XO, List.take_of_length_le] <;> rfl)) | exact rfl | ((conv => whnf); refine ⟨?_, ?_⟩)))) (hinj : (Zk Oc).all (fun j => (Zk Oc).all fun j' => !(Nat.beq (Y6 k τ j) (Y6 k τ j')) || Nat.beq j j') = true := by exact rfl) : FIN M O nx r Q :=
 FIN.at hk τ rc Oc hτ hr hb hbO hO hinj hQ
theorem GOES.cA {k m : Nat} (hk : M.η0.length = k) (hkm : Nat.ble k m = true := by exact rfl) (hmn : Nat.ble m nx = true := by exact rfl) (hbf : J1 m fr' = true := by exact rfl) (hbo : Zi m O' = true := by (repeat' (first | (refine Zl rfl ?_ ?_) | exact YQ | exact Z1E | exact WE | rfl)))
   (hf : cutK fr fr' := by (repeat' (first | (with_reducible rfl) | exact trivial | (exact ZY rfl (by first | omega | (simp (disch := omega) only [lnB, Zc, Zm] <;> omega) | (simp; done) | (simp <;> omega))) | (exact congrArg (SV.int _) (by first | omega | (simp (disch := omega) only [lnB, Zc, Zm] <;> omega) | (simp; done) | (simp <;> omega))) | (exact Z32 (by first | omega | (simp (disch := omega) only [lnB, Zc, Zm] <;> omega) | (simp; done) | (simp <;> omega))) | (exact Z4m (by first | omega | (simp (disch := omega) only [lnB, Zc, Zm] <;> omega) | (simp; done) | (simp <;> omega))) | exact renR | exact renM | exact renDp | (with_reducible assumption) | (exact congrArg (Hp.rows _) (by simp [List.take_of_length_le] <;> rfl)) | ((conv => whnf); refine ⟨?_, ?_⟩) | (simp; done) | rfl))) (hO : Z2X O O' := by (repeat' (first | (with_reducible rfl) | exact trivial | (exact ZY rfl (by first | omega | (simp (disch := omega) only [lnB, Zc, Zm] <;> omega) | (simp; done) | (simp <;> omega))) | (exact congrArg (SV.int _) (by first | omega | (simp (disch := omega) only [lnB, Zc, Zm] <;> omega) | (simp; done) | (simp <;> omega))) | (exact Z32 (by first | omega | (simp (disch := omega) only [lnB, Zc, Zm] <;> omega) | (simp; done) | (simp <;> omega))) | (exact Z4m (by first | omega | (simp (disch := omega) only [lnB, Zc, Zm] <;> omega) | (simp; done) | (simp <;> omega))) | exact renR | exact renM | exact renDp | (with_reducible assumption) | (exact congrArg (Hp.rows _) (by simp [List.take_of_length_le] <;> rfl)) | ((conv => whnf); refine ⟨?_, ?_⟩) | (simp; done) | rfl))) (hd : Ug fr fr' = true := by exact rfl) (hro : Uh M.C.ro id m = true := by exact rfl) : GOES M fr O nx fr' O' m := GOES.cutting hk hkm hmn hbf hbo hf hO hd hro
end
theorem AU {P Q : Prop} (k : Q) (h : Q → P := by first | (with_reducible exact IF.tt) | (with_reducible exact IF.ff) | (with_reducible exact GET.at rfl) | (with_reducible exact GETG.at rfl) | ((with_reducible refine fun k => NEED.mk ?_ k); first | with_reducible rfl | omega | (simp (disch := omega) only [lnB, Zc, Zm] <;> omega) | (intro h; (try simp (disch := omega) only [hsB, hsC, lnB, Zc, Zm, simprocAttr] at h); (first | omega | (simp (disch := omega) only [lnB, Zc, Zm] <;> omega))) | (exact Yq 256 rfl rfl (by simp) (by simp) (by omega)) | (exact ⟨by omega, Z1D (by omega)⟩) | (exact ⟨by omega, by omega, Z1D (by omega)⟩) | (simp <;> omega))) : P := h k
theorem IW {J : Type} {b : Bool} {A B : J → Prop} {j : J} {p q : Prop} (x : p → A j) (y : q → B j)
   (hp : b = true → p := by (intro h; first | (simp (disch := omega) only [hsB, hsC, lnB, Zc, Zm, simprocAttr] at h; exact h) | (exact (show (0 : Nat) = 1 by simp (disch := omega) only [hsB, hsC, lnB, Zc, Zm, simprocAttr] at h)) | exact h))
   (hq : b = false → q := by (intro h; first | (simp (disch := omega) only [hsB, hsC, lnB, Zc, Zm, simprocAttr] at h; exact h) | (exact (show (0 : Nat) = 1 by simp (disch := omega) only [hsB, hsC, lnB, Zc, Zm, simprocAttr] at h)) | exact h)) : IF b A B j := ⟨fun h => x (hp h), fun h => y (hq h)⟩
theorem Z13 {b : Blk} {r es len : Nat} {lim : Option Nat} (h : 0 < len) : Det (.sl b r es len lim) := by
 intro η u u' h1 h2
 simp only [Den] at h1 h2
 rcases h1 with ⟨_, _, h0⟩ | ⟨e, o, g1, rfl, g3, g4, g5⟩
 · omega
 rcases h2 with ⟨_, _, h0⟩ | ⟨e', o', k1, rfl, k3, k4, k5⟩
 · omega
 rw [g1] at k1
 injection k1 with k1
 injection k1 with k1
 subst k1
 rw [g5 (.inl (by omega)), k5 (.inl (by omega))]
theorem AD {P Q : Prop} (k : Q) (h : Q → P := by first | exact fun k => NEED.mk (Det.of rfl) k | exact fun k => NEED.mk (Z13 (by omega)) k) : P := h k
def Mx.at (M : Mx) (N : Nat) (ro : Option (Nat × Nat)) (η : Env) : Mx := ⟨M.P, ⟨M.C.T, N, M.C.S, ro⟩, M.w0, M.F, η⟩
def endI (M : Mx) (res : List ResultVar) (K : SV → Hps → Nat → Prop) : Post
 | .normal, fr, O, nx => Ww fr O fun O => Vs M.C fr O res fun vs => K (Wv vs) O nx
 | .ret, fr, O, nx => Ww fr O fun O => Vs M.C fr O res fun vs => K (Wv vs) O nx
 | .exit _, _, _, _ => STOP "exit"
def Z3f : List Nat → List SV → Fr → (Fr → Prop) → Prop
 | [], ags, fr, K => match ags with
   | [] => match Z0X (lkp DS fr) with
     | true => STOP "round"
     | false => K fr
   | _ :: _ => STOP "round"
 | p :: ps, ags, fr, K => match ags with
   | a :: ags => Z3f ps ags ((p, a) :: fr) K
   | [] => STOP "round"
def Z3g (j : Nat) (K : SV → Hps → Nat → Prop) : Post := fun e fr O nx => match lkp j O with
 | some h => match h with
   | .lp st li fr0 => match st with
     | .busy => match e with
       | .normal => UI j (.lp .ready li fr0) O fun O => K (.bool true) O nx
       | .ret => UI j (.lp (.left none) li fr0) O fun O => K (.bool false) O nx
       | .exit id => UI j (.lp (.left (some id)) li fr0) O fun O => K (.bool false) O nx
     | _ => STOP "record"
   | _ => STOP "record"
 | none => STOP "record"
def Z4q (M : Mx) (j : Nat) (body : Code) (K : SV → Hps → Nat → Prop) : Post := fun e fr O nx => match e with
 | .normal => match lkp j O with
   | some h => match h with
     | .lp st li fr0 => match st with
       | .ready => UI j (.lp .busy li fr0) O fun O => run M body fr O nx (Z3g j K)
       | _ => STOP "record"
     | _ => STOP "record"
   | none => STOP "record"
 | _ => STOP "assignment"
def noDS : Fr → (Fr → Prop) → Prop
 | [], K => K []
 | (t, v) :: r, K => match Nat.beq t DS with
   | true => noDS r K
   | false => noDS r fun r => K ((t, v) :: r)
def Z3W (fr : Fr) (d : Nat) (K : Fr → Prop) : Prop := match lkp DS fr with
 | some v => match v with
   | .dfs l => K ((DS, .dfs (.ptr (.loc d) 0 0 0 :: l)) :: fr)
   | _ => K ((DS, .dfs [.ptr (.loc d) 0 0 0]) :: fr)
 | none => K ((DS, .dfs [.ptr (.loc d) 0 0 0]) :: fr)
def Z3h (j : Nat) (frK : (Fr → Prop) → Prop) (Q : Post) : SV → Hps → Nat → Prop := fun _ O nx => match lkp j O with
 | some h => match h with
   | .lp st _ _ => match st with
     | .ready => VG j O fun O => frK fun fr => Q .normal fr O nx
     | .busy => STOP "record"
     | .left jump => match jump with
       | none => VG j O fun O => frK fun fr => Q .ret fr O nx
       | some id => VG j O fun O => frK fun fr => Q (.exit id) fr O nx
   | _ => STOP "record"
 | none => STOP "record"
section
variable {M : Mx} {η : Env} {w : World} {O : Hps} {nx : Nat}
theorem SOK.longer (h : SOK M) {η : Env} (hp : M.η0 <+: η) {N : Nat} {ro : Option (Nat × Nat)} : SOK (M.at N ro η) := by
 intro b hh hb
 have hb' : lkS M.C b = some hh := by cases b <;> exact hb
 obtain ⟨h1, h2⟩ := h b hh hb'
 obtain ⟨x, hx, _⟩ := h1.lt
 exact ⟨h1.mono hp, fun k f => h2 k (feet.less hp hx f)⟩
theorem HeapOK.at (H : HeapOK M η w O nx) {N : Nat} {ro : Option (Nat × Nat)} : HeapOK (M.at N ro η) η w O nx := ⟨List.prefix_rfl, H.len, H.own, H.fr, H.sok.longer H.pre⟩
theorem HeapOK.back {η0 : Env} {N : Nat} {ro : Option (Nat × Nat)} (H : HeapOK (M.at N ro η0) η w O nx) (hp : M.η0 <+: η0) (hs : SOK M) : HeapOK M η w O nx := ⟨hp.trans H.pre, H.len, H.own, H.fr, hs⟩
theorem Z0x (hT : TabOK M.P M.C.T) {g : FuncId} {fn : Func} {c : Code} (hf : M.P.funcs[g]? = some fn) (hb : fn.body = some c) (N : Nat) (hN : fn.ntmps = N) (hND : N ≤ DS) {args : List SV} (hlen : args.length ≤ N) {res : List ResultVar} (hres : fn.results = res.toArray)
   {K : SV → Hps → Nat → Prop} {vs : List Value} (H : HeapOK M η w O nx) (hd : DenL η args vs) (h : run (M.at N none η) c (Jk 0 args) O nx (endI (M.at N none η) res K))
   {R : Ending → World → Prop} (hR : ∀ v r w' O' nx' η', η <+: η' → HeapOK M η' w' O' nx' → Den η' r v → K r O' nx' → R (.returned v) w') : Calls M.P g ⟨vs⟩ w R := by
 have hl := Zv hd
 refine callsIn_wide (n := 0) |>.1 (callsIn_of_wp_marks hf hb trivial ?_)
 have hm : Models (M.at N none η) η (Jk 0 args) O nx { tmps := ⟨vs⟩ ++ Array.replicate (fn.ntmps - (Array.mk vs).size) undef, defers := [] } w := by
   refine ⟨H.at, ?_, hND, Z1x (Nat.le_trans hlen hND), (fun l j h => by cases h), ?_⟩
   · simp only [Array.size_append, Array.size_replicate, hN, List.size_toArray]
     show vs.length + (N - vs.length) = N
     omega
   · intro t sv ht
     obtain ⟨v, _, h1, h2⟩ := Wx hd ht
     have hlt := (List.getElem?_eq_some_iff.1 h1).1
     simp only [Nat.sub_zero] at h1 hlt
     rw [Array.getD_eq_getD_getElem?, Array.getElem?_append_left (by simpa using hlt)]
     have : (Array.mk vs)[t]? = some v := by simpa using h1
     rw [this]; exact h2
 refine Code.wpIn_mono ?_ (ZD (M := M.at N none η) hT c h η _ w hm)
 have fin : ∀ {η1 : Env} {fr1 : Fr} {O1 : Hps} {nx1 : Nat} {a : Act} {w1 : World}, Models (M.at N none η) η1 fr1 O1 nx1 a w1 → (Ww fr1 O1 fun O1 => Vs (M.at N none η).C fr1 O1 res fun vs => K (Wv vs) O1 nx1) →
     LeavesInM Fence.wide 0 M.P fn a.tmps R a.defers .returning w1 := by
   intro η1 fr1 O1 nx1 a w1 hm1 hr
   exact Z0c (M := M.at N none η) hT hres hm1 hr fun w2 O2 v r H2 hd2 hk => hR v r w2 O2 nx1 η1 H2.pre (H2.back H.pre H.sok) hd2 hk
 intro e a w hq
 cases e with
 | normal => obtain ⟨η1, fr1, O1, nx1, hm1, hq⟩ := hq; exact fin hm1 hq
 | ret => obtain ⟨η1, fr1, O1, nx1, hm1, hq⟩ := hq; exact fin hm1 hq
 | exit id => obtain ⟨η1, fr1, O1, nx1, hm1, hq⟩ := hq; exact hq.out.elim
 | goto l => exact hq.elim
 | panic ch => exact hq.elim
 | outgrown => exact hq.elim
def Xt : List Nat → List Value → Array Value → Array Value
 | p :: ps, v :: vs, t => Xt ps vs (t.setIfInBounds p v)
 | _, _, t => t
theorem Z0y : ∀ (ps : List Nat) (vs : List Value) (t : Array Value), ((ps.toArray.zip ⟨vs⟩).foldl (fun tmps (p : Nat × Value) => tmps.setIfInBounds p.1 p.2) t) = Xt ps vs t := by
 intro ps vs t
 have h1 : (ps.toArray.zip ⟨vs⟩ : Array (Nat × Value)) = (ps.zip vs).toArray := by simp
 rw [h1, ← Array.foldl_toList]
 simp only
 induction ps generalizing vs t with
 | nil => simp [Xt]
 | cons p ps ih =>
   cases vs with
   | nil => simp [Xt]
   | cons v vs =>
     simp only [List.zip_cons_cons, List.foldl_cons, Xt]
     exact ih vs (t.setIfInBounds p v) (by simp)
theorem UE : ∀ (ps : List Nat) (vs : List Value) (t : Array Value), (Xt ps vs t).size = t.size
 | [], vs, t => by simp [Xt]
 | p :: ps, [], t => by simp [Xt]
 | p :: ps, v :: vs, t => by simp only [Xt]; rw [UE ps vs]; simp
theorem Z1K {η : Env} : ∀ {ps : List Nat} {ags : List SV} {fr : Fr} {K : Fr → Prop} {vs : List Value} {t : Array Value}, Z3f ps ags fr K → DenL η ags vs → TmpsOK η t fr → (∀ p ∈ ps, p < t.size) → ∃ fr', K fr' ∧ Z0X (lkp DS fr') = false ∧ TmpsOK η (Xt ps vs t) fr' ∧ vs.length = ps.length
 | [], ags, fr, K, vs, t, h, hd, ht, hp => by
   simp only [Z3f] at h
   split at h
   · split at h
     · exact h.out.elim
     · rename_i hn
       simp only [DenL] at hd
       subst hd
       exact ⟨fr, h, hn, ht, rfl⟩
   · exact h.out.elim
 | p :: ps, ags, fr, K, vs, t, h, hd, ht, hp => by
   simp only [Z3f] at h
   split at h
   · rename_i a ags
     simp only [DenL] at hd
     obtain ⟨u, us, rfl, h1, h2⟩ := hd
     have hpt := hp p (List.mem_cons_self ..)
     obtain ⟨fr', h3, h4, h5, h6⟩ := Z1K (t := t.setIfInBounds p u) h h2 (fun s sv hs => by
       rw [Zb] at hs
       split at hs
       · rename_i e; subst e; injection hs with hs; subst hs
         simpa [Array.getD_eq_getD_getElem?, Array.getElem?_setIfInBounds, hpt] using h1
       · rename_i e
         rw [Array.getD_eq_getD_getElem?, Array.getElem?_setIfInBounds, if_neg (Ne.symm e), ← Array.getD_eq_getD_getElem?]
         exact ht s sv hs) (fun q hq => by rw [Array.size_setIfInBounds]; exact hp q (List.mem_cons_of_mem _ hq))
     exact ⟨fr', h3, h4, h5, by simp [h6]⟩
   · exact h.out.elim
theorem HeapOK.record (H : HeapOK M η w O nx) {j : Nat} {st st' : LpS} {li : LpI} {fr0 : Fr} (hj : lkp j O = some (.lp st li fr0)) {e : Ent} (he : η[j]? = some (some e)) :
   ∃ r, w.heap[e.g]? = some (.loop r) ∧ r.state = st.state ∧ r.pending = st.jump ∧ ∀ r' : Loop, r'.state = st'.state → r'.pending = st'.jump → r'.params = r.params → r'.assign = r.assign → r'.body = r.body → r'.tmps = r.tmps → HeapOK M η (w.putObj e.g (.loop r')) (setK j (.lp st' li fr0) O) nx := by
 have hs := (H.own.1 j _ hj).1
 simp only [HpSat] at hs
 obtain ⟨e', r, h1, h2, h3, h4, h5, h6, h7, h8, h9, h10⟩ := hs
 have h1' : η[j]? = some (some e') := h1
 rw [he] at h1'
 injection h1' with h1'
 injection h1' with h1'
 subst h1'
 have hlt := (Array.getElem?_eq_some_iff.1 h3).1
 refine ⟨r, h3, h4, h5, fun r' q1 q2 q3 q4 q5 q6 => ?_⟩
 refine H.upd hj he (fun k hk => World.putObj_heap_other hk) World.putObj_size rfl rfl rfl ?_
 simp only [HpSat]
 exact ⟨e, r', h1, h2, World.putObj_heap_same hlt, q1, q2, by rw [q3]; exact h6, by rw [q4]; exact h7, by rw [q5]; exact h8, by rw [q6]; exact h9, by rw [q6]; exact h10⟩
theorem YIELD.of (hT : TabOK M.P M.C.T) {j : Nat} {li : LpI} {fr0 : Fr} {args : List SV} {K : SV → Hps → Nat → Prop} (hj : lkp j O = some (.lp .ready li fr0)) (hps : li.ps.all (fun p => Nat.blt p li.N) = true) (hND : Nat.ble li.N DS = true)
   (h : ∀ (η1 : Env) (l : Nat), η1.length = nx → Z3f li.ps args fr0 fun fr => run (M.at li.N (some (l, j)) η1) li.asg fr O nx (Z4q (M.at li.N (some (l, j)) η1) j li.body K)) : YIELD M j args O nx K := by
 refine ⟨fun η w vs e H hd he => ?_⟩
 obtain ⟨r, hr, hst, hpe, _⟩ := H.record (st' := .ready) hj he
 have hs := (H.own.1 j _ hj).1
 simp only [HpSat] at hs
 obtain ⟨e', r', h1, h2, h3, h4, h5, h6, h7, h8, h9, h10⟩ := hs
 have h1' : η[j]? = some (some e') := h1
 rw [he] at h1'
 injection h1' with h1'
 injection h1' with h1'
 subst h1'
 rw [hr] at h3
 injection h3 with h3
 injection h3 with h3
 subst h3
 obtain ⟨fr, hrun, hnd, htm, hlen⟩ := Z1K (h η e.g H.len) hd h10 (fun p hp => by rw [h9]; simpa [Nat.blt_eq] using List.all_eq_true.1 hps p hp)
 have hpr : r.params = li.ps.toArray := by rw [← h6]
 refine ⟨r.fn, _, r.assign, r.body, run_yield hr (by rw [hpr]; simpa using hlen), ?_⟩
 rw [h7, h8]
 have hfold : ((r.params.zip ⟨vs⟩).foldl (fun tmps (x : Nat × Value) => tmps.setIfInBounds x.1 x.2) r.tmps) = Xt li.ps vs r.tmps := by rw [hpr]; exact Z0y li.ps vs r.tmps
 have hfold' : ((r.params.zip ⟨vs⟩).foldl (fun tmps x => match x with | (t, a) => tmps.setIfInBounds t a) r.tmps) = Xt li.ps vs r.tmps := hfold
 rw [hfold']
 generalize hMr : M.at li.N (some (e.g, j)) η = Mr at hrun
 have hTr : TabOK Mr.P Mr.C.T := by subst hMr; exact hT
 have hPr : Mr.P = M.P := by subst hMr; rfl
 have hfr : Mr.fence = Fence.wide.inRound e.g := by subst hMr; rfl
 have hm : Models Mr η fr O nx { tmps := Xt li.ps vs r.tmps, defers := [] } w := by
   subst hMr
   refine ⟨H.at, by rw [UE]; exact h9, Nat.le_of_ble_eq_true hND, (DfOK.no hnd).2 rfl, fun l' j' hl => ?_, htm⟩
   injection hl with hl
   injection hl with hl1 hl2
   subst hl1 hl2
   exact ⟨e, he, rfl⟩
 refine roundIn_of_wpIn trivial ?_
 rw [← hPr, ← hfr]
 refine Code.wpIn_mono ?_ (ZD hTr li.asg hrun η _ w hm)
 intro ex a1 w1 hq
 cases ex with
 | exit id => obtain ⟨η1, fr1, O1, nx1, hm1, hq⟩ := hq; exact hq.out.elim
 | ret => obtain ⟨η1, fr1, O1, nx1, hm1, hq⟩ := hq; exact hq.out.elim
 | goto l => exact hq.elim
 | panic ch => exact hq.elim
 | outgrown => exact hq.elim
 | normal =>
   obtain ⟨η1, fr1, O1, nx1, hm1, hq⟩ := hq
   simp only [Z4q] at hq
   split at hq
   case h_2 => exact hq.out.elim
   rename_i hh hj1
   split at hq
   case h_2 => exact hq.out.elim
   rename_i st1 li1 fr01
   split at hq
   case h_2 => exact hq.out.elim
   rw [YF] at hq
   obtain ⟨e1, he1, heg⟩ := hm1.ro e.g j (by subst hMr; rfl)
   obtain ⟨r1, hr1, hs1, hp1, hup1⟩ := hm1.heap.record (st' := .busy) hj1 he1
   rw [heg] at hr1 hup1
   refine ⟨_, run_beginRound hr1 hs1, ?_⟩
   have hm2 : Models Mr η1 fr1 (setK j (.lp .busy li1 fr01) O1) nx1 a1 (w1.putObj e.g (.loop { r1 with state := .busy })) := ⟨hup1 _ rfl hp1 rfl rfl rfl rfl, hm1.size, hm1.nds, hm1.defers, hm1.ro, hm1.frame⟩
   refine Code.wpIn_mono ?_ (ZD hTr li.body hq η1 a1 _ hm2)
   have fin : ∀ {ex : Ex} {η2 : Env} {fr2 : Fr} {O2 : Hps} {nx2 : Nat} {a2 : Act} {w2 : World} (jump : Option Code), Models Mr η2 fr2 O2 nx2 a2 w2 → Z3g j K ex fr2 O2 nx2 → (match ex with | .normal => jump = none | .ret => jump = some .ret | .exit id => jump = some (.exit id)) →
       ∃ v w', (Instr.endRound e.g jump).run Mr.P w2 = .ok v w' ∧ ∃ v', Ending.returned v = .returned v' ∧ ∃ r O' nx' η', η <+: η' ∧ HeapOK M η' w' O' nx' ∧ Den η' r v' ∧ K r O' nx' := by
     intro ex η2 fr2 O2 nx2 a2 w2 jump hm2 hq hj'
     unfold Z3g at hq
     split at hq
     case h_2 => exact hq.out.elim
     rename_i hh hj2
     split at hq
     case h_2 => exact hq.out.elim
     rename_i st2 li2 fr02
     split at hq
     case h_2 => exact hq.out.elim
     obtain ⟨e2, he2, heg2⟩ := hm2.ro e.g j (by subst hMr; rfl)
     have hpre : η <+: η2 := by have := hm2.heap.pre; subst hMr; exact this
     have back : ∀ {w' : World} {O' : Hps}, HeapOK Mr η2 w' O' nx2 → HeapOK M η2 w' O' nx2 := fun h => by subst hMr; exact h.back H.pre H.sok
     cases ex with
     | normal =>
       simp only at hj'
       subst hj'
       simp only [YF] at hq
       obtain ⟨r2, hr2, hs2, hp2, hup2⟩ := hm2.heap.record (st' := .ready) hj2 he2
       rw [heg2] at hr2 hup2
       exact ⟨_, _, run_endRound none hr2, _, rfl, .bool true, _, _, η2, hpre, back (hup2 _ rfl rfl rfl rfl rfl rfl), (by simp only [Den]; rfl), hq⟩
     | ret =>
       simp only at hj'
       subst hj'
       simp only [YF] at hq
       obtain ⟨r2, hr2, hs2, hp2, hup2⟩ := hm2.heap.record (st' := .left none) hj2 he2
       rw [heg2] at hr2 hup2
       exact ⟨_, _, run_endRound (some .ret) hr2, _, rfl, .bool false, _, _, η2, hpre, back (hup2 _ rfl rfl rfl rfl rfl rfl), (by simp only [Den]; rfl), hq⟩
     | exit id =>
       simp only at hj'
       subst hj'
       simp only [YF] at hq
       obtain ⟨r2, hr2, hs2, hp2, hup2⟩ := hm2.heap.record (st' := .left (some id)) hj2 he2
       rw [heg2] at hr2 hup2
       exact ⟨_, _, run_endRound (some (.exit id)) hr2, _, rfl, .bool false, _, _, η2, hpre, back (hup2 _ rfl rfl rfl rfl rfl rfl), (by simp only [Den]; rfl), hq⟩
   intro ex a2 w2 hq2
   cases ex with
   | normal => obtain ⟨η2, fr2, O2, nx2, hm2, hq2⟩ := hq2; exact fin none hm2 hq2 rfl
   | ret => obtain ⟨η2, fr2, O2, nx2, hm2, hq2⟩ := hq2; exact fin (some .ret) hm2 hq2 rfl
   | exit id => obtain ⟨η2, fr2, O2, nx2, hm2, hq2⟩ := hq2; exact fin (some (.exit id)) hm2 hq2 rfl
   | goto l => exact hq2.elim
   | panic ch => exact hq2.elim
   | outgrown => exact hq2.elim
theorem Z1d {K : Fr → Prop} : ∀ {fr : Fr}, noDS fr K → ∃ fr0, K fr0 ∧ lkp DS fr0 = none ∧ ∀ t v, lkp t fr0 = some v → lkp t fr = some v
 | [], h => ⟨[], h, rfl, fun t v h => h⟩
 | (d, u) :: r, h => by
   unfold noDS at h
   split at h
   · rename_i e
     have e := Zj e
     obtain ⟨fr0, h1, h0, h2⟩ := Z1d h
     refine ⟨fr0, h1, h0, fun t v ht => ?_⟩
     rw [Zb]
     split
     · rename_i e2
       rw [e2, e, h0] at ht; cases ht
     · exact h2 t v ht
   · rename_i e
     have e := YG e
     obtain ⟨fr0, h1, h0, h2⟩ := Z1d h
     refine ⟨(d, u) :: fr0, h1, by rw [Zb, if_neg (Ne.symm e)]; exact h0, fun t v ht => ?_⟩
     rw [Zb] at ht ⊢
     split
     · rename_i e; rw [if_pos e] at ht; exact ht
     · rename_i e; rw [if_neg e] at ht; exact h2 t v ht
theorem Z2e (hT : TabOK M.P M.C.T) {gf g : FuncId} {fn : Func} {c : Code} {cap : List SV} (hcall : ∀ args w, (callFunc gf args).run M.P w = .ok (.enter g args) w) (hf : M.P.funcs[g]? = some fn) (hb : fn.body = some c) (N : Nat) (hN : fn.ntmps = N) (hND : N ≤ DS) (hlen : cap.length + 1 ≤ N) (hres : fn.results = #[])
   {f : Operand} {Q : Post} {a a' : Act} {η1 : Env} {w1 : World} {O1 : Hps} {n1 j l : Nat} (hev : ∃ vs, a.eval f = .func (.func gf) #[] ⟨vs⟩ ∧ DenL η1 cap vs) (H1 : HeapOK M η1 w1 O1 n1) (hj : η1[j]? = some (some ⟨l, 0, 0⟩)) {frK : (Fr → Prop) → Prop}
   (hfrK : ∀ {K : Fr → Prop}, frK K → ∃ fr', K fr' ∧ ∀ η' w' O' nx', η1 <+: η' → HeapOK M η' w' O' nx' → Models M η' fr' O' nx' a' w')
   (h : run (M.at N none η1) c (Jk 0 (.yf (.loc j) :: cap)) O1 n1 (endI (M.at N none η1) [] (Z3h j frK Q))) :
   ∃ (d : Deferred) (w1' : World) (f' : FuncId) (args : Array Value) (w2 : World), (resolve a.eval (rangeCall f l) 0).run M.P w1 = .ok d w1' ∧ (∀ f', Target.leads M.P w1' d.target d.args = some f' → M.fence.fn f') ∧ (invoke d.target d.args).run M.P w1' = .ok (.enter f' args) w2 ∧
     (M.fence.depth.isSome = true → 1 ≤ 0) ∧ CallsIn M.fence (0 - 1) M.P f' args w2 (rangePost M.fence 0 M.P l (Z2s M Q) a') := by
 obtain ⟨vs, hv, hd⟩ := hev
 refine ⟨{ target := .fn (.func gf) ⟨vs⟩, args := #[.func (.yield l) #[] #[]] }, w1, g, #[.func (.yield l) #[] #[]] ++ ⟨vs⟩, w1, ?_, fun f' _ => M.all f', ?_, (fun h => by cases h), ?_⟩
 · simp only [resolve, hv]
   simp [go_sem]
 · simp [invoke, go_sem, hcall]
 · have hargs : (#[.func (.yield l) #[] #[]] ++ (⟨vs⟩ : Array Value)) = ⟨Value.func (.yield l) #[] #[] :: vs⟩ := by apply Array.ext'; simp
   rw [hargs]
   have hd1 : DenL η1 (.yf (.loc j) :: cap) (Value.func (.yield l) #[] #[] :: vs) := by
     simp only [DenL, Den]
     exact ⟨_, _, rfl, ⟨_, hj, rfl⟩, hd⟩
   refine callsIn_wide.2 (Z0x hT hf hb N hN hND (by simpa using hlen) (by simpa using hres) H1 hd1 h fun v r w' O' nx' η' hp H' hd' hk => ?_)
   unfold Z3h at hk
   split at hk
   case h_2 => exact hk.out.elim
   rename_i hh hj'
   split at hk
   case h_2 => exact hk.out.elim
   rename_i st li fr0
   have hje : η'[j]? = some (some ⟨l, 0, 0⟩) := Env.get_mono (b := .loc j) hp hj
   obtain ⟨r1, hr1, hs1, hp1, _⟩ := H'.record (st' := .ready) hj' hje
   obtain ⟨s1, p1, c1, c2, c3, c4, c5, c6⟩ := r1
   simp only at hr1 hs1 hp1
   subst hs1 hp1
   have hdrop : HeapOK M η' (w'.putObj l (.loop { state := .exhausted, pending := st.jump, fn := c1, tmps := c2, params := c3, assign := c4, body := c5, defers := c6 })) (delK j O') nx' := H'.drop hj' hje (fun k hk => World.putObj_heap_other (by rintro rfl; exact hk (feet.own (b := .loc j) hje))) World.putObj_size rfl rfl rfl (Nat.le_refl _)
   split at hk
   · rw [Yj] at hk
     obtain ⟨fr', h1, h2⟩ := hfrK hk
     exact ⟨_, _, run_endLoop hr1 (by simp [LpS.state]), ⟨η', fr', _, nx', h2 η' _ _ _ hp hdrop, h1⟩⟩
   · exact hk.out.elim
   · split at hk
     · rw [Yj] at hk
       obtain ⟨fr', h1, h2⟩ := hfrK hk
       exact ⟨_, _, run_endLoop hr1 (by simp [LpS.state]), wpIn_ret ⟨η', fr', _, nx', h2 η' _ _ _ hp hdrop, h1⟩⟩
     · rw [Yj] at hk
       obtain ⟨fr', h1, h2⟩ := hfrK hk
       exact ⟨_, _, run_endLoop hr1 (by simp [LpS.state]), wpIn_exit ⟨η', fr', _, nx', h2 η' _ _ _ hp hdrop, h1⟩⟩
theorem Z3X {fr : Fr} {d : Nat} {K : Fr → Prop} (h : Z3W fr d K) : ∃ l, K ((DS, .dfs (.ptr (.loc d) 0 0 0 :: l)) :: fr) ∧ ∀ {η : Env} {ds : List Deferred}, DfOK η ds (lkp DS fr) → DfL η l ds := by
 unfold Z3W at h
 split at h
 · rename_i v hv
   split at h
   · rename_i l
     exact ⟨l, h, fun hd => by rw [hv] at hd; exact hd⟩
   · rename_i hn
     refine ⟨[], h, fun hd => ?_⟩
     rw [hv] at hd
     have : Z0X (some v) = false := by cases v <;> first | rfl | exact (hn _ rfl).elim
     rw [DfOK.no this] at hd
     subst hd; rfl
 · rename_i hv
   refine ⟨[], h, fun hd => ?_⟩
   rw [hv] at hd
   have hd : _ = [] := hd
   subst hd; rfl
theorem RANGEF.of (hT : TabOK M.P M.C.T) {f : Operand} {ps : Array Tmp} {asg body : Code} {fr : Fr} {Q : Post} {gf g : FuncId} {cap : List SV} {fn : Func} {c : Code} (hcall : ∀ args w, (callFunc gf args).run M.P w = .ok (.enter g args) w) (hf : M.P.funcs[g]? = some fn) (hb : fn.body = some c) (N : Nat) (hN : fn.ntmps = N)
   (li : LpI) (hli : li = ⟨M.C.N, ps.toList, asg, body⟩) (hv : Xx fr f = some (.fn (.func gf) [] cap)) (hlen : Nat.ble (cap.length + 1) N = true) (hres : fn.results = #[]) (hro : M.C.ro = none)
   (h : noDS fr fun fr0 => ∀ η1 : Env, η1.length = nx + 2 → run (M.at N none η1) c (Jk 0 (.yf (.loc (nx + 1)) :: cap)) ((nx + 1, .lp .ready li fr0) :: (nx, .dfr []) :: O) (nx + 2) (endI (M.at N none η1) [] (Z3h (nx + 1) (Z3W fr nx) Q))) (hND : Nat.ble N DS = true := by rfl) : RANGEF M f ps asg body fr O nx Q := by
 obtain ⟨fr0, h, _, hfr0⟩ := Z1d h
 refine ⟨fun η a w hm => wpIn_rangeFunc fun fnid _ => ?_⟩
 have hround : M.fence.round = none := by simp [Mx.fence, hro]
 rw [hround]
 obtain ⟨rec, hrec⟩ : ∃ rec : Loop, rec = { state := .ready, pending := none, fn := fnid, tmps := a.tmps, params := ps, assign := asg, body, defers := w.heap.size } := ⟨_, rfl⟩
 have hl := hm.heap.len
 obtain ⟨η1, hη1⟩ : ∃ η1 : Env, η1 = η ++ [some ⟨w.heap.size, 0, 0⟩] := ⟨_, rfl⟩
 have H1 : HeapOK M η1 (w.alloc (.deferred (some []))) ((nx, .dfr []) :: O) (nx + 1) := by
   rw [hη1]
   refine hm.heap.alloc (w' := w.alloc (.deferred (some []))) (o := .deferred (some [])) (h := .dfr []) rfl rfl rfl rfl 0 0 ?_
   simp only [HpSat]
   exact ⟨⟨w.heap.size, 0, 0⟩, by simp [Env.get, ← hl], rfl, World.alloc_heap_new w _, (fun n hn => nomatch hn), by simp⟩
 have hl1 := H1.len
 obtain ⟨η2, hη2⟩ : ∃ η2 : Env, η2 = η1 ++ [some ⟨w.heap.size + 1, 0, 0⟩] := ⟨_, rfl⟩
 have hsz : (w.alloc (.deferred (some []))).heap.size = w.heap.size + 1 := World.size_alloc _ _
 have hpre : η <+: η2 := by rw [hη2, hη1, List.append_assoc]; exact List.prefix_append _ _
 have hj2 : η2[nx + 1]? = some (some ⟨w.heap.size + 1, 0, 0⟩) := by rw [hη2, ← hl1]; simp
 have hd2 : η2[nx]? = some (some ⟨w.heap.size, 0, 0⟩) := by
   rw [hη2, List.getElem?_append_left (by omega), hη1, ← hl]; simp
 have H2 : HeapOK M η2 ((w.alloc (.deferred (some []))).alloc (.loop rec)) ((nx + 1, .lp .ready li fr0) :: (nx, .dfr []) :: O) (nx + 2) := by
   have := H1.alloc (w' := (w.alloc (.deferred (some []))).alloc (.loop rec)) (o := .loop rec) (h := .lp .ready li fr0) rfl rfl rfl rfl 0 0 (by
     rw [hsz, ← hη2]
     simp only [HpSat]
     refine ⟨_, rec, hj2, rfl, by rw [← hsz]; exact World.alloc_heap_new _ _, ?_⟩
     subst hrec hli
     exact ⟨rfl, rfl, rfl, rfl, rfl, hm.size, fun t sv ht => (hm.frame t sv (hfr0 t sv ht)).mono hpre⟩)
   rw [hsz, ← hη2] at this
   exact this
 have hev : ∃ vs, a.eval f = .func (.func gf) #[] ⟨vs⟩ ∧ DenL η2 cap vs := by
   have := ZK hm.frame hv
   simp only [Den, DenL] at this
   obtain ⟨us, vs, h1, rfl, h3⟩ := this
   exact ⟨vs, h1, h3.mono hpre⟩
 obtain ⟨d, w1', f', args, w2, q1, q2, q3, q4, q5⟩ := Z2e (a' := { a with defers := [{ target := .collected w.heap.size, args := #[] }] ++ a.defers }) hT hcall hf hb N hN (Nat.le_of_ble_eq_true hND) (Nat.le_of_ble_eq_true hlen) hres hev H2 hj2 (frK := Z3W fr nx) (fun {K} hk => by
   obtain ⟨l, h1, h2⟩ := Z3X hk
   refine ⟨_, h1, fun η' w' O' nx' hp H' => ⟨H', hm.size, hm.nds, ?_, Jv (hpre.trans hp) hm.ro, fun t sv ht => ?_⟩⟩
   · rw [Zb, if_pos rfl]
     exact ⟨⟨w.heap.size, 0, 0⟩, a.defers, Env.get_mono (b := .loc nx) hp hd2, rfl, h2 (hm.defers.mono (hpre.trans hp))⟩
   · rw [Zb] at ht
     split at ht
     · injection ht with ht; subst ht; simp only [Den]
     · exact (hm.frame t sv ht).mono (hpre.trans hp)) (h η2 H2.len)
 refine ⟨w.heap.size + 1, [{ target := .collected w.heap.size, args := #[] }], _, d, w1', f', args, w2, run_enterLoop_outer _ _ _ _ _, ?_, q2, q3, q4, q5⟩
 rw [hrec] at q1
 exact q1
end
theorem FIN.weak {M : Mx} {O O1 : Hps} {nx n1 : Nat} {r r1 : SV} {Q : SV → Hps → Nat → Prop} (h : ∀ η w v, HeapOK M η w O nx → Den η r v → ∃ η', η <+: η' ∧ HeapOK M η' w O1 n1 ∧ Den η' r1 v) (hf : FIN M O1 n1 r1 Q) : FIN M O nx r Q :=
 ⟨fun η w v H hd => let ⟨η1, h1, h2, h3⟩ := h η w v H hd; hf.out η1 w v h2 h3⟩
theorem FIN.nil {M : Mx} {O : Hps} {nx : Nat} {Q : SV → Hps → Nat → Prop} (es : Nat) (hf : FIN M ((nx, .rows es []) :: O) (nx + 1) (.sl (.loc nx) 0 es 0 none) Q) : FIN M O nx (.val (.slice none 0 0)) Q := by
 refine FIN.weak (fun η w v H hd => ?_) hf
 have hnew : (η ++ [none])[nx]? = some none := by rw [List.getElem?_append_right (by rw [H.len]; omega), H.len]; simp
 refine ⟨η ++ [none], List.prefix_append _ _, H.push none (fun _ _ => rfl) (Nat.le_refl _) rfl rfl rfl (Nat.le_refl _) (.inl ⟨hnew, rfl⟩) (fun k f => (feet.none (b := .loc nx) hnew f).elim) (fun k f => (feet.none (b := .loc nx) hnew f).elim), ?_⟩
 simp only [Den] at hd ⊢
 exact .inl ⟨hnew, hd.1, trivial⟩
theorem FIN.nilCell {M : Mx} {O : Hps} {nx : Nat} {r : SV} {Q : SV → Hps → Nat → Prop} (i j es : Nat) {row row' : List SV} (hi : lkp i O = some (.box row)) (hr : J2 nx es j row = some row') (hf : FIN M ((nx, .rows es []) :: setK i (.box row') O) (nx + 1) r Q) : FIN M O nx r Q :=
 FIN.weak (fun η w v H hd => let ⟨η', h1, h2⟩ := H.nilCell hi hr; ⟨η', h1, h2, Den.mono h1 hd⟩) hf
def Z0B : List Nat → Hps → (Hps → Prop) → Prop
 | [], _, K => K []
 | i :: is, O, K => match lkp i O with
   | some h => Z0B is O fun r => K ((i, h) :: r)
   | none => Z0B is O K
def Z2f : Hps → Hps → (Hps → Prop) → Prop
 | [], r, K => K r
 | (i, h) :: l, r, K => Z2f l r fun r => K ((i, h) :: r)
theorem V2 : ∀ {ts : List Nat} {O : Hps} {K : Hps → Prop}, Z0B ts O K → ∃ r, K r
 | [], O, K, h => ⟨_, h⟩
 | t :: ts, O, K, h => by
   simp only [Z0B] at h
   split at h
   · obtain ⟨r, hr⟩ := V2 h; exact ⟨_, hr⟩
   · exact V2 h
theorem Z0C : ∀ {l r : Hps} {K : Hps → Prop}, Z2f l r K ↔ K (l ++ r)
 | [], r, K => Iff.rfl
 | (t, v) :: l, r, K => by simp only [Z2f, List.cons_append, Z0C]
section
variable {M : Mx} {fr : Fr} {O : Hps} {nx : Nat}
theorem LOOP.gok {body : Code} {Q : Post} (hT : TabOK M.P M.C.T) (ks ko : List Nat) {X : Type} (P : X → Prop) (chg : X → Fr) (Ox : X → Hps) (n0 : Nat) (μ : X → Nat) (x0 : X) (hP : P x0)
   (h : Z25 ks fr fun fr0 => Z0B ko O fun O0 => (appK (chg x0) fr0 fun fr' => Z2f (Ox x0) O0 fun O' => GOES M fr O nx fr' O' n0) ∧
     ∀ x, P x → appK (chg x) fr0 fun fr1 => Z2f (Ox x) O0 fun O1 => run M body fr1 O1 n0 fun e fr O nx => match e with
       | .normal => ∃ x', P x' ∧ μ x' < μ x ∧ appK (chg x') fr0 fun fr' => Z2f (Ox x') O0 fun O' => GOES M fr O nx fr' O' n0
       | e => Q e fr O nx) : LOOP M body fr O nx Q := by
 obtain ⟨fr0, h⟩ := Ut h
 obtain ⟨O0, h1, h2⟩ := V2 h
 simp only [WD, Z0C] at h1 h2
 exact LOOP.inv hT P (fun x => (chg x ++ fr0, Ox x ++ O0, n0)) μ x0 hP h1 h2
theorem LOOP.nilCell {body : Code} {Q : Post} (i j es : Nat) {row row' : List SV} (hi : lkp i O = some (.box row)) (hr : J2 nx es j row = some row') (k : LOOP M body fr ((nx, .rows es []) :: setK i (.box row') O) (nx + 1) Q) : LOOP M body fr O nx Q :=
 LOOP.goes ⟨fun η a w hm => let ⟨η', hp, H⟩ := hm.heap.nilCell hi hr; ⟨η', H, hm.size, hm.nds, hm.defers.mono hp, Jv hp hm.ro, fun t v ht => (hm.frame t v ht).mono hp⟩⟩ k
end
structure GHO (M : Mx) (O : Hps) (nx : Nat) (O1 : Hps) (n1 : Nat) : Prop where
 out : ∀ η w, HeapOK M η w O nx → ∃ η', η <+: η' ∧ HeapOK M η' w O1 n1
section
variable {M : Mx} {fr : Fr} {O O1 O2 : Hps} {nx n1 n2 : Nat}
theorem GHO.refl : GHO M O nx O nx := ⟨fun η w H => ⟨η, List.prefix_rfl, H⟩⟩
theorem GHO.trans (h : GHO M O nx O1 n1) (k : GHO M O1 n1 O2 n2) : GHO M O nx O2 n2 :=
 ⟨fun η w H => let ⟨η1, p1, H1⟩ := h.out η w H; let ⟨η2, p2, H2⟩ := k.out η1 w H1; ⟨η2, p1.trans p2, H2⟩⟩
theorem GHO.goes (h : GHO M O nx O1 n1) : GOES M fr O nx fr O1 n1 :=
 ⟨fun η a w hm => let ⟨η', hp, H⟩ := h.out η w hm.heap; ⟨η', H, hm.size, hm.nds, hm.defers.mono hp, Jv hp hm.ro, fun t v ht => (hm.frame t v ht).mono hp⟩⟩
theorem GHO.loop {body : Code} {Q : Post} (h : GHO M O nx O1 n1) (k : LOOP M body fr O1 n1 Q) : LOOP M body fr O nx Q := LOOP.goes h.goes k
theorem GHO.call {f : FuncId} {args : List SV} {K : SV → Hps → Nat → Prop} (h : GHO M O nx O1 n1) (k : CALL M f args O1 n1 K) : CALL M f args O nx K := CALL.weak h.out k
theorem GHO.drawn {id : Nat} {ops : Array Oper} {Q : Post} (h : GHO M O nx O1 n1) (k : DRAWN M id ops fr O1 n1 Q) : DRAWN M id ops fr O nx Q :=
 ⟨fun η a w hm => let ⟨η1, h1⟩ := (h.goes (fr := fr)).out η a w hm; k.out η1 a w h1⟩
theorem GHO.fin {r : SV} {Q : SV → Hps → Nat → Prop} (h : GHO M O nx O1 n1) (k : FIN M O1 n1 r Q) : FIN M O nx r Q :=
 ⟨fun η w v H hd => let ⟨η1, p1, H1⟩ := h.out η w H; k.out η1 w v H1 (hd.mono p1)⟩
theorem GHO.nilCell (i j es : Nat) {row row' : List SV} (hi : lkp i O = some (.box row)) (hr : J2 nx es j row = some row') : GHO M O nx ((nx, .rows es []) :: setK i (.box row') O) (nx + 1) := ⟨fun η w H => H.nilCell hi hr⟩
theorem GHO.putk (i r c k : Nat) {mp : Bool} {es es' n : Nat} {rs : List (List DC)} {row : List DC} {rows : List (List SV)} (hi : lkp i O = some (.deep mp es rs)) (hr : rs[r]? = some row) (hc : row[c]? = some (.v (.sl (.loc k) 0 es' n none)))
   (hk : lkp k O = some (.rows es' rows)) (hn : n ≤ rows.length) (hki : k ≠ i) : GHO M O nx (delK k (setK i (.deep mp es (setC rs r c (.kid es' (rows.take n)))) O)) nx := ⟨fun η w H => ⟨η, List.prefix_rfl, H.putk hi hr hc hk hn hki⟩⟩
end
def LentIn (w : World) (v : Value) (es : Nat) (rs : List (List SV)) (en : Option Ent) : Prop :=
 (∀ x, en = some x → x.g < w.heap.size) ∧ ∀ (η : Env) (i : Nat), η[i]? = some en → Den η (.sl (.loc i) 0 es rs.length none) v ∧ HpSat η w false (.loc i) (.rows es rs)
theorem LentIn.now {w w' : World} {F : Nat → Prop} {v : Value} {es : Nat} {rs : List (List SV)} {en : Option Ent} (h : LentIn w v es rs en) (hf : FrW w w' F) (hF : ∀ k, ¬ F k) : LentIn w' v es rs en :=
 ⟨fun x hx => Nat.lt_of_lt_of_le (h.1 x hx) hf.size, fun η i hi => ⟨(h.2 η i hi).1, (h.2 η i hi).2.keep fun k f => by
   obtain ⟨e, he, f⟩ := f
   rw [show η.get (.loc i) = some en from hi] at he
   injection he with he
   rcases f with rfl | f
   · exact hf.block _ (h.1 e he) (hF _)
   · exact f.elim⟩⟩
theorem Z0D {η η' : Env} (hp : η <+: η') {v : Value} {x : SV} (hx : Den η' x v) : ∀ {pre post : List SV} {vs : List Value}, DenL η (pre ++ .val v :: post) vs → DenL η' (pre ++ x :: post) vs
 | [], post, vs, h => by
   simp only [List.nil_append, DenL] at h ⊢
   obtain ⟨u, us, h1, h2, h3⟩ := h
   simp only [Den] at h2
   obtain ⟨rfl, _⟩ := h2
   exact ⟨u, us, h1, hx, h3.mono hp⟩
 | c :: pre, post, vs, h => by
   simp only [List.cons_append, DenL] at h ⊢
   obtain ⟨u, us, h1, h2, h3⟩ := h
   exact ⟨u, us, h1, h2.mono hp, Z0D hp hx h3⟩
theorem Z0E {nx es : Nat} : ∀ {j : Nat} {row row' : List SV}, J2 nx es j row = some row' → row'.length = row.length
 | _, [], _, h => by simp [J2] at h
 | 0, c :: r, row', h => by
   unfold J2 at h
   split at h
   · rename_i e; injection h with h; subst h; rw [e]; rfl
   · simp_all
   · cases h
 | j + 1, c :: r, row', h => by
   unfold J2 at h
   split at h
   · rename_i r1 hr
     injection h with h; subst h
     simp [Z0E hr]
   · cases h
section
variable {M : Mx} {O : Hps} {nx : Nat}
theorem CALL.lent {f : FuncId} {args : List SV} {K : SV → Hps → Nat → Prop} {es : Nat} {rs : List (List SV)} {en : Option Ent} {v : Value} (pre post : List SV) (hv : LentIn M.w0 v es rs en) (hF : ∀ k, ¬ M.F k) (ha : args = pre ++ .val v :: post)
   (hc : ∀ η1, CALL ⟨M.P, { M.C with S := (.loc nx, .rows es rs) :: M.C.S }, M.w0, M.F, η1⟩ f (pre ++ .sl (.loc nx) 0 es rs.length none :: post) O (nx + 1) K) : CALL M f args O nx K := by
 refine ⟨fun η w vs H hd => ?_⟩
 subst ha
 have hpre : η <+: η ++ [en] := List.prefix_append _ _
 have hnew : (η ++ [en])[nx]? = some en := by rw [List.getElem?_append_right (by rw [H.len]; omega), H.len]; simp
 obtain ⟨h1, h2⟩ := hv.2 _ _ hnew
 have hold : ∀ {b h}, lkS M.C b = some h → ∀ k, feet (η ++ [en]) M.w0 b h k → feet M.η0 M.w0 b h k := fun {b h} hb k f => by
   obtain ⟨x, hx, _⟩ := (H.sok b h hb).1.lt
   exact f.less (H.pre.trans hpre) hx
 have H1 : HeapOK ⟨M.P, { M.C with S := (.loc nx, .rows es rs) :: M.C.S }, M.w0, M.F, η ++ [en]⟩ (η ++ [en]) w O (nx + 1) := by
   refine ⟨List.prefix_rfl, by simp [H.len], ⟨fun i h hi => ⟨(H.own.1 i h hi).1.mono hpre, fun k f => (H.own.1 i h hi).2 k (H.stands hpre hi (fun _ _ => rfl) f)⟩,
     fun i j h h' k hi hj hne f f' => H.own.2 i j h h' k hi hj hne (H.stands hpre hi (fun _ _ => rfl) f) (H.stands hpre hj (fun _ _ => rfl) f')⟩, H.fr, fun b h hb => ?_⟩
   have old : lkS M.C b = some h → HpSat (η ++ [en]) M.w0 false b h ∧ ∀ k, feet (η ++ [en]) M.w0 b h k → k < M.w0.heap.size ∧ ¬ M.F k := fun hb =>
     ⟨(H.sok b h hb).1.mono (H.pre.trans hpre), fun k f => (H.sok b h hb).2 k (hold hb k f)⟩
   cases b with
   | glob g => exact old hb
   | loc i =>
     simp only [lkS, lkpB, WL] at hb
     cases hi : Nat.beq i nx with
     | false => rw [hi] at hb; exact old hb
     | true =>
       rw [hi] at hb
       injection hb with hb
       subst hb
       have hi := Zj hi
       subst hi
       refine ⟨h2, fun k f => ⟨?_, hF k⟩⟩
       obtain ⟨e, he, f⟩ := f
       rw [show (η ++ [en]).get (.loc i) = some en from hnew] at he
       injection he with he
       have := hv.1 e he
       rcases f with rfl | f
       · exact this
       · exact f.elim
 refine ((hc (η ++ [en])).out (η ++ [en]) w vs H1 (Z0D hpre h1 hd)).mono fun v' w' ⟨r, O', nx', η', h3, h4, h5, h6⟩ => ?_
 exact ⟨r, O', nx', η', hpre.trans h3, ⟨(H.pre.trans hpre).trans h3, h4.len, h4.own, h4.fr, H.sok⟩, h5, h6⟩
theorem CALL.burn {f : FuncId} {args : List SV} {K : SV → Hps → Nat → Prop} (hc : CALL M f args O (nx + 1) K) : CALL M f args O nx K :=
 CALL.weak (fun η w H => ⟨η ++ [none], List.prefix_append _ _, H.pre.trans (List.prefix_append _ _), by simp [H.len], ⟨fun i h hi => ⟨(H.own.1 i h hi).1.mono (List.prefix_append _ _), fun k f => (H.own.1 i h hi).2 k (H.stands (List.prefix_append _ _) hi (fun _ _ => rfl) f)⟩,
   fun i j h h' k hi hj hne f f' => H.own.2 i j h h' k hi hj hne (H.stands (List.prefix_append _ _) hi (fun _ _ => rfl) f) (H.stands (List.prefix_append _ _) hj (fun _ _ => rfl) f')⟩, H.fr, H.sok⟩) hc
variable {η : Env} {w : World}
theorem HeapOK.name0 (H : HeapOK M η w O nx) {i : Nat} {h h' : Hp} (hi : lkp i O = some h) (hs : HpSat (η ++ [none]) w true (.loc i) h') (hk : ∀ n, feet (η ++ [none]) w (.loc i) h' n → feet (η ++ [none]) w (.loc i) h n) (es : Nat) :
   HeapOK M (η ++ [none]) w ((nx, .rows es []) :: setK i h' O) (nx + 1) := by
 have hpre : η <+: η ++ [none] := List.prefix_append _ _
 have hnew : (η ++ [none])[nx]? = some none := by rw [List.getElem?_append_right (by rw [H.len]; omega), H.len]; simp
 have hin : ∀ {a g}, lkp a (setK i h' O) = some g → ∃ g0, lkp a O = some g0 ∧ HpSat (η ++ [none]) w true (.loc a) g ∧ ∀ n, feet (η ++ [none]) w (.loc a) g n → feet η w (.loc a) g0 n := by
   intro a g ha
   rw [ZF _ _ _ _ (by rw [hi]; rfl)] at ha
   split at ha
   · rename_i e
     subst e
     injection ha with ha
     subst ha
     exact ⟨_, hi, hs, fun n f => H.stands hpre hi (fun _ _ => rfl) (hk n f)⟩
   · exact ⟨g, ha, (H.own.1 _ _ ha).1.mono hpre, fun n f => H.stands hpre ha (fun _ _ => rfl) f⟩
 refine ⟨H.pre.trans hpre, by simp [H.len], ⟨fun a g ha => ?_, fun a b g g' n ha hb hab f f' => ?_⟩, H.fr, H.sok⟩
 · rw [Zb] at ha
   split at ha
   · rename_i e; subst e; injection ha with ha; subst ha
     exact ⟨.inl ⟨hnew, rfl⟩, fun n f => (feet.none (b := .loc _) hnew f).elim⟩
   · obtain ⟨g0, h1, h2, h3⟩ := hin ha
     exact ⟨h2, fun n f => (H.own.1 a g0 h1).2 n (h3 n f)⟩
 · rw [Zb] at ha hb
   split at ha
   · rename_i e1; subst e1; exact (feet.none (b := .loc _) hnew f).elim
   · split at hb
     · rename_i e2; subst e2; exact (feet.none (b := .loc _) hnew f').elim
     · obtain ⟨g0, h1, _, h3⟩ := hin ha
       obtain ⟨g0', h1', _, h3'⟩ := hin hb
       exact H.own.2 a b g0 g0' n h1 h1' hab (h3 n f) (h3' n f')
theorem HeapOK.nilRow (H : HeapOK M η w O nx) {i r j es es' : Nat} {rs : List (List SV)} {row row' : List SV} (hi : lkp i O = some (.rows es rs)) (hr : rs[r]? = some row) (hn : J2 nx es' j row = some row') :
   ∃ η', η <+: η' ∧ HeapOK M η' w ((nx, .rows es' []) :: setK i (.rows es (rs.set r row')) O) (nx + 1) := by
 have hpre : η <+: η ++ [none] := List.prefix_append _ _
 have hnew : (η ++ [none])[nx]? = some none := by rw [List.getElem?_append_right (by rw [H.len]; omega), H.len]; simp
 refine ⟨_, hpre, H.name0 (h' := .rows es (rs.set r row')) hi ?_ (fun n f => f) es'⟩
 have := (H.own.1 _ _ hi).1.mono hpre
 simp only [HpSat] at this ⊢
 rcases this with ⟨h1, rfl⟩ | ⟨e, arr, T, fz, h1, h2, h3, h4⟩
 · simp at hr
 refine .inr ⟨e, arr, T, fz, h1, h2, fun ho => by rw [List.length_set]; exact h3 ho, fun a rw1 ha => ?_⟩
 rw [List.getElem?_set] at ha
 split at ha
 · rename_i e1
   subst e1
   split at ha
   · injection ha with ha
     subst ha
     obtain ⟨h5, h6⟩ := h4 _ row hr
     refine ⟨(Z0E hn).trans h5, fun c sv hc => ?_⟩
     rcases Uv hn c sv hc with hc' | ⟨hc', rfl⟩
     · exact h6 c sv hc'
     · obtain ⟨v, h7, h8, h9⟩ := h6 c _ hc'
       refine ⟨v, h7, h8, ?_⟩
       simp only [Den] at h9 ⊢
       exact .inl ⟨hnew, h9.1, trivial⟩
   · cases ha
 · exact h4 a rw1 ha
theorem GHO.nilRow (i r j es' : Nat) {es : Nat} {rs : List (List SV)} {row row' : List SV} (hi : lkp i O = some (.rows es rs)) (hr : rs[r]? = some row) (hn : J2 nx es' j row = some row') : GHO M O nx ((nx, .rows es' []) :: setK i (.rows es (rs.set r row')) O) (nx + 1) := ⟨fun η w H => H.nilRow hi hr hn⟩
end
end Go.Sx
