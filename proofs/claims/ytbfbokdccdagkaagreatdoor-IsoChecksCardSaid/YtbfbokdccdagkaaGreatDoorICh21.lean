/- Part 21: SxKids. Conditions: as each part says. -/
import Derived.Test.YtbfbokdccdagkaaGreatDoorICh8
set_option linter.unusedVariables false
set_option linter.unusedSimpArgs false
namespace Go.Sx
open Go
structure GHO (M : Mx) (O : Hps) (nx : Nat) (O1 : Hps) (n1 : Nat) : Prop where
 out : ∀ η w, HeapOK M η w O nx → ∃ η', η <+: η' ∧ HeapOK M η' w O1 n1
section
variable {M : Mx} {fr : Fr} {O O1 O2 : Hps} {nx n1 n2 : Nat}
theorem GHO.refl : GHO M O nx O nx := ⟨fun η w H => ⟨η, List.prefix_rfl, H⟩⟩
theorem GHO.trans (h : GHO M O nx O1 n1) (k : GHO M O1 n1 O2 n2) : GHO M O nx O2 n2 :=
 ⟨fun η w H => let ⟨η1, p1, H1⟩ := h.out η w H; let ⟨η2, p2, H2⟩ := k.out η1 w H1; ⟨η2, p1.trans p2, H2⟩⟩
theorem GHO.goes (h : GHO M O nx O1 n1) : GOES M fr O nx fr O1 n1 :=
 ⟨fun η a w hm => let ⟨η', hp, H⟩ := h.out η w hm.heap; ⟨η', H, hm.size, hm.nds, hm.defers.mono hp, UM hp hm.ro, fun t v ht => (hm.frame t v ht).mono hp⟩⟩
theorem GHO.loop {body : Code} {Q : Post} (h : GHO M O nx O1 n1) (k : LOOP M body fr O1 n1 Q) : LOOP M body fr O nx Q := LOOP.goes h.goes k
theorem GHO.call {f : FuncId} {args : List SV} {K : SV → Hps → Nat → Prop} (h : GHO M O nx O1 n1) (k : CALL M f args O1 n1 K) : CALL M f args O nx K := CALL.weak h.out k
theorem GHO.drawn {id : Nat} {ops : Array Oper} {Q : Post} (h : GHO M O nx O1 n1) (k : DRAWN M id ops fr O1 n1 Q) : DRAWN M id ops fr O nx Q :=
 ⟨fun η a w hm => let ⟨η1, h1⟩ := (h.goes (fr := fr)).out η a w hm; k.out η1 a w h1⟩
theorem GHO.fin {r : SV} {Q : SV → Hps → Nat → Prop} (h : GHO M O nx O1 n1) (k : FIN M O1 n1 r Q) : FIN M O nx r Q :=
 ⟨fun η w v H hd => let ⟨η1, p1, H1⟩ := h.out η w H; k.out η1 w v H1 (hd.mono p1)⟩
theorem GHO.nilCell (i j es : Nat) {row row' : List SV} (hi : lkp i O = some (.box row)) (hr : Z1P nx es j row = some row') : GHO M O nx ((nx, .rows es []) :: setK i (.box row') O) (nx + 1) := ⟨fun η w H => H.nilCell hi hr⟩
theorem GHO.putk (i r c k : Nat) {mp : Bool} {es es' n : Nat} {rs : List (List DC)} {row : List DC} {rows : List (List SV)} (hi : lkp i O = some (.deep mp es rs)) (hr : rs[r]? = some row) (hc : row[c]? = some (.v (.sl (.loc k) 0 es' n none)))
   (hk : lkp k O = some (.rows es' rows)) (hn : n ≤ rows.length) (hki : k ≠ i) : GHO M O nx (delK k (setK i (.deep mp es (setC rs r c (.kid es' (rows.take n)))) O)) nx := ⟨fun η w H => ⟨η, List.prefix_rfl, H.putk hi hr hc hk hn hki⟩⟩
theorem ZP {m : Nat} {rs : List (List SV)} (h : Zs rs = true) : Z4 m (.mp rs) = true := XT m (h := .mp rs) h
end
end Go.Sx
