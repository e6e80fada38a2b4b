/- Part 3 of the texts that the last one leans on: SxAuto, Utf, TmM, ReadM, Glob, SxAuto2, SxAuto3, CmpM, MapG, Utf2, Rune, IriM, NamesM, PartM, SplitM, TagM, TermM, InferM, WorldM, Cmp7, Lists7, SxRange, SxKeep, SxKids, World1, Utf1. Conditions: as each part says. -/
import Derived.IntWalk
import Derived.Lib.Bytealg
import Derived.Lib.Strings
import Derived.RangeFuncNested
import Derived.Test.YtjbbkimodgffiaaGreatDoorInH2
/- From one state of a walk to another that says less; numbers within bounds; words for scripts. Conditions: none. -/
set_option linter.unusedVariables false
set_option linter.unusedSimpArgs false
namespace Go.Sx
open Go

/-! ### The same names -/
section
variable {σ : Nat → Nat}
theorem renB_id (h : ∀ j, σ j = j) : ∀ b, renB σ b = b
  | .glob g => rfl
  | .loc i => by simp only [renB, h]
mutual
theorem ren_id (h : ∀ j, σ j = j) : ∀ v, ren σ v = v
  | .bool _ => rfl
  | .int _ _ => rfl
  | .str _ => rfl
  | .val _ => rfl
  | .any => rfl
  | .nb _ => rfl
  | .dfs l => by simp only [ren, renL_id h l]
  | .yf b => by simp only [ren, renB_id h]
  | .mp b => by simp only [ren, renB_id h]
  | .ptr b _ _ _ => by simp only [ren, renB_id h]
  | .sl b _ _ _ _ => by simp only [ren, renB_id h]
  | .agg cs => by simp only [ren, renL_id h cs]
  | .arr _ rs => by simp only [ren, renLL_id h rs]
  | .tup vs => by simp only [ren, renL_id h vs]
  | .ifc _ v => by simp only [ren, ren_id h v]
  | .fn _ a b => by simp only [ren, renL_id h a, renL_id h b]
theorem renL_id (h : ∀ j, σ j = j) : ∀ vs, renL σ vs = vs
  | [] => rfl
  | c :: cs => by simp only [renL, ren_id h c, renL_id h cs]
theorem renLL_id (h : ∀ j, σ j = j) : ∀ vs, renLL σ vs = vs
  | [] => rfl
  | c :: cs => by simp only [renLL, renL_id h c, renLL_id h cs]
end
theorem renF_id (h : ∀ j, σ j = j) : ∀ fr, renF σ fr = fr
  | [] => rfl
  | (t, v) :: r => by simp only [renF, ren_id h v, renF_id h r]
theorem renC_id (h : ∀ j, σ j = j) : ∀ c, renC σ c = c
  | .v s => by simp only [renC, ren_id h]
  | .kid _ rs => by simp only [renC, renLL_id h]
theorem renCL_id (h : ∀ j, σ j = j) : ∀ r, renCL σ r = r
  | [] => rfl
  | c :: cs => by simp only [renCL, renC_id h, renCL_id h cs]
theorem renCLL_id (h : ∀ j, σ j = j) : ∀ r, renCLL σ r = r
  | [] => rfl
  | c :: cs => by simp only [renCLL, renCL_id h, renCLL_id h cs]
theorem renH_id (h : ∀ j, σ j = j) : ∀ hp, renH σ hp = hp
  | .deep _ _ _ => by simp only [renH, renCLL_id h]
  | .box _ => by simp only [renH, renL_id h]
  | .rows _ _ => by simp only [renH, renLL_id h]
  | .siter _ _ => rfl
  | .tbl _ => rfl
  | .bld _ _ _ => rfl
  | .dfr => rfl
  | .lp _ _ fr => by simp only [renH, renF_id h]
  | .mp _ => by simp only [renH, renLL_id h]
end

/-! ### A state cut down -/
def CutFr (m : Nat) (fr : Fr) : Fr → Prop
  | [] => True
  | (t, v) :: r => (lkp t fr = some v ∧ below m v = true) ∧ CutFr m fr r
def CutO (m : Nat) (O : Hps) : Hps → Prop
  | [] => True
  | (i, h) :: r => (lkp i O = some h ∧ Nat.blt i m = true ∧ belowH m h = true) ∧ CutO m O r
theorem CutFr.at {m : Nat} {fr : Fr} : ∀ {fr' : Fr}, CutFr m fr fr' → ∀ t v, lkp t fr' = some v → lkp t fr = some v ∧ below m v = true
  | [], _, t, v, h => by simp [lkp] at h
  | (d, u) :: r, hs, t, v, h => by
    rw [lkp_cons] at h
    split at h
    · rename_i e; subst e; injection h with h; subst h; exact hs.1
    · exact CutFr.at hs.2 t v h
theorem CutO.at {m : Nat} {O : Hps} : ∀ {O' : Hps}, CutO m O O' → ∀ i h, lkp i O' = some h → lkp i O = some h ∧ i < m ∧ belowH m h = true
  | [], _, t, v, h => by simp [lkp] at h
  | (d, u) :: r, hs, t, v, h => by
    rw [lkp_cons] at h
    split at h
    · rename_i e; subst e; injection h with h; subst h
      exact ⟨hs.1.1, by simpa [Nat.blt_eq] using hs.1.2.1, hs.1.2.2⟩
    · exact CutO.at hs.2 t v h
variable {M : Mx} {fr fr' : Fr} {O O' : Hps} {nx : Nat}
theorem GOES.cut {k : Nat} (m : Nat) (hk : M.η0.length = k) (hkm : Nat.ble k m = true) (hmn : Nat.ble m nx = true) (hf : CutFr m fr fr') (hO : CutO m O O') (hd : dsSame fr fr' = true := by rfl) (hro : roSame M.C.ro id m = true := by rfl) : GOES M fr O nx fr' O' m := by
  have hkm := Nat.le_of_ble_eq_true hkm
  have hmn := Nat.le_of_ble_eq_true hmn
  refine ⟨fun η a w hm => ?_⟩
  have hid : ∀ j : Nat, id j = j := fun _ => rfl
  have hbwd : Bwd η (η.take m) id m := fun i x hi hx => by
    simp only [id] at hx
    rw [List.getElem?_take, if_pos hi]; exact hx
  have hlen : (η.take m).length = m := by rw [List.length_take, hm.heap.len]; omega
  refine ⟨η.take m, ⟨?_, hlen, ⟨fun i h hi => ?_, fun i j h h' n hi hj hij f f' => ?_⟩, hm.heap.fr, hm.heap.sok⟩, hm.size, hm.nds, hm.defers.goes hbwd hd (fun v hv => by rw [ren_id hid]; exact hf.at DS v hv), fun l j hj => ?_, fun t v ht => ?_⟩
  · obtain ⟨t, ht⟩ := hm.heap.pre
    refine ⟨t.take (m - k), ?_⟩
    rw [← ht, List.take_append, hk, List.take_of_length_le (l := M.η0) (by omega)]
  · obtain ⟨h1, h2, h3⟩ := hO.at i h hi
    refine ⟨HpSat.unren hbwd h2 h3 ?_, fun n f => (hm.heap.own.1 i h h1).2 n (f.mono (List.take_prefix m η))⟩
    rw [renH_id hid]; exact (hm.heap.own.1 i h h1).1
  · obtain ⟨h1, h2, h3⟩ := hO.at i h hi
    obtain ⟨h4, h5, h6⟩ := hO.at j h' hj
    exact hm.heap.own.2 i j h h' n h1 h4 hij (f.mono (List.take_prefix m η)) (f'.mono (List.take_prefix m η))
  · obtain ⟨h4, _⟩ := roSame_at hro hj
    obtain ⟨e, h6, h7⟩ := hm.ro l j hj
    exact ⟨e, hbwd j _ h4 h6, h7⟩
  · obtain ⟨h1, h2⟩ := hf.at t v ht
    exact Den.unren hbwd h2 (by rw [ren_id hid]; exact hm.frame t v h1)
/-- The same, as a reduction lays it out. -/
def cutK (fr : Fr) : Fr → Prop
  | [] => True
  | (t, v) :: r => match lkp t fr with
    | some u => u = v ∧ cutK fr r
    | none => False
def cutOK (O : Hps) : Hps → Prop
  | [] => True
  | (i, h) :: r => match lkp i O with
    | some g => g = h ∧ cutOK O r
    | none => False
def belowFr (m : Nat) : Fr → Bool
  | [] => true
  | (_, v) :: r => below m v && belowFr m r
def belowO (m : Nat) : Hps → Bool
  | [] => true
  | (i, h) :: r => Nat.blt i m && (belowH m h && belowO m r)
theorem cutK_fr {m : Nat} {fr : Fr} : ∀ {fr' : Fr}, cutK fr fr' → belowFr m fr' = true → CutFr m fr fr'
  | [], _, _ => trivial
  | (t, v) :: r, h, b => by
    simp only [cutK] at h
    simp only [belowFr, Bool.and_eq_true] at b
    split at h
    · rename_i u hu
      obtain ⟨rfl, h⟩ := h
      exact ⟨⟨hu, b.1⟩, cutK_fr h b.2⟩
    · exact h.elim
theorem cutOK_o {m : Nat} {O : Hps} : ∀ {O' : Hps}, cutOK O O' → belowO m O' = true → CutO m O O'
  | [], _, _ => trivial
  | (t, v) :: r, h, b => by
    simp only [cutOK] at h
    simp only [belowO, Bool.and_eq_true] at b
    split at h
    · rename_i u hu
      obtain ⟨rfl, h⟩ := h
      exact ⟨⟨hu, b.1, b.2.1⟩, cutOK_o h b.2.2⟩
    · exact h.elim
theorem GOES.cutting {k m : Nat} (hk : M.η0.length = k) (hkm : Nat.ble k m = true) (hmn : Nat.ble m nx = true) (hbf : belowFr m fr' = true) (hbo : belowO m O' = true) (hf : cutK fr fr') (hO : cutOK O O') (hd : dsSame fr fr' = true := by rfl) (hro : roSame M.C.ro id m = true := by rfl) : GOES M fr O nx fr' O' m :=
  GOES.cut m hk hkm hmn (cutK_fr hf hbf) (cutOK_o hO hbo) hd hro
theorem GOES.trans {fr2 : Fr} {O2 : Hps} {n1 n2 : Nat} (h : GOES M fr O nx fr' O' n1) (k : GOES M fr' O' n1 fr2 O2 n2) : GOES M fr O nx fr2 O2 n2 :=
  ⟨fun η a w hm => let ⟨η1, h1⟩ := h.out η a w hm; k.out η1 a w h1⟩
/-- The empty slice, by a name of its own. -/
theorem GOES.nil (t es : Nat) (h0 : lkp t fr = some (.val (.slice none 0 0))) : GOES M fr O nx ((t, .sl (.loc nx) 0 es 0 none) :: fr) ((nx, .rows es []) :: O) (nx + 1) := by
  refine ⟨fun η a w hm => ?_⟩
  have hpre : η <+: η ++ [none] := List.prefix_append _ _
  have hnew : (η ++ [none])[nx]? = some none := by rw [List.getElem?_append_right (by rw [hm.heap.len]; omega), hm.heap.len]; simp
  refine ⟨η ++ [none], hm.heap.push none (fun _ _ => rfl) (Nat.le_refl _) rfl rfl rfl (Nat.le_refl _) (.inl ⟨hnew, rfl⟩) (fun k f => (feet.none (b := .loc nx) hnew f).elim) (fun k f => (feet.none (b := .loc nx) hnew f).elim), hm.size, hm.nds, ?_, ro_mono hpre hm.ro, fun u v hu => ?_⟩
  · have hdf := hm.defers.mono hpre
    rw [lkp_cons]
    split
    · rename_i e
      rw [e, h0, DfOK.no rfl] at hdf
      rw [DfOK.no rfl]; exact hdf
    · exact hdf
  · rw [lkp_cons] at hu
    split at hu
    · rename_i e; subst e; injection hu with hu; subst hu
      have := hm.frame u _ h0
      simp only [Den] at this ⊢
      exact .inl ⟨hnew, this.1, trivial⟩
    · exact Den.mono hpre (hm.frame u v hu)
theorem LOOP.goes {body : Code} {Q : Post} {n1 : Nat} (h : GOES M fr O nx fr' O' n1) (k : LOOP M body fr' O' n1 Q) : LOOP M body fr O nx Q :=
  ⟨fun η a w hm => let ⟨η1, h1⟩ := h.out η a w hm; k.out η1 a w h1⟩
theorem LOOP.nil {body : Code} {Q : Post} (t es : Nat) (h0 : lkp t fr = some (.val (.slice none 0 0))) (k : LOOP M body ((t, .sl (.loc nx) 0 es 0 none) :: fr) ((nx, .rows es []) :: O) (nx + 1) Q) : LOOP M body fr O nx Q := LOOP.goes (GOES.nil t es h0) k

/-! ### Ends with a new slice -/
theorem FIN.rows {k : Nat} {r : SV} {Q : SV → Hps → Nat → Prop} (hk : M.η0.length = k) (i es len : Nat) {rs : List (List SV)} (hr : r = .sl (.loc i) 0 es len none) (hO : lkp i O = some (.rows es rs)) (hi : Nat.blt i nx = true) (hp : plainLL rs = true)
    (hQ : Q (.sl (.loc k) 0 es len none) [(k, .rows es rs)] (k + 1)) : FIN M O nx r Q := by
  have hi : i < nx := by simpa [Nat.blt_eq] using hi
  have hf : fname k [i] k = i := by simp [fname]
  refine FIN.keep hk [i] (rc := .sl (.loc k) 0 es len none) (Oc := [(k, .rows es rs)]) (fun j hj => by simp at hj; omega) (by rw [hr]; simp only [ren, renB, hf]) (by simp [below, belowB, Nat.blt_eq]) ?_ ?_ hQ
  · intro p hp'
    simp only [List.mem_singleton] at hp'
    subst hp'
    refine ⟨by simp, ?_, by simp only [belowH, plainLL_below _ hp]⟩
    simp only [renH, hf, renLL_plain _ hp, hO]
  · intro j hj j' hj' _
    simp [namesOf] at hj hj'
    omega

/-- A new slice of bytes, and nothing else. -/
def NewBytes (k : Nat) (l : List UInt8) : SV → Hps → Nat → Prop := fun r O nx => r = .sl (.loc k) 0 1 l.length none ∧ O = [(k, .rows 1 (l.map bytesRow))] ∧ nx = k + 1
theorem plainBytes (l : List UInt8) : plainLL (l.map bytesRow) = true := plainLL_map _ (fun _ => rfl) l
theorem cname_ge {L : List Nat} {nx k : Nat} (hL : L.length = k) : cname L nx k = nx := by simp [cname, hL]
theorem CALL.bytes {f : FuncId} {args : List SV} {K : SV → Hps → Nat → Prop} {l : List UInt8} (sp : Does M.P M.C.T f 0 args [] [] (NewBytes 0 l)) (hp : plainL args = true)
    (hK : K (.sl (.loc nx) 0 1 l.length none) ((nx, .rows 1 (l.map bytesRow)) :: O) (nx + 1)) : CALL M f args O nx K := by
  refine CALL.of [] sp rfl (fun i hi => by cases hi) (renL_plain _ hp).symm (plainL_below 0 hp) (fun p hp => by cases hp) (fun j hj => by cases hj) (fun p hp => by cases hp) ?_
  rintro r' O' nx' ⟨rfl, rfl, rfl⟩
  simp only [ren, renB, renO, renH, renLL_plain _ (plainBytes l), cname_ge (L := []) (nx := nx) (k := 0) rfl, namesOf, List.map_nil, outside_nil, List.cons_append, List.nil_append]
  exact hK
theorem rowsBytes (xs : List UInt8) (r n : Nat) : ((xs.map bytesRow).drop r).take n = ((xs.drop r).take n).map bytesRow := by rw [List.map_take, List.map_drop]
theorem unrow (xs : List UInt8) : (xs.map bytesRow).map rowByte = xs := rowByte_bytes xs
/-- The condition at a text made of bytes. -/
theorem needText {xs : List UInt8} {r n : Nat} (h : r + n ≤ xs.length) : (((xs.map bytesRow).drop r).take n).length = n ∧ ∃ l : List UInt8, ((xs.map bytesRow).drop r).take n = l.map bytesRow :=
  ⟨by simp; omega, _, rowsBytes xs r n⟩
/-- The text made of all the bytes. -/
theorem textAll (xs : List UInt8) : (((xs.map bytesRow).drop 0).take xs.length).map rowByte = xs := by rw [rowsBytes, unrow]; simp

/-- A call of a function that looks at one slice. -/
theorem CALL.look1 {f : FuncId} {args argsc : List SV} {K : SV → Hps → Nat → Prop} {es : Nat} {rs : List (List SV)} {r : SV} (i : Nat) (sp : Does M.P M.C.T f 1 argsc [] [(0, .rows es rs)] (ValK 1 r))
    (ha : args = renL (cname [i] nx) argsc) (hi : Nat.blt i nx = true) (hb : belowL 1 argsc = true) (hO : hLook M.C O (.loc i) = some (.rows es rs)) (hp : plainLL rs = true) (hr : plain r = true) (hK : K r O nx) : CALL M f args O nx K := by
  refine CALL.looks [i] sp rfl (by simp [hi]) ha hb ⟨⟨rfl, ?_, plainH_below _ hp⟩, trivial⟩ ?_
  · rw [show renH (cname [i] nx) (.rows es rs) = .rows es rs from renH_plain _ hp]
    exact hO
  · rw [ren_plain _ hr]; exact hK

/-! ### Loops, told by what changes -/
/-- What stays of a frame. -/
def keepK : List Nat → Fr → (Fr → Prop) → Prop
  | [], fr, K => match lkp DS fr with
    | some v => K [(DS, v)]
    | none => K []
  | t :: ts, fr, K => match lkp t fr with
    | some v => keepK ts fr fun r => K ((t, v) :: r)
    | none => STOP "kept"
def appK : Fr → Fr → (Fr → Prop) → Prop
  | [], r, K => K r
  | (t, v) :: l, r, K => appK l r fun r => K ((t, v) :: r)
def appO : Hps → (Hps → Prop) → Prop
  | [], K => K []
  | (t, v) :: l, K => appO l fun r => K ((t, v) :: r)
theorem keepK_iff : ∀ {ts : List Nat} {fr : Fr} {K : Fr → Prop}, keepK ts fr K → ∃ r, K r
  | [], fr, K, h => by
    simp only [keepK] at h
    split at h
    · exact ⟨_, h⟩
    · exact ⟨_, h⟩
  | t :: ts, fr, K, h => by
    simp only [keepK] at h
    split at h
    · obtain ⟨r, hr⟩ := keepK_iff h; exact ⟨_, hr⟩
    · exact h.out.elim
theorem appK_iff : ∀ {l r : Fr} {K : Fr → Prop}, appK l r K ↔ K (l ++ r)
  | [], r, K => Iff.rfl
  | (t, v) :: l, r, K => by simp only [appK, List.cons_append, appK_iff]
theorem appO_iff : ∀ {l : Hps} {K : Hps → Prop}, appO l K ↔ K l
  | [], K => Iff.rfl
  | (t, v) :: l, K => by simp only [appO, appO_iff]
/-- A loop: of the frame stay the slots ks, and there is what chg tells of a tale x; the heap is Ox of it, by n0 names. -/
theorem LOOP.go {body : Code} {Q : Post} (hT : TabOK M.P M.C.T) (ks : List Nat) {X : Type} (P : X → Prop) (chg : X → Fr) (Ox : X → Hps) (n0 : Nat) (μ : X → Nat) (x0 : X) (hP : P x0)
    (h : keepK ks fr fun fr0 => (appK (chg x0) fr0 fun fr' => appO (Ox x0) fun O' => GOES M fr O nx fr' O' n0) ∧
      ∀ x, P x → appK (chg x) fr0 fun fr1 => appO (Ox x) fun O1 => run M body fr1 O1 n0 fun e fr O nx => match e with
        | .normal => ∃ x', P x' ∧ μ x' < μ x ∧ appK (chg x') fr0 fun fr' => appO (Ox x') fun O' => GOES M fr O nx fr' O' n0
        | e => Q e fr O nx) : LOOP M body fr O nx Q := by
  obtain ⟨fr0, h1, h2⟩ := keepK_iff h
  simp only [appK_iff, appO_iff] at h1 h2
  exact LOOP.inv hT P (fun x => (chg x ++ fr0, Ox x, n0)) μ x0 hP h1 h2

theorem GETG.at {rs : List (List SV)} {i : Nat} {g : Prop} {K : List SV → Prop} {row : List SV} (h : rs[i]? = some row) (k : K row) : GETG g rs i K := ⟨row, fun _ => h, k⟩

/-! ### Numbers within bounds -/
theorem wrap64 {a : Int} (h1 : -9223372036854775808 ≤ a) (h2 : a ≤ 9223372036854775807) : IntKind.i64.wrap a = a := IntWalk.i64_in _ ⟨by omega, by omega⟩
theorem wrap32 {a : Int} (h1 : -2147483648 ≤ a) (h2 : a ≤ 2147483647) : IntKind.i32.wrap a = a := IntWalk.i32_in _ ⟨by omega, by omega⟩
/-! ### What the walk's tests say in plain words: a row of rules under one name -/
theorem hsB : (∀ (p : Prop) [Decidable p], (decide p = true) = p) ∧ (∀ (p : Prop) [Decidable p], (decide p = false) ↔ ¬ p) ∧ (∀ b : Bool, (¬ b = true) = (b = false)) ∧ (∀ b : Bool, (¬ b = false) = (b = true)) ∧ (∀ a b : Bool, ((!a) = b) ↔ (a = !b)) ∧
    ((!true) = false) ∧ ((!false) = true) ∧ (∀ a b : Bool, ((a && b) = true) = (a = true ∧ b = true)) ∧ (∀ a b : Bool, ((a || b) = true) = (a = true ∨ b = true)) ∧ (∀ a b : Bool, ((a && b) = false) = (a = true → b = false)) ∧ (∀ a b : Bool, ((a || b) = false) = (a = false ∧ b = false)) ∧
    (∀ {α : Type} [BEq α] [LawfulBEq α] (a b : α), ((a != b) = true) ↔ a ≠ b) ∧ (∀ {α : Type} [BEq α] [LawfulBEq α] (a b : α), ((a != b) = false) ↔ a = b) ∧ (∀ {α : Type} [BEq α] [LawfulBEq α] (a b : α), ((a == b) = true) ↔ a = b) ∧ (∀ {α : Type} [BEq α] [LawfulBEq α] (a b : α), ((a == b) = false) ↔ a ≠ b) ∧
    (∀ {α : Type} (a b : α), (a ≠ b) = ¬ (a = b)) ∧ (∀ c : Bool, (bif c then c else false) = c) ∧ (∀ a b : Bool, (bif a then b else false) = (a && b)) ∧ (∀ a b : Bool, (bif a then true else b) = (a || b)) ∧ (∀ a b : Bool, (bif a then b else true) = (!a || b)) ∧ (∀ a b : Bool, (bif a then false else b) = (!a && b)) :=
  ⟨fun p _ => by simp, fun p _ => by simp, fun b => by simp, fun b => by simp, fun a b => by cases a <;> cases b <;> simp, rfl, rfl, fun a b => by simp, fun a b => by simp, fun a b => by simp, fun a b => by simp, fun a b => by simp, fun a b => by simp, fun a b => by simp, fun a b => by simp,
    fun a b => rfl, fun c => by cases c <;> rfl, fun a b => by cases a <;> rfl, fun a b => by cases a <;> rfl, fun a b => by cases a <;> rfl, fun a b => by cases a <;> rfl⟩
theorem hsC : (∀ a b : Int, (¬ a < b) ↔ b ≤ a) ∧ (∀ a b : Int, (¬ a ≤ b) ↔ b < a) ∧ (decide True = true) ∧ (decide False = false) ∧ (∀ {α : Type} (a b : α), (bif true then a else b) = a) ∧ (∀ {α : Type} (a b : α), (bif false then a else b) = b) ∧
    (∀ b : Bool, (true || b) = true) ∧ (∀ b : Bool, (b || true) = true) ∧ (∀ b : Bool, (false || b) = b) ∧ (∀ b : Bool, (b || false) = b) ∧ (∀ b : Bool, (true && b) = b) ∧ (∀ b : Bool, (b && true) = b) ∧ (∀ b : Bool, (false && b) = false) ∧ (∀ b : Bool, (b && false) = false) ∧
    (∀ p : Prop, (True ∨ p) = True) ∧ (∀ p : Prop, (p ∨ True) = True) ∧ (∀ p : Prop, (False ∨ p) = p) ∧ (∀ p : Prop, (p ∨ False) = p) ∧ (∀ p : Prop, (True ∧ p) = p) ∧ (∀ p : Prop, (p ∧ True) = p) ∧ (∀ p : Prop, (False ∧ p) = False) ∧ (∀ p : Prop, (p ∧ False) = False) ∧
    ((¬ True) = False) ∧ ((¬ False) = True) ∧ ((false = true) = False) ∧ ((true = false) = False) ∧ (∀ p q : Prop, (¬ (p ∨ q)) ↔ (¬ p ∧ ¬ q)) ∧ (∀ p q : Prop, (¬ (p ∧ q)) ↔ (p → ¬ q)) ∧ (∀ p : Prop, (¬ ¬ p) ↔ p) :=
  ⟨fun a b => Int.not_lt, fun a b => Int.not_le, by simp, by simp, fun a b => rfl, fun a b => rfl, fun b => by simp, fun b => by simp, fun b => by simp, fun b => by simp, fun b => by simp, fun b => by simp, fun b => by simp, fun b => by simp, fun p => by simp, fun p => by simp, fun p => by simp, fun p => by simp, fun p => by simp, fun p => by simp, fun p => by simp, fun p => by simp,
    by simp, by simp, by simp, by simp, fun p q => by simp, fun p q => by simp, fun p => Classical.not_not⟩
theorem lnB : (∀ {α : Type} (a : α) (l : List α), (a :: l).length = l.length + 1) ∧ (∀ {α : Type}, ([] : List α).length = 0) ∧ (∀ {α : Type} (a b : List α), (a ++ b).length = a.length + b.length) ∧ (∀ p : Prop, (True ∧ p) = p) ∧ (∀ p : Prop, (p ∧ True) = p) :=
  ⟨fun a l => rfl, rfl, fun a b => List.length_append, fun p => by simp, fun p => by simp⟩
/-- Room for what is appended: B is no less than an element's bytes. -/
theorem needApp {xs : List (List SV)} {m n k b : Nat} (B : Nat) (hb : Nat.ble b B = true) (hB : Nat.ble 1 B = true) (h1 : xs.length = m) (h2 : n ≤ k) (h3 : (n + m) * B ≤ 140737488355328) : xs.length = m ∧ n ≤ k ∧ n + m ≤ 9223372036854775807 ∧ (n + m) * b ≤ 140737488355328 := by
  have hb := Nat.le_of_ble_eq_true hb
  have hB := Nat.le_of_ble_eq_true hB
  refine ⟨h1, h2, ?_, Nat.le_trans (Nat.mul_le_mul_left _ hb) h3⟩
  have : n + m ≤ (n + m) * B := Nat.le_mul_of_pos_right _ hB
  omega
theorem le_reach {O : Hps} {b : Blk} {r len : Nat} {lim : Option Nat} {n : Nat} (h : n ≤ len) : (n : Int) ≤ (reach O b r len lim : Nat) := by
  have : len ≤ reach O b r len lim := by
    unfold reach
    split
    · exact Nat.le_refl _
    · split
      · exact Nat.le_max_left _ _
      · exact Nat.le_refl _
  omega
/-- The condition of an operation, shown at once. -/
theorem NEED.au {p K : Prop} (k : K) (h : p := by first | with_reducible rfl | omega | (simp (disch := omega) only [lnB, wrap64, wrap32] <;> omega) | (intro h; (try simp (disch := omega) only [hsB, hsC, lnB, wrap64, wrap32, simprocAttr] at h); (first | omega | (simp (disch := omega) only [lnB, wrap64, wrap32] <;> omega))) | (exact needApp 256 rfl rfl (by simp) (by simp) (by omega)) | (exact ⟨by omega, le_reach (by omega)⟩) | (exact ⟨by omega, by omega, le_reach (by omega)⟩) | (simp <;> omega)) : NEED p K := ⟨h, k⟩
end Go.Sx
/- UTF-8 in plain words: what stands at a place of a text. No program in sight. -/
set_option linter.unusedVariables false
namespace Go.Our
open Go.Sx

/-- Texts that fit into memory. -/
abbrev Sm (s : List UInt8) : Prop := s.length ≤ 1152921504606846976
/-- A byte as a number. -/
abbrev bn (c : UInt8) : Int := (c.toNat : Int)
theorem bn_lt (c : UInt8) : 0 ≤ bn c ∧ bn c < 256 := by
  have := c.toNat_lt
  unfold bn; omega
theorem byteAt_lt (s : List UInt8) (i : Int) : 0 ≤ byteAt s i ∧ byteAt s i < 256 := bn_lt _

def Scalar (r : Int) : Prop := 0 ≤ r ∧ r ≤ 1114111 ∧ (r < 55296 ∨ 57343 < r)
instance (r : Int) : Decidable (Scalar r) := by unfold Scalar; infer_instance
def scalarM (r : Int) : Bool := decide (Scalar r)
theorem scalarM_true {r : Int} : scalarM r = true ↔ 0 ≤ r ∧ r ≤ 1114111 ∧ (r < 55296 ∨ 57343 < r) := decide_eq_true_iff
theorem scalarM_false {r : Int} : scalarM r = false ↔ ¬ (0 ≤ r ∧ r ≤ 1114111 ∧ (r < 55296 ∨ 57343 < r)) := decide_eq_false_iff_not
def leadM (c : Int) : Int × Int :=
  if c < 128 then (1, c) else if c < 192 then (0, 0) else if c < 224 then (2, c % 32) else if c < 240 then (3, c % 16) else if c < 248 then (4, c % 8) else (0, 0)
def leastM (n : Int) : Int := if n = 2 then 128 else if n = 3 then 2048 else if n = 4 then 65536 else 0
theorem leastM1 : leastM 1 = 0 := rfl
theorem leastM2 : leastM 2 = 128 := rfl
theorem leastM3 : leastM 3 = 2048 := rfl
theorem leastM4 : leastM 4 = 65536 := rfl
def r2 (a b : Int) : Int := a % 32 * 64 + b % 64
def r3 (a b c : Int) : Int := (a % 16 * 64 + b % 64) * 64 + c % 64
def r4 (a b c d : Int) : Int := ((a % 8 * 64 + b % 64) * 64 + c % 64) * 64 + d % 64
/-- Out of up to four bytes, of m that there are: the scalar at the front, and how many bytes it has; (0, 0): there is none. -/
def decB (m a b c d : Int) : Int × Int :=
  if a < 128 then (a, 1)
  else if a < 192 then (0, 0)
  else if a < 224 then
    if 2 ≤ m ∧ (128 ≤ b ∧ b < 192) ∧ 128 ≤ r2 a b then (r2 a b, 2) else (0, 0)
  else if a < 240 then
    if 3 ≤ m ∧ (128 ≤ b ∧ b < 192) ∧ (128 ≤ c ∧ c < 192) ∧ 2048 ≤ r3 a b c ∧ (r3 a b c < 55296 ∨ 57343 < r3 a b c) then (r3 a b c, 3) else (0, 0)
  else if a < 248 then
    if 4 ≤ m ∧ (128 ≤ b ∧ b < 192) ∧ (128 ≤ c ∧ c < 192) ∧ (128 ≤ d ∧ d < 192) ∧ 65536 ≤ r4 a b c d ∧ r4 a b c d ≤ 1114111 then (r4 a b c d, 4) else (0, 0)
  else (0, 0)
/-- The scalar at a place. -/
def nextAt (s : List UInt8) (i : Int) : Int × Int := if i < 0 ∨ (s.length : Int) ≤ i then (0, 0) else decB (s.length - i) (byteAt s i) (byteAt s (i + 1)) (byteAt s (i + 2)) (byteAt s (i + 3))
theorem decB_n (m a b c d : Int) (h : 1 ≤ m) : (decB m a b c d).2 = 0 ∨ 1 ≤ (decB m a b c d).2 ∧ (decB m a b c d).2 ≤ 4 ∧ (decB m a b c d).2 ≤ m := by
  unfold decB
  (repeat' split) <;> simp <;> omega
theorem nextAt_n (s : List UInt8) (i : Int) : (nextAt s i).2 = 0 ∨ 1 ≤ (nextAt s i).2 ∧ (nextAt s i).2 ≤ 4 ∧ (nextAt s i).2 ≤ s.length - i := by
  unfold nextAt
  split
  · simp
  · exact decB_n _ _ _ _ _ (by omega)
/-- The first place, from one on, at which no scalar stands; -1: there is none. -/
def chk (s : List UInt8) (i : Nat) : Int :=
  if h : i < s.length ∧ (nextAt s i).2 ≠ 0 then chk s (i + (nextAt s i).2.toNat) else if i < s.length then i else -1
termination_by s.length - i
decreasing_by have := nextAt_n s i; omega
theorem chk_end {s : List UInt8} {i : Nat} (h : s.length ≤ i) : chk s i = -1 := by
  rw [chk, dif_neg (by omega), if_neg (by omega)]
theorem chk_bad {s : List UInt8} {i : Nat} (h : i < s.length) (h0 : (nextAt s i).2 = 0) : chk s i = i := by
  rw [chk, dif_neg (by simp [h0]), if_pos h]
theorem chk_step {s : List UInt8} {i : Nat} (h : i < s.length) (h0 : (nextAt s i).2 ≠ 0) : chk s i = chk s (i + (nextAt s i).2.toNat) := by
  rw [chk, dif_pos ⟨h, h0⟩]
theorem chk_ge (s : List UInt8) (i : Nat) : -1 ≤ chk s i := by
  induction i using chk.induct s with
  | case1 i h ih => rw [chk_step h.1 h.2]; exact ih
  | case2 i h hlt =>
    have : (nextAt s i).2 = 0 := by
      apply Classical.byContradiction; intro hh; exact h ⟨hlt, hh⟩
    rw [chk_bad hlt this]; omega
  | case3 i h hlt => rw [chk_end (by omega)]; omega
theorem leadM_cases (c : Int) : (c < 128 ∧ leadM c = (1, c)) ∨ ((128 ≤ c ∧ c < 192 ∨ 248 ≤ c) ∧ leadM c = (0, 0)) ∨ ((192 ≤ c ∧ c < 224) ∧ leadM c = (2, c % 32)) ∨ ((224 ≤ c ∧ c < 240) ∧ leadM c = (3, c % 16)) ∨ ((240 ≤ c ∧ c < 248) ∧ leadM c = (4, c % 8)) := by
  unfold leadM
  (repeat' split) <;> simp <;> omega
/-! ### Bits of bytes -/
theorem int_all {p : Int → Bool} (h : (List.range 256).all (fun n => p (n : Int)) = true) {c : Int} (h0 : 0 ≤ c ∧ c < 256) : p c = true := by
  have := List.all_eq_true.1 h c.toNat (List.mem_range.2 (by omega))
  rwa [show ((c.toNat : Nat) : Int) = c by omega] at this
theorem and31 {c : Int} (h : 0 ≤ c ∧ c < 256) : iAnd .u8 c 31 = c % 32 := by
  have := int_all (p := fun n => iAnd .u8 n 31 == n % 32) (by decide +kernel) h
  simpa using this
theorem and15 {c : Int} (h : 0 ≤ c ∧ c < 256) : iAnd .u8 c 15 = c % 16 := by
  have := int_all (p := fun n => iAnd .u8 n 15 == n % 16) (by decide +kernel) h
  simpa using this
theorem and7 {c : Int} (h : 0 ≤ c ∧ c < 256) : iAnd .u8 c 7 = c % 8 := by
  have := int_all (p := fun n => iAnd .u8 n 7 == n % 8) (by decide +kernel) h
  simpa using this
theorem and63 {c : Int} (h : 0 ≤ c ∧ c < 256) : iAnd .u8 c 63 = c % 64 := by
  have := int_all (p := fun n => iAnd .u8 n 63 == n % 64) (by decide +kernel) h
  simpa using this
theorem and192 {c : Int} (h : 0 ≤ c ∧ c < 256) : iAnd .u8 c 192 = c / 64 * 64 := by
  have := int_all (p := fun n => iAnd .u8 n 192 == n / 64 * 64) (by decide +kernel) h
  simpa using this
theorem ofInt_nat (w n : Nat) : (BitVec.ofInt w (n : Int)).toNat = n % 2 ^ w := by
  rw [BitVec.toNat_ofInt]; norm_cast
theorem or_nat {k : IntKind} {a b i : Nat} (hb : b < 2 ^ i) (h : a * 2 ^ i + b < 2 ^ k.bits) : iOr k ((a * 2 ^ i : Nat) : Int) (b : Int) = k.wrap ((a * 2 ^ i + b : Nat) : Int) := by
  unfold iOr
  have h1 : (BitVec.ofInt k.bits ((a * 2 ^ i : Nat) : Int) ||| BitVec.ofInt k.bits (b : Int)).toNat = a * 2 ^ i + b := by
    rw [BitVec.toNat_or, ofInt_nat, ofInt_nat, Nat.mod_eq_of_lt (by omega), Nat.mod_eq_of_lt (by omega)]
    rw [← Nat.shiftLeft_eq, Nat.shiftLeft_add_eq_or_of_lt hb]
  rw [h1]
/-- Six more bits. -/
theorem or6 {x c : Int} (hx : 0 ≤ x ∧ x < 16777216) (hc : 0 ≤ c ∧ c < 256) : iOr .i32 (iShl .i32 x 6) (IntKind.i32.wrap (iAnd .u8 c 63)) = x * 64 + c % 64 := by
  rw [and63 hc, wrap32 (by omega) (by omega)]
  have h1 : iShl .i32 x 6 = ((x.toNat * 2 ^ 6 : Nat) : Int) := by
    unfold iShl
    rw [show (min (Int.toNat 6) (IntKind.i32.bits)) = 6 by decide, show x * 2 ^ 6 = x * 64 by rfl, wrap32 (by omega) (by omega)]
    omega
  have h2 : c % 64 = (((c % 64).toNat : Nat) : Int) := by omega
  rw [h1, h2, or_nat (by omega) (by show _ < 2 ^ 32; omega), wrap32 (by omega) (by omega)]
  omega
end Go.Our
/- Terms and quads as they are laid. No program in sight. -/
set_option linter.unusedVariables false
set_option linter.unusedSimpArgs false
namespace Go.Our
open Go.Sx
/-- A term: its kind, text, datatype and language. -/
structure Tm where
  k : Int
  t : List UInt8
  y : List UInt8
  l : List UInt8
  deriving DecidableEq
structure Qd where
  s : Tm
  p : Tm
  o : Tm
  g : Tm
  deriving DecidableEq
abbrev TmSm (x : Tm) : Prop := Sm x.t ∧ Sm x.y ∧ Sm x.l
abbrev QdSm (q : Qd) : Prop := TmSm q.s ∧ TmSm q.p ∧ TmSm q.o ∧ TmSm q.g
def Tm.sv (x : Tm) : SV := .agg [.int .i64 x.k, .str x.t, .str x.y, .str x.l]
def Qd.sv (q : Qd) : SV := .agg [.int .i64 q.s.k, .str q.s.t, .str q.s.y, .str q.s.l, .int .i64 q.p.k, .str q.p.t, .str q.p.y, .str q.p.l, .int .i64 q.o.k, .str q.o.t, .str q.o.y, .str q.o.l, .int .i64 q.g.k, .str q.g.t, .str q.g.y, .str q.g.l]
def zeroTm : Tm := ⟨0, [], [], []⟩
end Go.Our
/- How terms and quads that come in read; what package variables hold; from a contract to a row's walk. Conditions: none. -/
set_option linter.unusedVariables false
set_option linter.unusedSimpArgs false
namespace Go.Proofs.YtjbbkimodgffiaaGreatDoor
open Go.RowKit Go.Our Go.ChangeShapes Go.WideShapes Go.ChangeAt Go.Sx

section
variable {H : Type} {enc : TypeId × Value → H} {w : World} {base : Nat} {sp : Nat → Bool} {held : Bool}
abbrev strV (s : List UInt8) : Value := .string ⟨s.toArray⟩
abbrev tmL (x : Tm) : List Value := [.int .i64 x.k, strV x.t, strV x.y, strV x.l]
abbrev tmV (x : Tm) : Value := .agg ⟨tmL x⟩
abbrev qdL (q : Qd) : List Value := [.int .i64 q.s.k, strV q.s.t, strV q.s.y, strV q.s.l, .int .i64 q.p.k, strV q.p.t, strV q.p.y, strV q.p.l, .int .i64 q.o.k, strV q.o.t, strV q.o.y, strV q.o.l, .int .i64 q.g.k, strV q.g.t, strV q.g.y, strV q.g.l]
abbrev qdV (q : Qd) : Value := .agg ⟨qdL q⟩
def tmD (x : Tm) : DataW H := .agg [.lit (.int .i64 x.k), .lit (.string x.t), .lit (.string x.y), .lit (.string x.l)]
def qdD (q : Qd) : DataW H := .agg [tmD q.s, tmD q.p, tmD q.o, tmD q.g]
abbrev TmWf (x : Tm) : Prop := (Lit.int .i64 x.k).wf = true
abbrev QdWf (q : Qd) : Prop := TmWf q.s ∧ TmWf q.p ∧ TmWf q.o ∧ TmWf q.g
theorem cellsOfI : Tryz.prog.cellsOf 3 = 1 := by kernel_rfl
theorem cellsOfS : Tryz.prog.cellsOf 9 = 1 := by kernel_rfl
theorem cellsOfT : Tryz.prog.cellsOf 28 = 4 := by kernel_rfl
theorem cellsOfQ : Tryz.prog.cellsOf 30 = 16 := by kernel_rfl
theorem strV_of (s : ByteArray) : Value.string s = strV s.data.toList := by cases s; rfl
set_option maxRecDepth 100000 in
theorem trod_tm {fuel : Nat} {cs : List Value} {x : DataW H × List MemPlace} (h : DataW.trod enc Tryz.prog w base sp held fuel 28 cs = some x) :
    ∃ t : Tm, cs = tmL t ∧ x = (tmD t, []) ∧ TmWf t := by
  cases fuel with
  | zero => simp [DataW.trod] at h
  | succ fuel =>
    simp only [DataW.trod, Tryz.underlying28, cellsOfT] at h
    split at h
    · rename_i hl
      match cs, hl with
      | [c0, c1, c2, c3], _ =>
        simp only [List.mapM_cons, List.mapM_nil, cellsOfI, cellsOfS, List.drop_zero, List.drop_succ_cons, List.take_succ_cons, List.take_zero] at h
        simp only [Option.map_eq_some_iff, Option.bind_eq_bind, Option.bind_eq_some_iff, Option.pure_def, Option.some.injEq] at h
        obtain ⟨xs, ⟨y0, h0, r1, ⟨y1, h1, r2, ⟨y2, h2, r3, ⟨y3, h3, r4, rfl, rfl⟩, rfl⟩, rfl⟩, rfl⟩, hx⟩ := h
        obtain ⟨k, hk, rfl, wk⟩ := DataW.trod_int Tryz.underlying3 h0
        obtain ⟨s1, hs1, rfl, w1⟩ := DataW.trod_string Tryz.underlying9 h1
        obtain ⟨s2, hs2, rfl, w2⟩ := DataW.trod_string Tryz.underlying9 h2
        obtain ⟨s3, hs3, rfl, w3⟩ := DataW.trod_string Tryz.underlying9 h3
        injection hk with hk _; injection hs1 with hs1 _; injection hs2 with hs2 _; injection hs3 with hs3 _
        subst hk hs1 hs2 hs3
        exact ⟨⟨k, s1.data.toList, s2.data.toList, s3.data.toList⟩, by rw [strV_of, strV_of, strV_of], by rw [← hx]; rfl, wk⟩
    · cases h
set_option maxRecDepth 100000 in
theorem trod_qd {fuel : Nat} {cs : List Value} {x : DataW H × List MemPlace} (h : DataW.trod enc Tryz.prog w base sp held fuel 30 cs = some x) :
    ∃ q : Qd, cs = qdL q ∧ x = (qdD q, []) ∧ QdWf q := by
  cases fuel with
  | zero => simp [DataW.trod] at h
  | succ fuel =>
    simp only [DataW.trod, Tryz.underlying30, cellsOfQ] at h
    split at h
    · rename_i hl
      simp only [List.mapM_cons, List.mapM_nil, cellsOfT] at h
      simp only [Option.map_eq_some_iff, Option.bind_eq_bind, Option.bind_eq_some_iff, Option.pure_def, Option.some.injEq] at h
      obtain ⟨xs, ⟨y0, h0, r1, ⟨y1, h1, r2, ⟨y2, h2, r3, ⟨y3, h3, r4, rfl, rfl⟩, rfl⟩, rfl⟩, rfl⟩, hx⟩ := h
      obtain ⟨s, hs, rfl, ws⟩ := trod_tm h0
      obtain ⟨p, hp, rfl, wp⟩ := trod_tm h1
      obtain ⟨o, ho, rfl, wo⟩ := trod_tm h2
      obtain ⟨g, hg, rfl, wg⟩ := trod_tm h3
      refine ⟨⟨s, p, o, g⟩, ?_, by rw [← hx]; rfl, ws, wp, wo, wg⟩
      match cs, hl with
      | [c0, c1, c2, c3, c4, c5, c6, c7, c8, c9, c10, c11, c12, c13, c14, c15], _ =>
        simp only [List.drop_zero, List.drop_succ_cons, List.take_succ_cons, List.take_zero, tmL, List.cons.injEq, and_true] at hs hp ho hg
        obtain ⟨rfl, rfl, rfl, rfl⟩ := hs
        obtain ⟨rfl, rfl, rfl, rfl⟩ := hp
        obtain ⟨rfl, rfl, rfl, rfl⟩ := ho
        obtain ⟨rfl, rfl, rfl, rfl⟩ := hg
        rfl
    · cases h
/-- What the size of a reading says of its texts. -/
theorem tm_small {x : Tm} (h : ((tmD x : DataW H).weights Tryz.prog 28).all (fun n => decide (n ≤ reachBytes)) = true) : x.t.length ≤ reachBytes ∧ x.y.length ≤ reachBytes ∧ x.l.length ≤ reachBytes := by
  simp only [tmD, DataW.weights, Tryz.underlying28, List.map_cons, List.map_nil, DataW.weightsEach, List.nil_append, List.append_nil, List.cons_append, List.all_cons, List.all_nil, Bool.and_true, Bool.and_eq_true, decide_eq_true_eq] at h
  exact h
theorem qd_small {q : Qd} (h : ((qdD q : DataW H).weights Tryz.prog 30).all (fun n => decide (n ≤ reachBytes)) = true) : (q.s.t.length ≤ reachBytes ∧ q.s.y.length ≤ reachBytes ∧ q.s.l.length ≤ reachBytes) ∧ (q.p.t.length ≤ reachBytes ∧ q.p.y.length ≤ reachBytes ∧ q.p.l.length ≤ reachBytes) ∧
    (q.o.t.length ≤ reachBytes ∧ q.o.y.length ≤ reachBytes ∧ q.o.l.length ≤ reachBytes) ∧ (q.g.t.length ≤ reachBytes ∧ q.g.y.length ≤ reachBytes ∧ q.g.l.length ≤ reachBytes) := by
  have e : (qdD q : DataW H).weights Tryz.prog 30 = (tmD q.s : DataW H).weights Tryz.prog 28 ++ ((tmD q.p : DataW H).weights Tryz.prog 28 ++ ((tmD q.o : DataW H).weights Tryz.prog 28 ++ ((tmD q.g : DataW H).weights Tryz.prog 28 ++ []))) := by
    simp only [qdD, DataW.weights, Tryz.underlying30, List.map_cons, List.map_nil, DataW.weightsEach]
  rw [e] at h
  simp only [List.all_append, Bool.and_eq_true] at h
  exact ⟨tm_small h.1, tm_small h.2.1, tm_small h.2.2.1, tm_small h.2.2.2.1⟩
theorem TmSm.of {x : Tm} (h : x.t.length ≤ reachBytes ∧ x.y.length ≤ reachBytes ∧ x.l.length ≤ reachBytes) : TmSm x := by
  unfold reachBytes at h
  exact ⟨by omega, by omega, by omega⟩
theorem qd_sm {q : Qd} (h : ((qdD q : DataW H).weights Tryz.prog 30).all (fun n => decide (n ≤ reachBytes)) = true) : QdSm q :=
  have h := qd_small h
  ⟨TmSm.of h.1, TmSm.of h.2.1, TmSm.of h.2.2.1, TmSm.of h.2.2.2⟩
end
end Go.Proofs.YtjbbkimodgffiaaGreatDoor
/- What the package variable names.basesTable holds, by the row's own words. Conditions: none. -/
set_option linter.unusedVariables false
set_option linter.unusedSimpArgs false
namespace Go.Proofs.YtjbbkimodgffiaaGreatDoor
open Go.RowKit Go.Our Go.ChangeShapes Go.WideShapes Go.ChangeAt Go.Sx
theorem globOf {W : World} {l : List (String × DataW Unit)} (hl : (l.filter fun x => x.2.handleName?.isNone).filter (fun x => x.1 == "tessera/names.basesTable") = [("tessera/names.basesTable", Lib.tabData .i32 basesTableInts)]) (h : laidMetH Tryz.prog l W) : GlobOK W := by
  have h1 := laidMet.filter (fun x => x.1 == "tessera/names.basesTable") (laidMetH_iff.1 h).1
  rw [hl] at h1
  have hT : Lib.TabIs Tryz.prog W "tessera/names.basesTable" .i32 basesTableInts :=
    Lib.tabIs_of_head (rest := []) (g := 1) (by kernel_rfl) (by kernel_rfl) Tryz.underlying226 Tryz.underlying21 (by kernel_rfl) (by kernel_rfl) h1
  have hc : ∀ i, i < 24 → W.cell? ⟨1, i, none⟩ = some (.int .i32 (basesTableInts.getD i 0)) := fun i hi => hT.cell (by kernel_rfl) i hi
  intro g h hg
  simp only [tab] at hg
  rw [lkp_cons] at hg
  split at hg
  case isFalse => simp [lkp] at hg
  rename_i eg
  subst eg
  injection hg with hg
  subst hg
  have h0 := hc 0 (by omega)
  unfold World.cell? at h0
  split at h0
  case h_2 => cases h0
  rename_i c T fz hh
  have hall : ∀ i, i < 24 → c[i]? = some (.int .i32 (basesTableInts.getD i 0)) := by
    intro i hi
    have := hc i hi
    unfold World.cell? at this
    simp only at this hh
    rw [hh] at this
    simpa using this
  simp only at hh
  refine ⟨?_, (Array.getElem?_eq_some_iff.1 hh).1⟩
  simp only [HpSat]
  refine .inr ⟨⟨1, 0, 0⟩, c, T, fz, rfl, hh, fun h => (by cases h), fun i row hr => ?_⟩
  unfold basesTableRows at hr
  rw [List.getElem?_map] at hr
  obtain ⟨x, hx, rfl⟩ := Option.map_eq_some_iff.1 hr
  have hi : i < 24 := (List.getElem?_eq_some_iff.1 hx).1
  refine ⟨rfl, fun j sv hj => ?_⟩
  cases j with
  | succ j => simp at hj
  | zero =>
    simp only [List.getElem?_cons_zero, Option.some.injEq] at hj
    subst hj
    refine ⟨_, by simp only [Nat.zero_add, Nat.mul_one, Nat.add_zero]; exact hall i hi, rfl, ?_⟩
    simp only [Den, List.getD, hx, Option.getD_some]
end Go.Proofs.YtjbbkimodgffiaaGreatDoor
/- States with other names at a loop's end; lists that grow. Conditions: none. -/
set_option linter.unusedVariables false
set_option linter.unusedSimpArgs false
namespace Go.Sx
open Go
def subK (σ : Nat → Nat) (fr : Fr) : Fr → Prop
  | [] => True
  | (t, v) :: r => match lkp t fr with
    | some u => u = ren σ v ∧ subK σ fr r
    | none => False
def subOK (σ : Nat → Nat) (O : Hps) : Hps → Prop
  | [] => True
  | (i, h) :: r => match lkp (σ i) O with
    | some g => g = renH σ h ∧ subOK σ O r
    | none => False
theorem subK_fr {σ : Nat → Nat} {m : Nat} {fr : Fr} : ∀ {fr' : Fr}, subK σ fr fr' → belowFr m fr' = true → SubFr σ m fr fr'
  | [], _, _ => trivial
  | (t, v) :: r, h, b => by
    simp only [subK] at h
    simp only [belowFr, Bool.and_eq_true] at b
    split at h
    · rename_i u hu
      obtain ⟨rfl, h⟩ := h
      exact ⟨⟨hu, b.1⟩, subK_fr h b.2⟩
    · exact h.elim
theorem subOK_o {σ : Nat → Nat} {m : Nat} {O : Hps} : ∀ {O' : Hps}, subOK σ O O' → belowO m O' = true → SubO σ m O O'
  | [], _, _ => trivial
  | (t, v) :: r, h, b => by
    simp only [subOK] at h
    simp only [belowO, Bool.and_eq_true] at b
    split at h
    · rename_i u hu
      obtain ⟨rfl, h⟩ := h
      exact ⟨⟨b.1, hu, b.2.1⟩, subOK_o h b.2.2⟩
    · exact h.elim
theorem GOES.keeping {M : Mx} {fr : Fr} {O : Hps} {nx k : Nat} {fr' : Fr} {O' : Hps} (hk : M.η0.length = k) (τ : List Nat) (hτ : τ.all (fun i => Nat.blt i nx) = true)
    (hn : (namesOf O').all (fun j => (namesOf O').all fun j' => !(Nat.beq (fname k τ j) (fname k τ j')) || Nat.beq j j') = true)
    (hbf : belowFr (k + τ.length) fr' = true) (hbo : belowO (k + τ.length) O' = true) (hf : subK (fname k τ) fr fr') (hO : subOK (fname k τ) O O') (hd : dsSame fr fr' = true := by rfl) (hro : roSame M.C.ro (fname k τ) (k + τ.length) = true := by rfl) : GOES M fr O nx fr' O' (k + τ.length) :=
  GOES.keep hk τ hτ (subK_fr hf hbf) (subOK_o hO hbo) hn hd hro
theorem sl_eq {b b' : Blk} {r es n n' : Nat} {lim : Option Nat} (hb : b = b') (hn : n = n') : SV.sl b r es n lim = SV.sl b' r es n' lim := by rw [hb, hn]
theorem rows_eq {es : Nat} {rs rs' : List (List SV)} {σ : Nat → Nat} (hp : plainLL rs' = true) (h : rs = rs') : Hp.rows es rs = renH σ (.rows es rs') := by rw [renH_plain σ (h := .rows es rs') hp, h]
/-- An end with a tuple of a new slice and plain values. -/
theorem FIN.rowsT {M : Mx} {O : Hps} {nx k : Nat} {r : SV} {Q : SV → Hps → Nat → Prop} (hk : M.η0.length = k) (i es len : Nat) {rs : List (List SV)} {vs : List SV} (hr : r = .tup (.sl (.loc i) 0 es len none :: vs)) (hO : lkp i O = some (.rows es rs)) (hi : Nat.blt i nx = true) (hp : plainLL rs = true) (hv : plainL vs = true)
    (hQ : Q (.tup (.sl (.loc k) 0 es len none :: vs)) [(k, .rows es rs)] (k + 1)) : FIN M O nx r Q := by
  have hi : i < nx := by simpa [Nat.blt_eq] using hi
  have hf : fname k [i] k = i := by simp [fname]
  refine FIN.keep hk [i] (rc := .tup (.sl (.loc k) 0 es len none :: vs)) (Oc := [(k, .rows es rs)]) (fun j hj => by simp at hj; omega) (by rw [hr]; simp only [ren, renL, renB, hf, renL_plain _ hv]) (by simp [below, belowL, belowB, Nat.blt_eq, plainL_below _ hv]) ?_ ?_ hQ
  · intro p hp'
    simp only [List.mem_singleton] at hp'
    subst hp'
    refine ⟨by simp, ?_, by simp only [belowH, plainLL_below _ hp]⟩
    simp only [renH, hf, renLL_plain _ hp, hO]
  · intro j hj j' hj' _
    simp [namesOf] at hj hj'
    omega
theorem Does.mono {P : Program} {T : Tab} {f : FuncId} {k : Nat} {args : List SV} {O S : Hps} {Q Q' : SV → Hps → Nat → Prop} (h : Does P T f k args O S Q) (hq : ∀ r O nx, Q r O nx → Q' r O nx) : Does P T f k args O S Q' :=
  ⟨fun M vs h1 h2 h3 h4 h5 h6 => (h.out M vs h1 h2 h3 h4 h5 h6).mono fun v w' ⟨r, O', nx', η', a, b⟩ => ⟨r, O', nx', η', hq _ _ _ a, b⟩⟩
/-- A result with a new slice at its head. -/
def NewT (es : Nat) (rs : List (List SV)) (vs : List SV) : SV → Hps → Nat → Prop := fun r O nx => r = .tup (.sl (.loc 0) 0 es rs.length none :: vs) ∧ O = [(0, .rows es rs)] ∧ nx = 1
theorem CALL.newT {M : Mx} {O : Hps} {nx : Nat} {f : FuncId} {args : List SV} {K : SV → Hps → Nat → Prop} {es : Nat} {rs : List (List SV)} {vs : List SV} (sp : Does M.P M.C.T f 0 args [] [] (NewT es rs vs)) (hp : plainL args = true) (hrs : plainLL rs = true) (hvs : plainL vs = true)
    (hK : K (.tup (.sl (.loc nx) 0 es rs.length none :: vs)) ((nx, .rows es rs) :: O) (nx + 1)) : CALL M f args O nx K := by
  refine CALL.of [] sp rfl (fun i hi => by cases hi) (renL_plain _ hp).symm (plainL_below 0 hp) (fun p hp => by cases hp) (fun j hj => by cases hj) (fun p hp => by cases hp) ?_
  rintro r' O' nx' ⟨rfl, rfl, rfl⟩
  simp only [ren, renL, renB, renO, renH, renLL_plain _ hrs, renL_plain _ hvs, cname_ge (L := []) (nx := nx) (k := 0) rfl, namesOf, List.map_nil, outside_nil, List.cons_append, List.nil_append]
  exact hK
/-- A result that is a new slice. -/
def NewS (es : Nat) (rs : List (List SV)) : SV → Hps → Nat → Prop := fun r O nx => r = .sl (.loc 0) 0 es rs.length none ∧ O = [(0, .rows es rs)] ∧ nx = 1
theorem CALL.newS {M : Mx} {O : Hps} {nx : Nat} {f : FuncId} {args : List SV} {K : SV → Hps → Nat → Prop} {es : Nat} {rs : List (List SV)} (sp : Does M.P M.C.T f 0 args [] [] (NewS es rs)) (hp : plainL args = true) (hrs : plainLL rs = true)
    (hK : K (.sl (.loc nx) 0 es rs.length none) ((nx, .rows es rs) :: O) (nx + 1)) : CALL M f args O nx K := by
  refine CALL.of [] sp rfl (fun i hi => by cases hi) (renL_plain _ hp).symm (plainL_below 0 hp) (fun p hp => by cases hp) (fun j hj => by cases hj) (fun p hp => by cases hp) ?_
  rintro r' O' nx' ⟨rfl, rfl, rfl⟩
  simp only [ren, renB, renO, renH, renLL_plain _ hrs, cname_ge (L := []) (nx := nx) (k := 0) rfl, namesOf, List.map_nil, outside_nil, List.cons_append, List.nil_append]
  exact hK
end Go.Sx
/- Calls among functions that share their names for blocks; empty slices in boxes by names. Conditions: none. -/
set_option linter.unusedVariables false
set_option linter.unusedSimpArgs false
namespace Go.Sx
open Go

/-! ### Names that stay -/
section
variable {σ : Nat → Nat} {k : Nat}
theorem renB_below (h : ∀ j, j < k → σ j = j) : ∀ {b : Blk}, belowB k b = true → renB σ b = b
  | .glob g, _ => rfl
  | .loc i, hb => by simp only [belowB, Nat.blt_eq] at hb; simp only [renB, h i hb]
mutual
theorem ren_below (h : ∀ j, j < k → σ j = j) : ∀ {v : SV}, below k v = true → ren σ v = v
  | .bool _, _ => rfl
  | .int _ _, _ => rfl
  | .str _, _ => rfl
  | .val _, _ => rfl
  | .any, _ => rfl
  | .nb _, _ => rfl
  | .dfs l, hb => by simp only [below] at hb; simp only [ren, renL_below h hb]
  | .yf b, hb => by simp only [below] at hb; simp only [ren, renB_below h hb]
  | .mp b, hb => by simp only [below] at hb; simp only [ren, renB_below h hb]
  | .ptr b _ _ _, hb => by simp only [below] at hb; simp only [ren, renB_below h hb]
  | .sl b _ _ _ _, hb => by simp only [below] at hb; simp only [ren, renB_below h hb]
  | .agg cs, hb => by simp only [below] at hb; simp only [ren, renL_below h hb]
  | .arr _ rs, hb => by simp only [below] at hb; simp only [ren, renLL_below h hb]
  | .tup vs, hb => by simp only [below] at hb; simp only [ren, renL_below h hb]
  | .ifc _ v, hb => by simp only [below] at hb; simp only [ren, ren_below h hb]
  | .fn _ a b, hb => by simp only [below, Bool.and_eq_true] at hb; simp only [ren, renL_below h hb.1, renL_below h hb.2]
theorem renL_below (h : ∀ j, j < k → σ j = j) : ∀ {vs : List SV}, belowL k vs = true → renL σ vs = vs
  | [], _ => rfl
  | c :: cs, hb => by simp only [belowL, Bool.and_eq_true] at hb; simp only [renL, ren_below h hb.1, renL_below h hb.2]
theorem renLL_below (h : ∀ j, j < k → σ j = j) : ∀ {vs : List (List SV)}, belowLL k vs = true → renLL σ vs = vs
  | [], _ => rfl
  | c :: cs, hb => by simp only [belowLL, Bool.and_eq_true] at hb; simp only [renLL, renL_below h hb.1, renLL_below h hb.2]
end
theorem renF_below (h : ∀ j, j < k → σ j = j) : ∀ {fr : Fr}, belowF k fr = true → renF σ fr = fr
  | [], _ => rfl
  | (t, v) :: r, hb => by
    simp only [belowF, Bool.and_eq_true] at hb
    simp only [renF, ren_below h hb.1, renF_below h hb.2]
theorem renC_below (h : ∀ j, j < k → σ j = j) : ∀ {c : DC}, belowC k c = true → renC σ c = c
  | .v s, hb => by simp only [belowC] at hb; simp only [renC, ren_below h hb]
  | .kid _ rs, hb => by simp only [belowC] at hb; simp only [renC, renLL_below h hb]
theorem renCL_below (h : ∀ j, j < k → σ j = j) : ∀ {r : List DC}, belowCL k r = true → renCL σ r = r
  | [], _ => rfl
  | c :: cs, hb => by simp only [belowCL, Bool.and_eq_true] at hb; simp only [renCL, renC_below h hb.1, renCL_below h hb.2]
theorem renCLL_below (h : ∀ j, j < k → σ j = j) : ∀ {r : List (List DC)}, belowCLL k r = true → renCLL σ r = r
  | [], _ => rfl
  | c :: cs, hb => by simp only [belowCLL, Bool.and_eq_true] at hb; simp only [renCLL, renCL_below h hb.1, renCLL_below h hb.2]
theorem renH_below (h : ∀ j, j < k → σ j = j) : ∀ {hp : Hp}, belowH k hp = true → renH σ hp = hp
  | .deep _ _ _, hb => by simp only [belowH] at hb; simp only [renH, renCLL_below h hb]
  | .box _, hb => by simp only [belowH] at hb; simp only [renH, renL_below h hb]
  | .rows _ _, hb => by simp only [belowH] at hb; simp only [renH, renLL_below h hb]
  | .siter _ _, _ => rfl
  | .tbl _, _ => rfl
  | .bld _ _ _, _ => rfl
  | .dfr, _ => rfl
  | .lp _ _ fr, hb => by simp only [belowH] at hb; simp only [renH, renF_below h hb]
  | .mp _, hb => by simp only [belowH] at hb; simp only [renH, renLL_below h hb]
theorem renO_below (h : ∀ j, j < k → σ j = j) : ∀ {O : Hps}, belowO k O = true → renO σ O = O
  | [], _ => rfl
  | (i, hp) :: r, hb => by
    simp only [belowO, Bool.and_eq_true, Nat.blt_eq] at hb
    simp only [renO, h i hb.1, renH_below h hb.2.1, renO_below h hb.2.2]
end
variable {M : Mx} {fr fr' : Fr} {O O' : Hps} {nx : Nat}
theorem range_get {k i : Nat} (h : i < k) : (List.range k).getD i 0 = i := by simp [List.getD, h]
theorem cname_range {k nx j : Nat} (h : j < k) : cname (List.range k) nx j = j := by
  simp only [cname, List.length_range, if_pos h, range_get h]
/-- What a contract owns and looks at stands so in the caller's heap, by the same names. -/
def hereO (O : Hps) : Hps → Prop
  | [] => True
  | (i, h) :: r => match lkp i O with
    | some g => g = h ∧ hereO O r
    | none => False
def hereS (C : Cx) (O : Hps) : Hps → Prop
  | [] => True
  | (i, h) :: r => match hLook C O (.loc i) with
    | some g => g = h ∧ hereS C O r
    | none => False
theorem hereO.at {O : Hps} : ∀ {Oc : Hps}, hereO O Oc → ∀ p ∈ Oc, lkp p.1 O = some p.2
  | [], _, p, hp => by cases hp
  | (i, h) :: r, hs, p, hp => by
    simp only [hereO] at hs
    split at hs
    · rename_i g hg
      obtain ⟨rfl, hs⟩ := hs
      rcases List.mem_cons.1 hp with rfl | hp
      · exact hg
      · exact hereO.at hs p hp
    · exact hs.elim
theorem hereS.at {C : Cx} {O : Hps} : ∀ {Sc : Hps}, hereS C O Sc → ∀ p ∈ Sc, hLook C O (.loc p.1) = some p.2
  | [], _, p, hp => by cases hp
  | (i, h) :: r, hs, p, hp => by
    simp only [hereS] at hs
    split at hs
    · rename_i g hg
      obtain ⟨rfl, hs⟩ := hs
      rcases List.mem_cons.1 hp with rfl | hp
      · exact hg
      · exact hereS.at hs p hp
    · exact hs.elim
theorem belowO_mem {k : Nat} : ∀ {O : Hps}, belowO k O = true → ∀ p ∈ O, p.1 < k ∧ belowH k p.2 = true
  | [], _, p, hp => by cases hp
  | (i, h) :: r, hb, p, hp => by
    simp only [belowO, Bool.and_eq_true, Nat.blt_eq] at hb
    rcases List.mem_cons.1 hp with rfl | hp
    · exact ⟨hb.1, hb.2.1⟩
    · exact belowO_mem hb.2.2 p hp
theorem namesOf_below {k : Nat} : ∀ {O : Hps}, belowO k O = true → ∀ j ∈ namesOf O, j < k
  | [], _, j, hj => by cases hj
  | (i, h) :: r, hb, j, hj => by
    simp only [belowO, Bool.and_eq_true, Nat.blt_eq] at hb
    rcases List.mem_cons.1 hj with rfl | hj
    · exact hb.1
    · exact namesOf_below hb.2.2 j hj
theorem map_same {f : Nat → Nat} : ∀ {l : List Nat}, (∀ j ∈ l, f j = j) → l.map f = l
  | [], _ => rfl
  | x :: l, h => by simp only [List.map_cons, h x (List.mem_cons_self ..), map_same fun j hj => h j (List.mem_cons_of_mem _ hj)]
theorem mem_names : ∀ {S : Hps} {p : Nat × Hp}, p ∈ S → p.1 ∈ namesOf S
  | [], p, hp => by cases hp
  | (i, h) :: S, p, hp => by
    rcases List.mem_cons.1 hp with rfl | hp
    · exact List.mem_cons_self ..
    · exact List.mem_cons_of_mem _ (mem_names hp)
/-- A call by the caller's own names, the first k; the callee makes no new ones. -/
theorem CALL.here {f : FuncId} {args : List SV} {K : SV → Hps → Nat → Prop} {k : Nat} {Oc Sc : Hps} {Q : SV → Hps → Nat → Prop} (sp : Does M.P M.C.T f k args Oc Sc Q)
    (hk : Nat.ble k nx = true) (hb : belowL k args = true) (hbO : belowO k Oc = true) (hbS : belowO k Sc = true) (hO : hereO O Oc) (hS : hereS M.C O Sc)
    (hd : (namesOf Sc).all (fun j => !((namesOf Oc).any (Nat.beq j))) = true)
    (hQ : ∀ r O' nx', Q r O' nx' → nx' = k ∧ below k r = true ∧ belowO k O' = true)
    (hK : ∀ r O', Q r O' k → K r (O' ++ outside (namesOf Oc) O) nx) : CALL M f args O nx K := by
  have hk := Nat.le_of_ble_eq_true hk
  have hσ : ∀ j, j < k → cname (List.range k) nx j = j := fun j hj => cname_range hj
  have hnames : (namesOf Oc).map (cname (List.range k) nx) = namesOf Oc := map_same fun j hj => hσ j (namesOf_below hbO j hj)
  refine CALL.of (List.range k) sp (by simp) (fun i hi => by have := List.mem_range.1 hi; omega) (renL_below hσ hb).symm hb ?_ ?_ ?_ ?_
  · intro p hp
    obtain ⟨h1, h2⟩ := belowO_mem hbO p hp
    exact ⟨h1, by rw [hσ _ h1, renH_below hσ h2]; exact hO.at p hp, h2⟩
  · intro j hj j' hj' he
    rwa [hσ j (namesOf_below hbO j hj), hσ j' (namesOf_below hbO j' hj')] at he
  · intro p hp
    obtain ⟨h1, h2⟩ := belowO_mem hbS p hp
    refine ⟨h1, by rw [hσ _ h1, renH_below hσ h2]; exact hS.at p hp, h2, ?_⟩
    rw [hnames, hσ _ h1]
    intro hm
    have hj : p.1 ∈ namesOf Sc := mem_names hp
    have := List.all_eq_true.1 hd _ hj
    simp only [Bool.not_eq_eq_eq_not, Bool.not_true] at this
    have h3 : (namesOf Oc).any (Nat.beq p.1) = true := List.any_eq_true.2 ⟨p.1, hm, beq_self _⟩
    rw [h3] at this; cases this
  · intro r O' nx' hq
    obtain ⟨rfl, h1, h2⟩ := hQ r O' nx' hq
    have := hK r O' hq
    rw [ren_below hσ h1, renO_below hσ h2, hnames]
    simpa using this

/-- What a contract owns and looks at stands so in the caller's heap, by the caller's names for it. -/
def thereO (σ : Nat → Nat) (O : Hps) : Hps → Prop
  | [] => True
  | (i, h) :: r => match lkp (σ i) O with
    | some g => g = renH σ h ∧ thereO σ O r
    | none => False
def thereS (C : Cx) (σ : Nat → Nat) (O : Hps) : Hps → Prop
  | [] => True
  | (i, h) :: r => match hLook C O (.loc (σ i)) with
    | some g => g = renH σ h ∧ thereS C σ O r
    | none => False
theorem thereO.at {σ : Nat → Nat} {O : Hps} : ∀ {Oc : Hps}, thereO σ O Oc → ∀ p ∈ Oc, lkp (σ p.1) O = some (renH σ p.2)
  | [], _, p, hp => by cases hp
  | (i, h) :: r, hs, p, hp => by
    simp only [thereO] at hs
    split at hs
    · rename_i g hg
      obtain ⟨rfl, hs⟩ := hs
      rcases List.mem_cons.1 hp with rfl | hp
      · exact hg
      · exact thereO.at hs p hp
    · exact hs.elim
theorem thereS.at {C : Cx} {σ : Nat → Nat} {O : Hps} : ∀ {Sc : Hps}, thereS C σ O Sc → ∀ p ∈ Sc, hLook C O (.loc (σ p.1)) = some (renH σ p.2)
  | [], _, p, hp => by cases hp
  | (i, h) :: r, hs, p, hp => by
    simp only [thereS] at hs
    split at hs
    · rename_i g hg
      obtain ⟨rfl, hs⟩ := hs
      rcases List.mem_cons.1 hp with rfl | hp
      · exact hg
      · exact thereS.at hs p hp
    · exact hs.elim
/-- A call, the callee's names being the caller's L, in this order. -/
theorem CALL.at {f : FuncId} {args argsc : List SV} {K : SV → Hps → Nat → Prop} {k : Nat} {Oc Sc : Hps} {Q : SV → Hps → Nat → Prop} (L : List Nat) (sp : Does M.P M.C.T f k argsc Oc Sc Q)
    (hL : L.length = k) (hLn : L.all (fun i => Nat.blt i nx) = true) (ha : args = renL (cname L nx) argsc) (hb : belowL k argsc = true) (hbO : belowO k Oc = true) (hbS : belowO k Sc = true) (hO : thereO (cname L nx) O Oc) (hS : thereS M.C (cname L nx) O Sc)
    (hinj : (namesOf Oc).all (fun j => (namesOf Oc).all fun j' => !(Nat.beq (cname L nx j) (cname L nx j')) || Nat.beq j j') = true)
    (hd : (namesOf Sc).all (fun j => !((namesOf Oc).any fun j' => Nat.beq (cname L nx j) (cname L nx j'))) = true)
    (hK : ∀ r O' nx', Q r O' nx' → K (ren (cname L nx) r) (renO (cname L nx) O' ++ outside ((namesOf Oc).map (cname L nx)) O) (nx + (nx' - k))) : CALL M f args O nx K := by
  refine CALL.of L sp hL (fun i hi => by have := List.all_eq_true.1 hLn i hi; simpa [Nat.blt_eq] using this) ha hb (fun p hp => ?_) (fun j hj j' hj' he => ?_) (fun p hp => ?_) hK
  · obtain ⟨h1, h2⟩ := belowO_mem hbO p hp
    exact ⟨h1, hO.at p hp, h2⟩
  · have := List.all_eq_true.1 (List.all_eq_true.1 hinj j hj) j' hj'
    simp only [he, beq_self, Bool.not_true, Bool.false_or] at this
    exact beq_eq this
  · obtain ⟨h1, h2⟩ := belowO_mem hbS p hp
    refine ⟨h1, hS.at p hp, h2, fun hm => ?_⟩
    obtain ⟨j', hj', he⟩ := List.mem_map.1 hm
    have := List.all_eq_true.1 hd _ (mem_names hp)
    simp only [Bool.not_eq_eq_eq_not, Bool.not_true] at this
    have h3 : (namesOf Oc).any (fun j' => Nat.beq (cname L nx p.1) (cname L nx j')) = true := List.any_eq_true.2 ⟨j', hj', by rw [he]; exact beq_self _⟩
    rw [h3] at this; cases this

/-- An end that tells of blocks: those that came in by their names, and those of τ. -/
theorem FIN.at {k : Nat} {r : SV} {Q : SV → Hps → Nat → Prop} (hk : M.η0.length = k) (τ : List Nat) (rc : SV) (Oc : Hps) (hτ : τ.all (fun i => Nat.blt i nx) = true) (hr : r = ren (fname k τ) rc) (hb : below (k + τ.length) rc = true) (hbO : belowO (k + τ.length) Oc = true)
    (hO : thereO (fname k τ) O Oc) (hinj : (namesOf Oc).all (fun j => (namesOf Oc).all fun j' => !(Nat.beq (fname k τ j) (fname k τ j')) || Nat.beq j j') = true) (hQ : Q rc Oc (k + τ.length)) : FIN M O nx r Q := by
  refine FIN.keep hk τ (rc := rc) (Oc := Oc) (fun i hi => by have := List.all_eq_true.1 hτ i hi; simpa [Nat.blt_eq] using this) hr hb (fun p hp => ?_) (fun j hj j' hj' he => ?_) hQ
  · obtain ⟨h1, h2⟩ := belowO_mem hbO p hp
    exact ⟨h1, hO.at p hp, h2⟩
  · have := List.all_eq_true.1 (List.all_eq_true.1 hinj j hj) j' hj'
    simp only [he, beq_self, Bool.not_true, Bool.false_or] at this
    exact beq_eq this

/-- A loop that is come to on many ways, walked once. -/
theorem loopOnce {G : Prop} {body : Code} {Q : Post} {n : Nat} {X : Type} (P : X → Prop) (frx : X → Fr) (Ox : X → Hps) (h1 : (∀ x, P x → LOOP M body (frx x) (Ox x) n Q) → G) (h2 : ∀ x, P x → LOOP M body (frx x) (Ox x) n Q) : G := h1 h2

/-! ### The heap told otherwise ahead of a call -/
theorem CALL.weak {f : FuncId} {args : List SV} {K : SV → Hps → Nat → Prop} {O1 : Hps} {n1 : Nat} (h : ∀ η w, HeapOK M η w O nx → ∃ η', η <+: η' ∧ HeapOK M η' w O1 n1) (hc : CALL M f args O1 n1 K) : CALL M f args O nx K := by
  refine ⟨fun η w vs H hd => ?_⟩
  obtain ⟨η1, hp, H1⟩ := h η w H
  refine (hc.out η1 w vs H1 (DenL.mono hp hd)).mono ?_
  rintro v w' ⟨r, O', nx', η', h1, h2⟩
  exact ⟨r, O', nx', η', hp.trans h1, h2⟩
/-- A nil slice in a box's cell, by a name of its own. -/
def nilAt (nx es : Nat) : Nat → List SV → Option (List SV)
  | 0, .val (.slice none 0 0) :: r => some (.sl (.loc nx) 0 es 0 none :: r)
  | j + 1, c :: r => match nilAt nx es j r with | some r => some (c :: r) | none => none
  | _, _ => none
theorem nilAt_get {nx es : Nat} : ∀ {j : Nat} {row row' : List SV}, nilAt nx es j row = some row' → ∀ (i : Nat) (sv : SV), row'[i]? = some sv → row[i]? = some sv ∨ (row[i]? = some (SV.val (.slice none 0 0)) ∧ sv = SV.sl (.loc nx) 0 es 0 none)
  | 0, [], _, h => by simp [nilAt] at h
  | 0, c :: r, row', h => by
    unfold nilAt at h
    split at h
    · rename_i e1 e2
      injection e2 with e2 e3
      subst e2 e3
      injection h with h; subst h
      intro i sv hi
      cases i with
      | zero => simp at hi; subst hi; exact .inr ⟨rfl, rfl⟩
      | succ i => exact .inl (by simpa using hi)
    · simp_all
    · cases h
  | j + 1, [], _, h => by simp [nilAt] at h
  | j + 1, c :: r, row', h => by
    unfold nilAt at h
    split at h
    · rename_i r1 hr
      injection h with h; subst h
      intro i sv hi
      cases i with
      | zero => left; simpa using hi
      | succ i =>
        have := nilAt_get hr i sv (by simpa using hi)
        simpa using this
    · cases h
theorem HeapOK.nilCell {η : Env} {w : World} (H : HeapOK M η w O nx) {i j es : Nat} {row row' : List SV} (hi : lkp i O = some (.box row)) (hr : nilAt nx es j row = some row') :
    ∃ η', η <+: η' ∧ HeapOK M η' w ((nx, .rows es []) :: setK i (.box row') O) (nx + 1) := by
  have hpre : η <+: η ++ [none] := List.prefix_append _ _
  have hnew : (η ++ [none])[nx]? = some none := by rw [List.getElem?_append_right (by rw [H.len]; omega), H.len]; simp
  have hold : ∀ {i h}, lkp i O = some h → (η ++ [none])[i]? = η[i]? := fun {i h} hi => by
    rw [List.getElem?_append_left (by rw [H.len]; exact H.lt hi)]
  have hin : ∀ {a h}, lkp a (setK i (.box row') O) = some h → ∃ h0, lkp a O = some h0 ∧ HpSat (η ++ [none]) w true (.loc a) h ∧ ∀ n, feet (η ++ [none]) w (.loc a) h n → feet η w (.loc a) h0 n := by
    intro a h ha
    rw [lkp_setK _ _ _ _ (by rw [hi]; rfl)] at ha
    split at ha
    · rename_i e
      subst e
      injection ha with ha
      subst ha
      refine ⟨_, hi, ?_, fun n f => H.stands hpre hi (fun _ _ => rfl) (show feet (η ++ [none]) w (.loc _) (.box row) n from f)⟩
      have := (H.own.1 _ _ hi).1.mono hpre
      simp only [HpSat] at this ⊢
      obtain ⟨e, arr, T, fz, h1, h2, h3, h4⟩ := this
      refine ⟨e, arr, T, fz, h1, h2, h3, fun c sv hc => ?_⟩
      rcases nilAt_get hr c sv hc with hc' | ⟨hc', rfl⟩
      · exact h4 c sv hc'
      · obtain ⟨v, h5, h6, h7⟩ := h4 c _ hc'
        refine ⟨v, h5, h6, ?_⟩
        simp only [Den] at h7 ⊢
        exact .inl ⟨hnew, h7.1, trivial⟩
    · exact ⟨h, ha, (H.own.1 _ _ ha).1.mono hpre, fun n f => H.stands hpre ha (fun _ _ => rfl) f⟩
  refine ⟨η ++ [none], hpre, H.pre.trans hpre, by simp [H.len], ⟨fun a h ha => ?_, fun a b h h' n ha hb hab f f' => ?_⟩, H.fr, H.sok⟩
  · rw [lkp_cons] at ha
    split at ha
    · rename_i e; subst e; injection ha with ha; subst ha
      exact ⟨.inl ⟨hnew, rfl⟩, fun n f => (feet.none (b := .loc _) hnew f).elim⟩
    · obtain ⟨h0, h1, h2, h3⟩ := hin ha
      exact ⟨h2, fun n f => (H.own.1 a h0 h1).2 n (h3 n f)⟩
  · rw [lkp_cons] at ha hb
    split at ha
    · rename_i e1; subst e1; exact (feet.none (b := .loc _) hnew f).elim
    · split at hb
      · rename_i e2; subst e2; exact (feet.none (b := .loc _) hnew f').elim
      · obtain ⟨h0, h1, _, h3⟩ := hin ha
        obtain ⟨h0', h1', _, h3'⟩ := hin hb
        exact H.own.2 a b h0 h0' n h1 h1' hab (h3 n f) (h3' n f')
theorem CALL.nilCell {f : FuncId} {args : List SV} {K : SV → Hps → Nat → Prop} (i j es : Nat) {row row' : List SV} (hi : lkp i O = some (.box row)) (hr : nilAt nx es j row = some row') (hc : CALL M f args ((nx, .rows es []) :: setK i (.box row') O) (nx + 1) K) : CALL M f args O nx K :=
  CALL.weak (fun η w H => H.nilCell hi hr) hc
/-- An end that tells of blocks by the names that came in. -/
theorem FIN.here {k : Nat} {r rc : SV} {Oc : Hps} {Q : SV → Hps → Nat → Prop} (hk : M.η0.length = k) (hr : r = rc) (hb : below k rc = true) (hbO : belowO k Oc = true) (hO : hereO O Oc) (hQ : Q rc Oc k) : FIN M O nx r Q := by
  have hσ : ∀ j, j < k → fname k [] j = j := fun j hj => by simp [fname, hj]
  refine FIN.keep hk [] (rc := rc) (Oc := Oc) (fun i hi => by cases hi) (by rw [ren_below hσ hb]; exact hr) hb ?_ ?_ hQ
  · intro p hp
    obtain ⟨h1, h2⟩ := belowO_mem hbO p hp
    exact ⟨h1, by rw [hσ _ h1, renH_below hσ h2]; exact hO.at p hp, h2⟩
  · intro j hj j' hj' he
    rwa [hσ j (namesOf_below hbO j hj), hσ j' (namesOf_below hbO j' hj')] at he
/-- A row of which less is told. -/
def Loose (k : Nat) : List SV → List SV → Prop
  | _, [] => True
  | [], _ :: _ => False
  | c :: cs, c' :: cs' => (c' = .any ∨ (c' = c ∧ below k c = true)) ∧ Loose k cs cs'
theorem Loose.get {k : Nat} : ∀ {row row' : List SV}, Loose k row row' → ∀ (j : Nat) (sv : SV), row'[j]? = some sv → ∃ c, row[j]? = some c ∧ (sv = .any ∨ (sv = c ∧ below k c = true))
  | _, [], _, j, sv, h => by simp at h
  | [], _ :: _, h, _, _, _ => h.elim
  | c :: cs, c' :: cs', h, 0, sv, hj => by simp at hj; subst hj; exact ⟨c, rfl, h.1⟩
  | c :: cs, c' :: cs', h, j + 1, sv, hj => by simp at hj; obtain ⟨d, h1, h2⟩ := Loose.get h.2 j sv hj; exact ⟨d, by simpa using h1, h2⟩
/-- An end with a plain value and one box, of which less is told. -/
theorem FIN.loose {k : Nat} {r : SV} {Q : SV → Hps → Nat → Prop} (hk : M.η0.length = k) (i : Nat) (row' : List SV) {row : List SV} (hr : plain r = true) (hO : lkp i O = some (.box row)) (hi : Nat.blt i k = true) (hl : Loose k row row') (hQ : Q r [(i, .box row')] k) : FIN M O nx r Q := by
  refine ⟨fun η w v H hd => ⟨r, [(i, .box row')], k, M.η0, hQ, List.prefix_rfl, ?_, ?_⟩⟩
  · have hi : i < k := by simpa [Nat.blt_eq] using hi
    have hget : ∀ j, j < k → η[j]? = M.η0[j]? := fun j hj => by
      obtain ⟨t, ht⟩ := H.pre
      rw [← ht, List.getElem?_append_left (by omega)]
    have hb : Bwd η M.η0 id k := fun j x hj hx => by rw [← hget j hj]; exact hx
    have hsat : HpSat M.η0 w true (.loc i) (.box row') := by
      have := (H.own.1 i _ hO).1
      simp only [HpSat] at this ⊢
      obtain ⟨e, arr, T, fz, h1, h2, h3, h4⟩ := this
      refine ⟨e, arr, T, fz, by simp only [Env.get] at h1 ⊢; rw [← hget i hi]; exact h1, h2, h3, fun j sv hj => ?_⟩
      obtain ⟨c, h5, h6⟩ := hl.get j sv hj
      obtain ⟨u, h7, h8, h9⟩ := h4 j c h5
      refine ⟨u, h7, h8, ?_⟩
      rcases h6 with rfl | ⟨rfl, h6⟩
      · simp only [Den]
      · exact Den.unren hb h6 (by rw [ren_id (σ := id) (fun _ => rfl)]; exact h9)
    refine ⟨List.prefix_rfl, hk, ⟨fun j h hj => ?_, fun a b h h' n ha hb' hab => ?_⟩, H.fr, H.sok⟩
    · rw [lkp_cons] at hj
      split at hj
      · rename_i e; subst e; injection hj with hj; subst hj
        exact ⟨hsat, fun n f => (H.own.1 _ _ hO).2 n ((show feet M.η0 w (.loc _) (.box row) n from f).mono H.pre)⟩
      · simp [lkp] at hj
    · rw [lkp_cons] at ha hb'
      split at ha
      · split at hb'
        · rename_i e1 e2; exact (hab (e1.trans e2.symm)).elim
        · simp [lkp] at hb'
      · simp [lkp] at ha
  · have hb : Bwd η M.η0 (fun i => i) 0 := fun i x hi => by omega
    exact Den.unren hb (plain_below 0 hr) (by rw [ren_plain _ hr]; exact hd)
def anyN : Nat → List SV
  | 0 => []
  | n + 1 => .any :: anyN n
theorem denL_any {η η' : Env} : ∀ {cs : List SV} {vs : List Value}, DenL η cs vs → DenL η' (anyN cs.length) vs
  | [], vs, h => by simpa [DenL, anyN] using h
  | c :: cs, vs, h => by
    simp only [DenL, anyN, List.length_cons] at h ⊢
    obtain ⟨u, us, rfl, _, h⟩ := h
    exact ⟨u, us, rfl, by simp only [Den], denL_any h⟩
/-- An end whose tuple's head is a struct of which nothing is told. -/
theorem FIN.anyA (n : Nat) {k : Nat} {r : SV} {cs vs : List SV} {Q : SV → Hps → Nat → Prop} (hk : M.η0.length = k) (hr : r = .tup (.agg cs :: vs)) (hn : lenIs cs n = true) (hv : plainL vs = true) (hQ : Q (.tup (.agg (anyN n) :: vs)) [] k) : FIN M O nx r Q := by
  have hn : cs.length = n := by
    clear hr hQ
    induction n generalizing cs with
    | zero => cases cs with
      | nil => rfl
      | cons a l => simp [lenIs] at hn
    | succ n ih => cases cs with
      | nil => simp [lenIs] at hn
      | cons a l => simp only [lenIs] at hn; simp [ih hn]
  refine ⟨fun η w v H hd => ⟨.tup (.agg (anyN n) :: vs), [], k, M.η0, hQ, List.prefix_rfl, ⟨List.prefix_rfl, hk, ⟨fun i h hi => by simp [lkp] at hi, fun i j h h' n hi => by simp [lkp] at hi⟩, H.fr, H.sok⟩, ?_⟩⟩
  rw [hr] at hd
  simp only [Den, DenL] at hd ⊢
  obtain ⟨us, h1, u, us', h2, ⟨xs, h5, h6, h7⟩, h4⟩ := hd
  refine ⟨us, h1, u, us', h2, ⟨xs, h5, by rw [← hn]; exact denL_any h6, h7⟩, ?_⟩
  have hb : Bwd η M.η0 (fun i => i) 0 := fun i x hi => by omega
  exact DenL.unren hb (plainL_below 0 hv) (by rw [renL_plain _ hv]; exact h4)
/-! ### Short words: what each walk asks again and again, asked once -/
/-- Rows that name no block. -/
class PlF {α : Type} (f : α → List SV) : Prop where
  h : ∀ x, plainL (f x) = true
class Pl (rs : List (List SV)) : Prop where
  h : plainLL rs = true
class PlD (rs : List (List DC)) : Prop where
  h : plainCLL rs = true
instance {α : Type} {f : α → List SV} [p : PlF f] {l : List α} : Pl (l.map f) := ⟨plainLL_map f p.h l⟩
instance : PlF bytesRow := ⟨fun _ => rfl⟩
theorem belowO_cons {m i : Nat} {h : Hp} {O : Hps} (h1 : Nat.blt i m = true) (h2 : belowH m h = true) (h3 : belowO m O = true) : belowO m ((i, h) :: O) = true := by simp only [belowO, h1, h2, h3, Bool.and_self]
theorem box_int {k : IntKind} {a b : Int} (h : a = b) : Hp.box [.int k a] = Hp.box [.int k b] := by rw [h]
theorem box_sl {b : Blk} {r es n n' : Nat} {lim : Option Nat} (h : n = n') : Hp.box [.sl b r es n lim] = Hp.box [.sl b r es n' lim] := by rw [h]
section
variable {m es : Nat} {σ τ : Nat → Nat} {rs : List (List SV)} {ds : List (List DC)} {mp : Bool}
theorem belowR [p : Pl rs] : belowH m (.rows es rs) = true := plainH_below m (h := .rows es rs) p.h
theorem belowM [p : Pl rs] : belowH m (.mp rs) = true := plainH_below m (h := .mp rs) p.h
theorem belowDp [p : PlD ds] : belowH m (.deep mp es ds) = true := plainH_below m (h := .deep mp es ds) p.h
theorem renR [p : Pl rs] : renH σ (.rows es rs) = .rows es rs := renH_plain σ (h := .rows es rs) p.h
theorem renM [p : Pl rs] : renH σ (.mp rs) = .mp rs := renH_plain σ (h := .mp rs) p.h
theorem renDp [p : PlD ds] : renH σ (.deep mp es ds) = .deep mp es ds := renH_plain σ (h := .deep mp es ds) p.h
theorem renRR [p : Pl rs] : renH σ (.rows es rs) = renH τ (.rows es rs) := renR.trans renR.symm
theorem renMM [p : Pl rs] : renH σ (.mp rs) = renH τ (.mp rs) := renM.trans renM.symm
theorem renDD [p : PlD ds] : renH σ (.deep mp es ds) = renH τ (.deep mp es ds) := renDp.trans renDp.symm
end
section
variable {M : Mx} {fr fr' : Fr} {O O' : Hps} {nx : Nat}
theorem CALL.aA {f : FuncId} {args argsc : List SV} {K : SV → Hps → Nat → Prop} {k : Nat} {Oc Sc : Hps} {Q : SV → Hps → Nat → Prop} (L : List Nat) (sp : Does M.P M.C.T f k argsc Oc Sc Q)
    (hK : ∀ r O' nx', Q r O' nx' → K (ren (cname L nx) r) (renO (cname L nx) O' ++ outside ((namesOf Oc).map (cname L nx)) O) (nx + (nx' - k)))
    (hL : L.length = k := by exact rfl) (hLn : L.all (fun i => Nat.blt i nx) = true := by exact rfl) (ha : args = renL (cname L nx) argsc := by exact rfl) (hb : belowL k argsc = true := by exact rfl)
    (hbO : belowO k Oc = true := by (repeat' (first | (refine belowO_cons rfl ?_ ?_) | exact belowR | exact belowM | exact belowDp | rfl))) (hbS : belowO k Sc = true := by (repeat' (first | (refine belowO_cons rfl ?_ ?_) | exact belowR | exact belowM | exact belowDp | rfl))) (hO : thereO (cname L nx) O Oc := by (repeat' (first | exact trivial | (with_reducible rfl) | exact renR.symm | exact renRR | exact renM.symm | exact renMM | exact renDp.symm | exact renDD | (exact rows_eq Pl.h (by simp [ofVal, List.take_of_length_le] <;> rfl)) | exact rfl | ((conv => whnf); refine ⟨?_, ?_⟩)))) (hS : thereS M.C (cname L nx) O Sc := by (repeat' (first | exact trivial | (with_reducible rfl) | exact renR.symm | exact renRR | exact renM.symm | exact renMM | exact renDp.symm | exact renDD | (exact rows_eq Pl.h (by simp [ofVal, List.take_of_length_le] <;> rfl)) | exact rfl | ((conv => whnf); refine ⟨?_, ?_⟩))))
    (hinj : (namesOf Oc).all (fun j => (namesOf Oc).all fun j' => !(Nat.beq (cname L nx j) (cname L nx j')) || Nat.beq j j') = true := by exact rfl)
    (hd : (namesOf Sc).all (fun j => !((namesOf Oc).any fun j' => Nat.beq (cname L nx j) (cname L nx j'))) = true := by exact rfl) : CALL M f args O nx K :=
  CALL.at L sp hL hLn ha hb hbO hbS hO hS hinj hd hK
theorem FIN.aA {k : Nat} {r : SV} {Q : SV → Hps → Nat → Prop} (hk : M.η0.length = k) (τ : List Nat) (rc : SV) (Oc : Hps) (hQ : Q rc Oc (k + τ.length)) (hτ : τ.all (fun i => Nat.blt i nx) = true := by exact rfl) (hr : r = ren (fname k τ) rc := by exact rfl) (hb : below (k + τ.length) rc = true := by exact rfl) (hbO : belowO (k + τ.length) Oc = true := by (repeat' (first | (refine belowO_cons rfl ?_ ?_) | exact belowR | exact belowM | exact belowDp | rfl)))
    (hO : thereO (fname k τ) O Oc := by (repeat' (first | exact trivial | (with_reducible rfl) | exact renR.symm | exact renRR | exact renM.symm | exact renMM | exact renDp.symm | exact renDD | (exact rows_eq Pl.h (by simp [ofVal, List.take_of_length_le] <;> rfl)) | exact rfl | ((conv => whnf); refine ⟨?_, ?_⟩)))) (hinj : (namesOf Oc).all (fun j => (namesOf Oc).all fun j' => !(Nat.beq (fname k τ j) (fname k τ j')) || Nat.beq j j') = true := by exact rfl) : FIN M O nx r Q :=
  FIN.at hk τ rc Oc hτ hr hb hbO hO hinj hQ
theorem GOES.cA {k m : Nat} (hk : M.η0.length = k) (hkm : Nat.ble k m = true := by exact rfl) (hmn : Nat.ble m nx = true := by exact rfl) (hbf : belowFr m fr' = true := by exact rfl) (hbo : belowO m O' = true := by (repeat' (first | (refine belowO_cons rfl ?_ ?_) | exact belowR | exact belowM | exact belowDp | rfl)))
    (hf : cutK fr fr' := by (repeat' (first | (with_reducible rfl) | exact trivial | (exact sl_eq rfl (by first | omega | (simp (disch := omega) only [lnB, wrap64, wrap32] <;> omega) | (simp; done) | (simp <;> omega))) | (exact congrArg (SV.int _) (by first | omega | (simp (disch := omega) only [lnB, wrap64, wrap32] <;> omega) | (simp; done) | (simp <;> omega))) | (exact box_int (by first | omega | (simp (disch := omega) only [lnB, wrap64, wrap32] <;> omega) | (simp; done) | (simp <;> omega))) | (exact box_sl (by first | omega | (simp (disch := omega) only [lnB, wrap64, wrap32] <;> omega) | (simp; done) | (simp <;> omega))) | exact renR | exact renM | exact renDp | (with_reducible assumption) | (exact congrArg (Hp.rows _) (by simp [List.take_of_length_le] <;> rfl)) | ((conv => whnf); refine ⟨?_, ?_⟩) | (simp; done) | rfl))) (hO : cutOK O O' := by (repeat' (first | (with_reducible rfl) | exact trivial | (exact sl_eq rfl (by first | omega | (simp (disch := omega) only [lnB, wrap64, wrap32] <;> omega) | (simp; done) | (simp <;> omega))) | (exact congrArg (SV.int _) (by first | omega | (simp (disch := omega) only [lnB, wrap64, wrap32] <;> omega) | (simp; done) | (simp <;> omega))) | (exact box_int (by first | omega | (simp (disch := omega) only [lnB, wrap64, wrap32] <;> omega) | (simp; done) | (simp <;> omega))) | (exact box_sl (by first | omega | (simp (disch := omega) only [lnB, wrap64, wrap32] <;> omega) | (simp; done) | (simp <;> omega))) | exact renR | exact renM | exact renDp | (with_reducible assumption) | (exact congrArg (Hp.rows _) (by simp [List.take_of_length_le] <;> rfl)) | ((conv => whnf); refine ⟨?_, ?_⟩) | (simp; done) | rfl))) (hd : dsSame fr fr' = true := by exact rfl) (hro : roSame M.C.ro id m = true := by exact rfl) : GOES M fr O nx fr' O' m := GOES.cutting hk hkm hmn hbf hbo hf hO hd hro
end
/-- What is plain at a stop: a way that is decided, a condition that is shown at once, a row that is seen. -/
theorem AU {P Q : Prop} (k : Q) (h : Q → P := by first | (with_reducible exact IF.tt) | (with_reducible exact IF.ff) | exact NEED.au | (with_reducible exact GET.at rfl) | (with_reducible exact GETG.at rfl)) : P := h k
end Go.Sx
/- Terms and quads: their order is one total order. No program in sight. -/
set_option linter.unusedVariables false
set_option linter.unusedSimpArgs false
namespace Go.Our
open Go.Sx

/-! ### Three-way comparisons -/
structure Tri {α : Type} (c : α → α → Int) : Prop where
  rng : ∀ a b, c a b = -1 ∨ c a b = 0 ∨ c a b = 1
  anti : ∀ a b, c b a = - c a b
  zero : ∀ a b, c a b = 0 ↔ a = b
  trans : ∀ a b d, c a b ≤ 0 → c b d ≤ 0 → c a d ≤ 0

open Lib (compareBytes)
/-! ### The order of terms and of quads -/
def Tm.key (x : Tm) : Int × List UInt8 × List UInt8 × List UInt8 := (x.k, x.t, x.y, x.l)
def Qd.key (q : Qd) : Tm × Tm × Tm × Tm := (q.g, q.s, q.p, q.o)
/-! ### Lists of quads -/
abbrev Qd.row (q : Qd) : List SV := [.int .i64 q.s.k, .str q.s.t, .str q.s.y, .str q.s.l, .int .i64 q.p.k, .str q.p.t, .str q.p.y, .str q.p.l, .int .i64 q.o.k, .str q.o.t, .str q.o.y, .str q.o.l, .int .i64 q.g.k, .str q.g.t, .str q.g.y, .str q.g.l]
def qdRow (q : Qd) : List SV := q.row
def tmRow (x : Tm) : List SV := [.int .i64 x.k, .str x.t, .str x.y, .str x.l]
instance : PlF tmRow := ⟨fun _ => rfl⟩
theorem Tm.ext' {a b : Tm} (h : tmRow a = tmRow b) : a = b := by
  obtain ⟨_, _, _, _⟩ := a
  obtain ⟨_, _, _, _⟩ := b
  simp only [tmRow, List.cons.injEq, SV.int.injEq, SV.str.injEq, true_and, and_true] at h
  simp_all
def zeroQd : Qd := ⟨zeroTm, zeroTm, zeroTm, zeroTm⟩
theorem plainQds (l : List Qd) : plainLL (l.map qdRow) = true := plainLL_map _ (fun _ => rfl) l
instance : PlF qdRow := ⟨fun _ => rfl⟩
theorem qdRow_get {l : List Qd} {i : Nat} (h : i < l.length) : (l.map qdRow)[i]? = some (qdRow l[i]) := by rw [List.getElem?_map, List.getElem?_eq_getElem h]; rfl
theorem rows_take {α : Type} (f : α → List SV) (l z : List α) : (((l ++ z).map f).drop 0).take l.length = l.map f := by
  rw [List.drop_zero, List.map_append, List.take_append_of_le_length (by simp), List.take_of_length_le (by simp)]
theorem Qd.ext' {a b : Qd} (h : qdRow a = qdRow b) : a = b := by
  obtain ⟨⟨_, _, _, _⟩, ⟨_, _, _, _⟩, ⟨_, _, _, _⟩, ⟨_, _, _, _⟩⟩ := a
  obtain ⟨⟨_, _, _, _⟩, ⟨_, _, _, _⟩, ⟨_, _, _, _⟩, ⟨_, _, _, _⟩⟩ := b
  simp only [qdRow, Qd.row, List.cons.injEq, SV.int.injEq, SV.str.injEq, true_and, and_true] at h
  simp_all
end Go.Our
/- Maps of any keys, as the engine keeps them: rows of key and value, and of key and slice. No program in sight. -/
set_option linter.unusedVariables false
set_option linter.unusedSimpArgs false
namespace Go.Our
open Go.Sx
/-- Keys of one kind, and how they stand in a map. -/
structure KeyK (α : Type) [DecidableEq α] where
  ks : Bool × List CK
  enc : α → SV
  is : ∀ a b, keyIs ks (enc a) (enc b) = decide (a = b)
  ok : ∀ a, keyOK ks (enc a) = true
  pl : ∀ a, plain (enc a) = true
section
variable {α β : Type} [DecidableEq α] (K : KeyK α)
def rowsA (f : β → SV) (l : List (α × β)) : List (List SV) := l.map fun p => [K.enc p.1, f p.2]
/-- Rows of key and slice, each slice with an array of its own. -/
def rowsDA (es : Nat) (f : β → List (List SV)) (l : List (α × β)) : List (List DC) := l.map fun p => [.v (K.enc p.1), .kid es (f p.2)]
def ixA (a : α) : List (α × β) → Option (Nat × β)
  | [] => none
  | (k, v) :: r => if a = k then some (0, v) else (ixA a r).map fun p => (p.1 + 1, p.2)
def getA (a : α) : List (α × β) → Option β
  | [] => none
  | (k, v) :: r => if a = k then some v else getA a r
def setA (a : α) (v : β) : List (α × β) → List (α × β)
  | [] => [(a, v)]
  | (k, u) :: r => if a = k then (k, v) :: r else (k, u) :: setA a v r
theorem ixA_get (a : α) : ∀ l : List (α × β), (ixA a l).map Prod.snd = getA a l
  | [] => rfl
  | (k, v) :: r => by
    unfold ixA getA
    split
    · rfl
    · rw [Option.map_map, ← ixA_get a r]; rfl
theorem ixA_none {a : α} {l : List (α × β)} (h : ixA a l = none) : getA a l = none := by rw [← ixA_get, h]; rfl
theorem ixA_some {a : α} {l : List (α × β)} {i : Nat} {v : β} (h : ixA a l = some (i, v)) : getA a l = some v := by rw [← ixA_get, h]; rfl
theorem getA_set (a b : α) (v : β) : ∀ l : List (α × β), getA b (setA a v l) = if b = a then some v else getA b l
  | [] => by
    simp only [setA, getA]
  | (k, u) :: r => by
    unfold setA
    by_cases h : a = k
    · subst h
      rw [if_pos rfl]
      simp only [getA]
      by_cases e : b = a
      · rw [if_pos e, if_pos e]
      · rw [if_neg e, if_neg e, if_neg e]
    · rw [if_neg h]
      simp only [getA, getA_set a b v r]
      by_cases e : b = k
      · subst e; rw [if_pos rfl, if_neg (fun e => h e.symm), if_pos rfl]
      · rw [if_neg e, if_neg e]
theorem findM_A (f : β → SV) (a : α) : ∀ (l : List (α × β)) (i : Nat), findM K.ks (K.enc a) i (rowsA K f l) = (ixA a l).map fun p => (i + p.1, f p.2)
  | [], i => rfl
  | (k, v) :: r, i => by
    have ih := findM_A f a r (i + 1)
    simp only [rowsA, List.map_cons, findM, K.is, ixA] at ih ⊢
    by_cases h : a = k
    · simp [h]
    · simp only [h, decide_false, if_false, ih, Option.map_map]
      congr 1
      funext p
      simp only [Function.comp, Prod.mk.injEq, and_true]
      omega
theorem rowsOK_A (f : β → SV) (l : List (α × β)) : rowsOK K.ks (rowsA K f l) := by
  intro r hr
  obtain ⟨p, _, rfl⟩ := List.mem_map.1 hr
  exact ⟨_, _, rfl, K.ok _⟩
theorem ixA_modify {a : α} {v : β} : ∀ {l : List (α × β)} {i : Nat} {u : β}, ixA a l = some (i, u) → setA a v l = l.modify i (fun p => (p.1, v))
  | [], _, _, h => by cases h
  | (k, w) :: r, i, u, h => by
    unfold ixA at h
    unfold setA
    split at h
    · rename_i e
      injection h with h; injection h with h1 h2; subst h1
      rw [if_pos e, List.modify_zero_cons]
    · rename_i e
      obtain ⟨⟨j, x⟩, hj, he⟩ := Option.map_eq_some_iff.1 h
      injection he with h1 h2
      subst h1
      rw [if_neg e, List.modify_succ_cons, ixA_modify hj]
theorem setA_none {a : α} {v : β} : ∀ {l : List (α × β)}, ixA a l = none → setA a v l = l ++ [(a, v)]
  | [], _ => rfl
  | (k, w) :: r, h => by
    unfold ixA at h
    unfold setA
    split at h
    · cases h
    · rename_i e
      rw [if_neg e, List.cons_append, setA_none (by simpa using h)]
theorem setM_A (f : β → SV) (a : α) (v : β) (l : List (α × β)) : setM K.ks (K.enc a) (f v) (rowsA K f l) = rowsA K f (setA a v l) := by
  unfold setM
  rw [findM_A]
  cases h : ixA a l with
  | none => simp only [Option.map_none]; rw [setA_none h]; simp [rowsA]
  | some p =>
    obtain ⟨i, u⟩ := p
    simp only [Option.map_some, Nat.zero_add]
    rw [ixA_modify h]
    unfold rowsA
    apply List.ext_getElem?
    intro j
    rw [List.getElem?_modify, List.getElem?_map, List.getElem?_map, List.getElem?_modify]
    by_cases e : i = j
    · subst e
      cases l[i]? <;> simp [putV]
    · cases l[j]? <;> simp [e]
theorem plain_A (f : β → SV) (hf : ∀ b, plain (f b) = true) (l : List (α × β)) : plainLL (rowsA K f l) = true := by
  unfold rowsA
  exact plainLL_map _ (fun p => by simp only [plainL, K.pl, hf, Bool.and_self]) l
theorem findD_A (es : Nat) (f : β → List (List SV)) (a : α) : ∀ (l : List (α × β)) (i : Nat), findD K.ks (K.enc a) i (rowsDA K es f l) = (ixA a l).map fun p => (i + p.1, .kid es (f p.2))
  | [], i => rfl
  | (k, v) :: r, i => by
    have ih := findD_A es f a r (i + 1)
    simp only [rowsDA, List.map_cons, findD, flatC, K.is, ixA] at ih ⊢
    by_cases h : a = k
    · simp [h]
    · simp only [h, decide_false, if_false, ih, Option.map_map]
      congr 1
      funext p
      simp only [Function.comp, Prod.mk.injEq, and_true]
      omega
theorem rowsOK_DA (es : Nat) (f : β → List (List SV)) (l : List (α × β)) : rowsOK K.ks (flatD (rowsDA K es f l)) := by
  intro r hr
  unfold flatD rowsDA at hr
  rw [List.map_map] at hr
  obtain ⟨p, _, rfl⟩ := List.mem_map.1 hr
  exact ⟨_, _, rfl, K.ok _⟩
theorem ixA_row {a : α} : ∀ {l : List (α × β)} {i : Nat} {u : β}, ixA a l = some (i, u) → l[i]? = some (a, u)
  | [], i, u, h => by cases h
  | (k, w) :: l, i, u, h => by
    unfold ixA at h
    split at h
    · rename_i e
      injection h with h; injection h with h1 h2; subst h1 h2 e
      rfl
    · obtain ⟨⟨j, x⟩, hj, he⟩ := Option.map_eq_some_iff.1 h
      injection he with h1 h2
      subst h1 h2
      simpa using ixA_row hj
/-- An entry, taken out and put back with more. -/
theorem entry_A (es : Nat) (f : β → List (List SV)) (d : DC) {a : α} {v : β} {l : List (α × β)} {i j : Nat} {u : β} (h : ixA a l = some (i, u)) (hj : j = i) : ((rowsDA K es f l).modify i (putD d)).modify j (putD (.kid es (f v))) = rowsDA K es f (setA a v l) := by
  subst hj
  rw [ixA_modify h]
  unfold rowsDA
  apply List.ext_getElem?
  intro k
  rw [List.getElem?_modify, List.getElem?_modify, List.getElem?_map, List.getElem?_map, List.getElem?_modify]
  by_cases e : j = k
  · subst e
    rw [ixA_row h]; simp [putD]
  · cases l[k]? <;> simp [e]
theorem entry_new (es : Nat) (f : β → List (List SV)) (d : DC) {a : α} {v : β} {l : List (α × β)} {j : Nat} (h : ixA a l = none) (hj : j = l.length) : (rowsDA K es f l ++ [[.v (K.enc a), d]]).modify j (putD (.kid es (f v))) = rowsDA K es f (setA a v l) := by
  subst hj
  rw [setA_none h]
  unfold rowsDA
  apply List.ext_getElem?
  intro k
  rw [List.getElem?_modify, List.map_append]
  by_cases e : l.length = k
  · subst e
    simp [putD]
  · simp only [e, if_false]
    by_cases hk : k < l.length
    · rw [List.getElem?_append_left (by simpa using hk), List.getElem?_append_left (by simpa using hk)]; simp
    · rw [List.getElem?_eq_none (by simp; omega), List.getElem?_eq_none (by simp; omega)]; rfl
theorem plain_DA (es : Nat) (f : β → List (List SV)) (hf : ∀ b, plainLL (f b) = true) : ∀ l : List (α × β), plainCLL (rowsDA K es f l) = true
  | [] => rfl
  | p :: l => by
    have ih := plain_DA es f hf l
    unfold rowsDA at ih ⊢
    simp only [List.map_cons, plainCLL, plainCL, plainC, K.pl, hf, ih, Bool.and_self]
end
section
variable {α β : Type} [DecidableEq α]
theorem FIND.A (K : KeyK α) (f : β → SV) (a : α) (l : List (α × β)) {J : Type} {A : Nat → SV → J → Prop} {B : J → Prop} {j : J} (hs : ∀ i v, ixA a l = some (i, v) → A (0 + i) (f v) j) (hn : ixA a l = none → B j) : FIND (findM K.ks (K.enc a) 0 (rowsA K f l)) A B j := by
  refine FIND.mk (fun i v hf => ?_) (fun hf => ?_)
  · obtain ⟨⟨k, x⟩, hj, he⟩ := Option.map_eq_some_iff.1 ((findM_A K f a l 0).symm.trans hf)
    cases he
    exact hs _ _ hj
  · exact hn (Option.map_eq_none_iff.1 ((findM_A K f a l 0).symm.trans hf))
theorem FINDD.A (K : KeyK α) (es : Nat) (f : β → List (List SV)) (a : α) (l : List (α × β)) {J : Type} {A : Nat → DC → J → Prop} {B : J → Prop} {j : J} (hs : ∀ i v, ixA a l = some (i, v) → A (0 + i) (.kid es (f v)) j) (hn : ixA a l = none → B j) : FINDD (findD K.ks (K.enc a) 0 (rowsDA K es f l)) A B j := by
  refine FINDD.mk (fun i v hf => ?_) (fun hf => ?_)
  · obtain ⟨⟨k, x⟩, hj, he⟩ := Option.map_eq_some_iff.1 ((findD_A K es f a l 0).symm.trans hf)
    cases he
    exact hs _ _ hj
  · exact hn (Option.map_eq_none_iff.1 ((findD_A K es f a l 0).symm.trans hf))
end
/-! ### Quads as keys; texts; numbers -/
def KQ : KeyK Qd where
  ks := (true, [.int .i64, .str, .str, .str, .int .i64, .str, .str, .str, .int .i64, .str, .str, .str, .int .i64, .str, .str, .str])
  enc := Qd.sv
  is a b := by
    obtain ⟨⟨a1, a2, a3, a4⟩, ⟨a5, a6, a7, a8⟩, ⟨a9, b1, b2, b3⟩, ⟨b4, b5, b6, b7⟩⟩ := a
    obtain ⟨⟨c1, c2, c3, c4⟩, ⟨c5, c6, c7, c8⟩, ⟨c9, d1, d2, d3⟩, ⟨d4, d5, d6, d7⟩⟩ := b
    rw [Bool.eq_iff_iff]
    simp [keyIs, keyEq, keyCells, cellsEq, Qd.sv, kindEq]
    simp only [and_assoc]
  ok a := by simp [keyOK, keyEq, keyCells, cellsEq, Qd.sv, kindEq]
  pl a := rfl
end Go.Our
/- UTF-8 in plain words: a scalar's bytes; the scalar that bytes would be. No program in sight. -/
set_option linter.unusedVariables false
set_option linter.unusedSimpArgs false
namespace Go.Our
open Go.Sx
def encI (r : Int) : List Int :=
  if r < 128 then [r] else if r < 2048 then [192 + r / 64, 128 + r % 64] else if r < 65536 then [224 + r / 4096, 128 + r / 64 % 64, 128 + r % 64]
  else [240 + r / 262144, 128 + r / 4096 % 64, 128 + r / 64 % 64, 128 + r % 64]
def byteOf (x : Int) : UInt8 := UInt8.ofNat x.toNat
def encM (r : Int) : List UInt8 := (encI r).map byteOf
/-- The scalar that bytes would be. -/
def rawM : List UInt8 → Int
  | [a] => bn a
  | [a, b] => (bn a - 192) * 64 + bn b - 128
  | [a, b, c] => ((bn a - 224) * 64 + bn b - 128) * 64 + bn c - 128
  | [a, b, c, d] => (((bn a - 240) * 64 + bn b - 128) * 64 + bn c - 128) * 64 + bn d - 128
  | _ => -1
def guessM (l : List UInt8) : Int := if Scalar (rawM l) ∧ encM (rawM l) = l then rawM l else -1
theorem tdivp {a b : Int} (h : 0 ≤ a) : a.tdiv b = a / b := Int.tdiv_eq_ediv_of_nonneg h
theorem tmodp {a b : Int} (h : 0 ≤ a) : a.tmod b = a % b := Int.tmod_eq_emod_of_nonneg h
theorem wrapu8 {a : Int} (h1 : 0 ≤ a) (h2 : a ≤ 255) : IntKind.u8.wrap a = a := IntWalk.u8_in _ ⟨h1, h2⟩
theorem byteOf_bn {x : Int} (h : 0 ≤ x ∧ x < 256) : ((byteOf x).toNat : Int) = x := by
  unfold byteOf
  rw [UInt8.toNat_ofNat_of_lt' (by show x.toNat < 256; omega)]; omega
theorem bytesRow_of {x : Int} (h : 0 ≤ x ∧ x < 256) : [SV.int .u8 x] = Sx.bytesRow (byteOf x) := by
  unfold Sx.bytesRow; rw [byteOf_bn h]
theorem byteOf_of (a : UInt8) : byteOf (bn a) = a := by unfold byteOf bn; simp
theorem encI_lt {r : Int} (h : 0 ≤ r ∧ r ≤ 1114111) : ∀ x ∈ encI r, 0 ≤ x ∧ x < 256 := by
  unfold encI
  (repeat' split) <;> simp <;> omega
theorem map_byteOf : ∀ {l : List Int}, (∀ x ∈ l, 0 ≤ x ∧ x < 256) → (l.map byteOf).map bn = l
  | [], _ => rfl
  | x :: l, h => by
    simp only [List.map_cons]
    rw [map_byteOf (fun y hy => h y (List.mem_cons_of_mem _ hy))]
    unfold bn; rw [byteOf_bn (h x (List.mem_cons_self ..))]
theorem map_bn : ∀ l : List UInt8, (l.map bn).map byteOf = l
  | [] => rfl
  | x :: l => by simp only [List.map_cons, byteOf_of, map_bn l]
theorem encM_iff {r : Int} (h : 0 ≤ r ∧ r ≤ 1114111) (l : List UInt8) : encM r = l ↔ encI r = l.map bn := by
  unfold encM
  constructor
  · rintro rfl; rw [map_byteOf (encI_lt h)]
  · intro e; rw [e, map_bn]
theorem guessM_pos {l : List UInt8} (h : Scalar (rawM l)) (e : encI (rawM l) = l.map bn) : guessM l = rawM l := by
  unfold guessM; exact if_pos ⟨h, (encM_iff ⟨h.1, h.2.1⟩ l).2 e⟩
theorem guessM_neg {l : List UInt8} (h : Scalar (rawM l) → encI (rawM l) = l.map bn → False) : guessM l = -1 := by
  unfold guessM; exact if_neg fun ⟨h1, h2⟩ => h h1 ((encM_iff ⟨h1.1, h1.2.1⟩ l).1 h2)
theorem guess1 (a : UInt8) : guessM [a] = if bn a < 128 then bn a else -1 := by
  have ha := bn_lt a
  have hw : rawM [a] = bn a := rfl
  by_cases h : bn a < 128
  · rw [if_pos h, guessM_pos]
    · omega
    · unfold Scalar; omega
    · rw [hw]
      unfold encI
      simp (disch := omega) only [↓if_pos, ↓if_neg, List.map_cons, List.map_nil, List.cons.injEq, and_true]
      try omega
  · rw [if_neg h, guessM_neg]
    intro h1 h2
    unfold Scalar at h1
    rw [hw] at h2
    unfold encI at h2
    apply h
    (repeat' (split at h2)) <;> simp at h2 <;> omega
theorem guess2 (a b : UInt8) : guessM [a, b] = if (192 ≤ bn a ∧ bn a < 224) ∧ (128 ≤ bn b ∧ bn b < 192) ∧ 128 ≤ r2 (bn a) (bn b) then r2 (bn a) (bn b) else -1 := by
  have ha := bn_lt a
  have hb := bn_lt b
  have hw : rawM [a, b] = (bn a - 192) * 64 + bn b - 128 := rfl
  have hr : r2 (bn a) (bn b) = bn a % 32 * 64 + bn b % 64 := rfl
  by_cases h : (192 ≤ bn a ∧ bn a < 224) ∧ (128 ≤ bn b ∧ bn b < 192) ∧ 128 ≤ r2 (bn a) (bn b)
  · rw [if_pos h, guessM_pos]
    · omega
    · unfold Scalar; omega
    · rw [hw]
      unfold encI
      simp (disch := omega) only [↓if_pos, ↓if_neg, List.map_cons, List.map_nil, List.cons.injEq, and_true]
      try omega
  · rw [if_neg h, guessM_neg]
    intro h1 h2
    unfold Scalar at h1
    rw [hw] at h2
    unfold encI at h2
    apply h
    (repeat' (split at h2)) <;> simp at h2 <;> omega
theorem guess3 (a b c : UInt8) : guessM [a, b, c] = if (224 ≤ bn a ∧ bn a < 240) ∧ (128 ≤ bn b ∧ bn b < 192) ∧ (128 ≤ bn c ∧ bn c < 192) ∧ 2048 ≤ r3 (bn a) (bn b) (bn c) ∧ (r3 (bn a) (bn b) (bn c) < 55296 ∨ 57343 < r3 (bn a) (bn b) (bn c)) then r3 (bn a) (bn b) (bn c) else -1 := by
  have ha := bn_lt a
  have hb := bn_lt b
  have hc := bn_lt c
  have hw : rawM [a, b, c] = ((bn a - 224) * 64 + bn b - 128) * 64 + bn c - 128 := rfl
  have hr : r3 (bn a) (bn b) (bn c) = (bn a % 16 * 64 + bn b % 64) * 64 + bn c % 64 := rfl
  by_cases h : (224 ≤ bn a ∧ bn a < 240) ∧ (128 ≤ bn b ∧ bn b < 192) ∧ (128 ≤ bn c ∧ bn c < 192) ∧ 2048 ≤ r3 (bn a) (bn b) (bn c) ∧ (r3 (bn a) (bn b) (bn c) < 55296 ∨ 57343 < r3 (bn a) (bn b) (bn c))
  · rw [if_pos h, guessM_pos]
    · omega
    · unfold Scalar; omega
    · rw [hw]
      unfold encI
      simp (disch := omega) only [↓if_pos, ↓if_neg, List.map_cons, List.map_nil, List.cons.injEq, and_true]
      try omega
  · rw [if_neg h, guessM_neg]
    intro h1 h2
    unfold Scalar at h1
    rw [hw] at h2
    unfold encI at h2
    apply h
    (repeat' (split at h2)) <;> simp at h2 <;> omega
theorem guess4 (a b c d : UInt8) : guessM [a, b, c, d] = if (240 ≤ bn a ∧ bn a < 248) ∧ (128 ≤ bn b ∧ bn b < 192) ∧ (128 ≤ bn c ∧ bn c < 192) ∧ (128 ≤ bn d ∧ bn d < 192) ∧ 65536 ≤ r4 (bn a) (bn b) (bn c) (bn d) ∧ r4 (bn a) (bn b) (bn c) (bn d) ≤ 1114111 then r4 (bn a) (bn b) (bn c) (bn d) else -1 := by
  have ha := bn_lt a
  have hb := bn_lt b
  have hc := bn_lt c
  have hd := bn_lt d
  have hw : rawM [a, b, c, d] = (((bn a - 240) * 64 + bn b - 128) * 64 + bn c - 128) * 64 + bn d - 128 := rfl
  have hr : r4 (bn a) (bn b) (bn c) (bn d) = ((bn a % 8 * 64 + bn b % 64) * 64 + bn c % 64) * 64 + bn d % 64 := rfl
  by_cases h : (240 ≤ bn a ∧ bn a < 248) ∧ (128 ≤ bn b ∧ bn b < 192) ∧ (128 ≤ bn c ∧ bn c < 192) ∧ (128 ≤ bn d ∧ bn d < 192) ∧ 65536 ≤ r4 (bn a) (bn b) (bn c) (bn d) ∧ r4 (bn a) (bn b) (bn c) (bn d) ≤ 1114111
  · rw [if_pos h, guessM_pos]
    · omega
    · unfold Scalar; omega
    · rw [hw]
      unfold encI
      simp (disch := omega) only [↓if_pos, ↓if_neg, List.map_cons, List.map_nil, List.cons.injEq, and_true]
      try omega
  · rw [if_neg h, guessM_neg]
    intro h1 h2
    unfold Scalar at h1
    rw [hw] at h2
    unfold encI at h2
    apply h
    (repeat' (split at h2)) <;> simp at h2 <;> omega
theorem drop_cons {s : List UInt8} {n : Nat} (h : n < s.length) : s.drop n = s.getD n 0 :: s.drop (n + 1) := by
  rw [List.drop_eq_getElem_cons h]; simp [List.getD, h]
theorem bn_byteAt (s : List UInt8) (i : Int) (k : Nat) (hi : 0 ≤ i) : bn (s.getD (i.toNat + k) 0) = byteAt s (i + k) := by
  unfold byteAt bn
  rw [show (i + (k : Int)).toNat = i.toNat + k by omega]
section
variable {s : List UInt8} {i : Int}
theorem guess_1 (h : 0 ≤ i ∧ i + 1 ≤ s.length) : guessM ((s.drop i.toNat).take ((i + 1).toNat - i.toNat)) = if byteAt s i < 128 then byteAt s i else -1 := by
  rw [show (i + 1).toNat - i.toNat = 1 by omega, drop_cons (by omega)]
  simp only [List.take_succ_cons, List.take_zero, guess1]
  have e0 := bn_byteAt s i 0 h.1
  simp only [Nat.add_zero, Int.natCast_zero, Int.add_zero] at e0
  rw [e0]
theorem guess_2 (h : 0 ≤ i ∧ i + 2 ≤ s.length) : guessM ((s.drop i.toNat).take ((i + 2).toNat - i.toNat)) = if (192 ≤ byteAt s i ∧ byteAt s i < 224) ∧ (128 ≤ byteAt s (i + 1) ∧ byteAt s (i + 1) < 192) ∧ 128 ≤ r2 (byteAt s i) (byteAt s (i + 1)) then r2 (byteAt s i) (byteAt s (i + 1)) else -1 := by
  rw [show (i + 2).toNat - i.toNat = 2 by omega, drop_cons (by omega), drop_cons (n := i.toNat + 1) (by omega)]
  simp only [List.take_succ_cons, List.take_zero, guess2]
  have e0 := bn_byteAt s i 0 h.1
  have e1 : bn (s.getD (i.toNat + 1) 0) = byteAt s (i + 1) := bn_byteAt s i 1 h.1
  simp only [Nat.add_zero, Int.natCast_zero, Int.add_zero] at e0
  rw [e0, e1]
theorem guess_3 (h : 0 ≤ i ∧ i + 3 ≤ s.length) : guessM ((s.drop i.toNat).take ((i + 3).toNat - i.toNat)) = if (224 ≤ byteAt s i ∧ byteAt s i < 240) ∧ (128 ≤ byteAt s (i + 1) ∧ byteAt s (i + 1) < 192) ∧ (128 ≤ byteAt s (i + 2) ∧ byteAt s (i + 2) < 192) ∧ 2048 ≤ r3 (byteAt s i) (byteAt s (i + 1)) (byteAt s (i + 2)) ∧ (r3 (byteAt s i) (byteAt s (i + 1)) (byteAt s (i + 2)) < 55296 ∨ 57343 < r3 (byteAt s i) (byteAt s (i + 1)) (byteAt s (i + 2))) then r3 (byteAt s i) (byteAt s (i + 1)) (byteAt s (i + 2)) else -1 := by
  rw [show (i + 3).toNat - i.toNat = 3 by omega, drop_cons (by omega), drop_cons (n := i.toNat + 1) (by omega), drop_cons (n := i.toNat + 1 + 1) (by omega)]
  simp only [List.take_succ_cons, List.take_zero, guess3]
  have e0 := bn_byteAt s i 0 h.1
  have e1 : bn (s.getD (i.toNat + 1) 0) = byteAt s (i + 1) := bn_byteAt s i 1 h.1
  have e2 : bn (s.getD (i.toNat + 1 + 1) 0) = byteAt s (i + 2) := bn_byteAt s i 2 h.1
  simp only [Nat.add_zero, Int.natCast_zero, Int.add_zero] at e0
  rw [e0, e1, e2]
theorem guess_4 (h : 0 ≤ i ∧ i + 4 ≤ s.length) : guessM ((s.drop i.toNat).take ((i + 4).toNat - i.toNat)) = if (240 ≤ byteAt s i ∧ byteAt s i < 248) ∧ (128 ≤ byteAt s (i + 1) ∧ byteAt s (i + 1) < 192) ∧ (128 ≤ byteAt s (i + 2) ∧ byteAt s (i + 2) < 192) ∧ (128 ≤ byteAt s (i + 3) ∧ byteAt s (i + 3) < 192) ∧ 65536 ≤ r4 (byteAt s i) (byteAt s (i + 1)) (byteAt s (i + 2)) (byteAt s (i + 3)) ∧ r4 (byteAt s i) (byteAt s (i + 1)) (byteAt s (i + 2)) (byteAt s (i + 3)) ≤ 1114111 then r4 (byteAt s i) (byteAt s (i + 1)) (byteAt s (i + 2)) (byteAt s (i + 3)) else -1 := by
  rw [show (i + 4).toNat - i.toNat = 4 by omega, drop_cons (by omega), drop_cons (n := i.toNat + 1) (by omega), drop_cons (n := i.toNat + 1 + 1) (by omega), drop_cons (n := i.toNat + 1 + 1 + 1) (by omega)]
  simp only [List.take_succ_cons, List.take_zero, guess4]
  have e0 := bn_byteAt s i 0 h.1
  have e1 : bn (s.getD (i.toNat + 1) 0) = byteAt s (i + 1) := bn_byteAt s i 1 h.1
  have e2 : bn (s.getD (i.toNat + 1 + 1) 0) = byteAt s (i + 2) := bn_byteAt s i 2 h.1
  have e3 : bn (s.getD (i.toNat + 1 + 1 + 1) 0) = byteAt s (i + 3) := bn_byteAt s i 3 h.1
  simp only [Nat.add_zero, Int.natCast_zero, Int.add_zero] at e0
  rw [e0, e1, e2, e3]
theorem nextAt_guess (h : 0 ≤ i ∧ i < s.length) : nextAt s i = if 0 ≤ guessM ((s.drop i.toNat).take ((i + 1).toNat - i.toNat)) then (guessM ((s.drop i.toNat).take ((i + 1).toNat - i.toNat)), 1) else if 2 ≤ s.length - i ∧ 0 ≤ guessM ((s.drop i.toNat).take ((i + 2).toNat - i.toNat)) then (guessM ((s.drop i.toNat).take ((i + 2).toNat - i.toNat)), 2) else if 3 ≤ s.length - i ∧ 0 ≤ guessM ((s.drop i.toNat).take ((i + 3).toNat - i.toNat)) then (guessM ((s.drop i.toNat).take ((i + 3).toNat - i.toNat)), 3) else if 4 ≤ s.length - i ∧ 0 ≤ guessM ((s.drop i.toNat).take ((i + 4).toNat - i.toNat)) then (guessM ((s.drop i.toNat).take ((i + 4).toNat - i.toNat)), 4) else (0, 0) := by
  have e0 := byteAt_lt s i; have e1 := byteAt_lt s (i + 1); have e2 := byteAt_lt s (i + 2); have e3 := byteAt_lt s (i + 3)
  have q2 : r2 (byteAt s i) (byteAt s (i + 1)) = byteAt s i % 32 * 64 + byteAt s (i + 1) % 64 := rfl
  have q3 : r3 (byteAt s i) (byteAt s (i + 1)) (byteAt s (i + 2)) = (byteAt s i % 16 * 64 + byteAt s (i + 1) % 64) * 64 + byteAt s (i + 2) % 64 := rfl
  have q4 : r4 (byteAt s i) (byteAt s (i + 1)) (byteAt s (i + 2)) (byteAt s (i + 3)) = ((byteAt s i % 8 * 64 + byteAt s (i + 1) % 64) * 64 + byteAt s (i + 2) % 64) * 64 + byteAt s (i + 3) % 64 := rfl
  have g1 := guess_1 (s := s) (i := i) (by omega)
  have g2 := fun h2 : i + 2 ≤ s.length => guess_2 (s := s) (i := i) ⟨h.1, h2⟩
  have g3 := fun h3 : i + 3 ≤ s.length => guess_3 (s := s) (i := i) ⟨h.1, h3⟩
  have g4 := fun h4 : i + 4 ≤ s.length => guess_4 (s := s) (i := i) ⟨h.1, h4⟩
  generalize guessM ((s.drop i.toNat).take ((i + 1).toNat - i.toNat)) = x1 at *
  generalize guessM ((s.drop i.toNat).take ((i + 2).toNat - i.toNat)) = x2 at *
  generalize guessM ((s.drop i.toNat).take ((i + 3).toNat - i.toNat)) = x3 at *
  generalize guessM ((s.drop i.toNat).take ((i + 4).toNat - i.toNat)) = x4 at *
  unfold nextAt decB
  rw [if_neg (by omega)]
  generalize r2 (byteAt s i) (byteAt s (i + 1)) = y2 at *
  generalize r3 (byteAt s i) (byteAt s (i + 1)) (byteAt s (i + 2)) = y3 at *
  generalize r4 (byteAt s i) (byteAt s (i + 1)) (byteAt s (i + 2)) (byteAt s (i + 3)) = y4 at *
  generalize byteAt s i = a at *
  generalize byteAt s (i + 1) = b at *
  generalize byteAt s (i + 2) = c at *
  generalize byteAt s (i + 3) = d at *
  by_cases c1 : a < 128
  · rw [if_pos c1] at g1 ⊢
    rw [if_pos (show 0 ≤ x1 by omega), g1]
  rw [if_neg c1] at g1 ⊢
  rw [if_neg (show ¬ 0 ≤ x1 by omega)]
  have key : a < 192 ∨ (192 ≤ a ∧ a < 224) ∨ (224 ≤ a ∧ a < 240) ∨ (240 ≤ a ∧ a < 248) ∨ 248 ≤ a := by omega
  rcases key with ha | ha | ha | ha | ha
  · simp (disch := omega) only [↓if_neg] at g2 g3 g4
    simp (disch := omega) only [↓if_pos, ↓if_neg]
  · by_cases hq : (128 ≤ b ∧ b < 192) ∧ 128 ≤ y2
    all_goals simp (disch := omega) only [↓if_neg, ↓if_pos] at g2 g3 g4
    all_goals by_cases hm : 2 ≤ (s.length : Int) - i
    all_goals simp (disch := omega) only [↓if_pos, ↓if_neg]
    rw [g2 (by omega)]
  · by_cases hq : (128 ≤ b ∧ b < 192) ∧ (128 ≤ c ∧ c < 192) ∧ 2048 ≤ y3 ∧ (y3 < 55296 ∨ 57343 < y3)
    all_goals simp (disch := omega) only [↓if_neg, ↓if_pos] at g2 g3 g4
    all_goals by_cases hm : 3 ≤ (s.length : Int) - i
    all_goals simp (disch := omega) only [↓if_pos, ↓if_neg]
    rw [g3 (by omega)]
  · by_cases hq : (128 ≤ b ∧ b < 192) ∧ (128 ≤ c ∧ c < 192) ∧ (128 ≤ d ∧ d < 192) ∧ 65536 ≤ y4 ∧ y4 ≤ 1114111
    all_goals simp (disch := omega) only [↓if_neg, ↓if_pos] at g2 g3 g4
    all_goals by_cases hm : 4 ≤ (s.length : Int) - i
    all_goals simp (disch := omega) only [↓if_pos, ↓if_neg]
    rw [g4 (by omega)]
  · simp (disch := omega) only [↓if_neg] at g2 g3 g4
    simp (disch := omega) only [↓if_pos, ↓if_neg]
end
end Go.Our
/- Ranging over a text: what comes of it where it is UTF-8, and at its ASCII bytes. No program in sight. -/
set_option linter.unusedVariables false
set_option linter.unusedSimpArgs false
namespace Go.Our
open Go.Sx
abbrev deco (s : List UInt8) (i : Nat) : Nat × Nat := Utf8.decode ⟨s.toArray⟩ i
theorem get_bang (s : List UInt8) (j : Nat) : ((ByteArray.mk s.toArray).get! j).toNat = (s.getD j 0).toNat := by
  unfold ByteArray.get!
  simp [List.getD, Array.getElem!_eq_getD]
  rfl
/-- decode, on numbers. -/
def decN (m b0 b1 b2 b3 : Nat) : Nat × Nat :=
  if b0 < 128 then (b0, 1)
  else if b0 / 32 = 6 ∧ 1 < m ∧ b1 / 64 = 2 then if 128 ≤ b0 % 32 * 64 + b1 % 64 then (b0 % 32 * 64 + b1 % 64, 2) else (65533, 1)
  else if b0 / 16 = 14 ∧ (1 < m ∧ b1 / 64 = 2) ∧ (2 < m ∧ b2 / 64 = 2) then
    if 2048 ≤ b0 % 16 * 4096 + b1 % 64 * 64 + b2 % 64 ∧ (b0 % 16 * 4096 + b1 % 64 * 64 + b2 % 64 < 55296 ∨ 57344 ≤ b0 % 16 * 4096 + b1 % 64 * 64 + b2 % 64) then (b0 % 16 * 4096 + b1 % 64 * 64 + b2 % 64, 3) else (65533, 1)
  else if b0 / 8 = 30 ∧ (1 < m ∧ b1 / 64 = 2) ∧ (2 < m ∧ b2 / 64 = 2) ∧ (3 < m ∧ b3 / 64 = 2) then
    if 65536 ≤ b0 % 8 * 262144 + b1 % 64 * 4096 + b2 % 64 * 64 + b3 % 64 ∧ b0 % 8 * 262144 + b1 % 64 * 4096 + b2 % 64 * 64 + b3 % 64 ≤ 1114111 then (b0 % 8 * 262144 + b1 % 64 * 4096 + b2 % 64 * 64 + b3 % 64, 4) else (65533, 1)
  else (65533, 1)
theorem decode_eq (s : List UInt8) (i : Nat) : deco s i = decN (s.length - i) (s.getD i 0).toNat (s.getD (i + 1) 0).toNat (s.getD (i + 2) 0).toNat (s.getD (i + 3) 0).toNat := by
  unfold deco Utf8.decode decN
  simp only [get_bang, Nat.add_zero]
  have hsz : (ByteArray.mk s.toArray).size = s.length := by simp [ByteArray.size]
  rw [hsz]
  generalize (s.getD i 0).toNat = b0
  generalize (s.getD (i + 1) 0).toNat = b1
  generalize (s.getD (i + 2) 0).toNat = b2
  generalize (s.getD (i + 3) 0).toNat = b3
  have e : ∀ k, (i + k < s.length) = (k < s.length - i) := fun k => by simp; omega
  simp only [Bool.and_eq_true, beq_iff_eq, decide_eq_true_eq, e, Utf8.valid, Utf8.runeError, Bool.or_eq_true, ge_iff_le]
  by_cases c1 : b0 < 128
  · simp [c1]
  by_cases c2 : b0 / 32 = 6 ∧ 1 < s.length - i ∧ b1 / 64 = 2
  · simp [c1, c2]
  by_cases c3 : b0 / 16 = 14 ∧ (1 < s.length - i ∧ b1 / 64 = 2) ∧ (2 < s.length - i ∧ b2 / 64 = 2)
  · have c3' : (b0 / 16 = 14 ∧ (1 < s.length - i ∧ b1 / 64 = 2)) ∧ (2 < s.length - i ∧ b2 / 64 = 2) := ⟨⟨c3.1, c3.2.1⟩, c3.2.2⟩
    rw [if_neg c1, if_neg c2, if_pos c3', if_neg c1, if_neg c2, if_pos c3]
    congr 1
    simp
    omega
  by_cases c4 : b0 / 8 = 30 ∧ (1 < s.length - i ∧ b1 / 64 = 2) ∧ (2 < s.length - i ∧ b2 / 64 = 2) ∧ (3 < s.length - i ∧ b3 / 64 = 2)
  · have c4' : ((b0 / 8 = 30 ∧ (1 < s.length - i ∧ b1 / 64 = 2)) ∧ (2 < s.length - i ∧ b2 / 64 = 2)) ∧ (3 < s.length - i ∧ b3 / 64 = 2) := ⟨⟨⟨c4.1, c4.2.1⟩, c4.2.2.1⟩, c4.2.2.2⟩
    have c3' : ¬ ((b0 / 16 = 14 ∧ (1 < s.length - i ∧ b1 / 64 = 2)) ∧ (2 < s.length - i ∧ b2 / 64 = 2)) := fun h => c3 ⟨h.1.1, h.1.2, h.2⟩
    rw [if_neg c1, if_neg c2, if_neg c3', if_pos c4', if_neg c1, if_neg c2, if_neg c3, if_pos c4]
    congr 1
    simp
    omega
  · have c4' : ¬ (((b0 / 8 = 30 ∧ (1 < s.length - i ∧ b1 / 64 = 2)) ∧ (2 < s.length - i ∧ b2 / 64 = 2)) ∧ (3 < s.length - i ∧ b3 / 64 = 2)) := fun h => c4 ⟨h.1.1.1, h.1.1.2, h.1.2, h.2⟩
    have c3' : ¬ ((b0 / 16 = 14 ∧ (1 < s.length - i ∧ b1 / 64 = 2)) ∧ (2 < s.length - i ∧ b2 / 64 = 2)) := fun h => c3 ⟨h.1.1, h.1.2, h.2⟩
    rw [if_neg c1, if_neg c2, if_neg c3', if_neg c4', if_neg c1, if_neg c2, if_neg c3, if_neg c4]
theorem deco_pos (s : List UInt8) (i : Nat) : 1 ≤ (deco s i).2 := by
  rw [decode_eq]; unfold decN
  (repeat' split) <;> simp
theorem deco_fits (s : List UInt8) (i : Nat) (h : i < s.length) : i + (deco s i).2 ≤ s.length := by
  rw [decode_eq]; unfold decN
  (repeat' split) <;> simp <;> omega
theorem deco_scalar (s : List UInt8) (i : Nat) : Scalar ((deco s i).1 : Int) := by
  have h := (s.getD i 0).toNat_lt
  rw [decode_eq]; unfold decN Scalar
  generalize (s.getD i 0).toNat = b0 at *
  generalize (s.getD (i + 1) 0).toNat = b1 at *
  generalize (s.getD (i + 2) 0).toNat = b2 at *
  generalize (s.getD (i + 3) 0).toNat = b3 at *
  (repeat' split) <;> simp <;> omega
theorem deco_ascii {s : List UInt8} {i : Nat} (h : byteAt s i < 128) : deco s i = ((byteAt s i).toNat, 1) := by
  have e : byteAt s i = ((s.getD i 0).toNat : Int) := rfl
  rw [decode_eq]; unfold decN
  rw [e] at h ⊢
  clear e
  generalize (s.getD i 0).toNat = b0 at *
  generalize (s.getD (i + 1) 0).toNat = b1 at *
  generalize (s.getD (i + 2) 0).toNat = b2 at *
  generalize (s.getD (i + 3) 0).toNat = b3 at *
  rw [if_pos (by omega)]; simp
theorem deco_high {s : List UInt8} {i : Nat} (h : 128 ≤ byteAt s i) : 128 ≤ (deco s i).1 := by
  have e : byteAt s i = ((s.getD i 0).toNat : Int) := rfl
  have l0 := (s.getD i 0).toNat_lt
  rw [decode_eq]; unfold decN
  rw [e] at h
  clear e
  generalize (s.getD i 0).toNat = b0 at *
  generalize (s.getD (i + 1) 0).toNat = b1 at *
  generalize (s.getD (i + 2) 0).toNat = b2 at *
  generalize (s.getD (i + 3) 0).toNat = b3 at *
  (repeat' split) <;> simp <;> omega
/-- Where a scalar stands, ranging comes by it. -/
theorem deco_next {s : List UInt8} {i : Nat} (hi : i < s.length) (h : (nextAt s i).2 ≠ 0) : ((deco s i).1 : Int) = (nextAt s i).1 ∧ ((deco s i).2 : Int) = (nextAt s i).2 := by
  have l0 := (s.getD i 0).toNat_lt; have l1 := (s.getD (i + 1) 0).toNat_lt; have l2 := (s.getD (i + 2) 0).toNat_lt; have l3 := (s.getD (i + 3) 0).toNat_lt
  have e0 : byteAt s i = ((s.getD i 0).toNat : Int) := rfl
  have e1 : byteAt s ((i : Int) + 1) = ((s.getD (i + 1) 0).toNat : Int) := rfl
  have e2 : byteAt s ((i : Int) + 2) = ((s.getD (i + 2) 0).toNat : Int) := rfl
  have e3 : byteAt s ((i : Int) + 3) = ((s.getD (i + 3) 0).toNat : Int) := rfl
  rw [decode_eq]
  unfold nextAt decB r2 r3 r4 at h ⊢
  rw [if_neg (show ¬ ((i : Int) < 0 ∨ (s.length : Int) ≤ i) by omega)] at h ⊢
  simp only [e0, e1, e2, e3] at h ⊢
  clear e0 e1 e2 e3
  unfold decN
  generalize (s.getD i 0).toNat = b0 at *
  generalize (s.getD (i + 1) 0).toNat = b1 at *
  generalize (s.getD (i + 2) 0).toNat = b2 at *
  generalize (s.getD (i + 3) 0).toNat = b3 at *
  rcases (by omega : (b0 : Int) < 128 ∨ (128 ≤ (b0 : Int) ∧ (b0 : Int) < 192) ∨ (192 ≤ (b0 : Int) ∧ (b0 : Int) < 224) ∨ (224 ≤ (b0 : Int) ∧ (b0 : Int) < 240) ∨ (240 ≤ (b0 : Int) ∧ (b0 : Int) < 248) ∨ 248 ≤ (b0 : Int)) with ha | ha | ha | ha | ha | ha
  · simp (disch := omega) only [↓if_pos, ↓if_neg]; simp
  · simp (disch := omega) only [↓if_pos, ↓if_neg] at h; simp at h
  · simp (disch := omega) only [↓if_neg, ↓if_pos] at h ⊢
    split at h
    · rename_i hc
      simp (disch := omega) only [↓if_neg, ↓if_pos]
      simp <;> omega
    · simp at h
  · simp (disch := omega) only [↓if_neg, ↓if_pos] at h ⊢
    split at h
    · rename_i hc
      simp (disch := omega) only [↓if_neg, ↓if_pos]
      simp <;> omega
    · simp at h
  · simp (disch := omega) only [↓if_neg, ↓if_pos] at h ⊢
    split at h
    · rename_i hc
      simp (disch := omega) only [↓if_neg, ↓if_pos]
      simp <;> omega
    · simp at h
  · simp (disch := omega) only [↓if_pos, ↓if_neg] at h; simp at h
/-- A scalar's bytes, as they are written. -/
theorem encode_eq {r : Int} (h : Scalar r) : (Utf8.encode r).data.toList = encM r := by
  unfold Scalar at h
  have hv : Utf8.valid r = true := by simp [Utf8.valid]; omega
  obtain ⟨n, rfl⟩ : ∃ n : Nat, r = n := ⟨r.toNat, by omega⟩
  unfold Utf8.encode encM encI byteOf
  simp only [hv, if_true, Int.toNat_natCast]
  rcases (by omega : n < 128 ∨ (128 ≤ n ∧ n < 2048) ∨ (2048 ≤ n ∧ n < 65536) ∨ 65536 ≤ n) with c | c | c | c
  all_goals simp (disch := omega) only [↓if_pos, ↓if_neg, List.map_cons, List.map_nil]
  all_goals
    simp only [List.cons.injEq, and_true]
    (repeat' (first | rfl | refine ⟨?_, ?_⟩)) <;> congr 1 <;> omega
theorem encM_len {r : Int} (h : 128 ≤ r) : 2 ≤ (encM r).length ∧ (encM r).length ≤ 4 := by
  unfold encM encI
  (repeat' split) <;> simp <;> omega
theorem encM_high {r : Int} (hs : Scalar r) (h : 128 ≤ r) : ∀ c ∈ encM r, 128 ≤ bn c := by
  have hl := encI_lt ⟨hs.1, hs.2.1⟩
  intro c hc
  unfold encM at hc
  obtain ⟨x, hx, rfl⟩ := List.mem_map.1 hc
  have := hl x hx
  unfold bn; rw [byteOf_bn this]
  unfold Scalar at hs
  unfold encI at hx
  (repeat' (split at hx)) <;> simp at hx <;> omega
end Go.Our
/- IRIs in plain words: what is barred, schemes. No program in sight. -/
set_option linter.unusedVariables false
set_option linter.unusedSimpArgs false
namespace Go.Our
open Go.Sx
def Barred (c : Int) : Prop := c ≤ 32 ∨ c = 60 ∨ c = 62 ∨ c = 34 ∨ c = 123 ∨ c = 125 ∨ c = 124 ∨ c = 94 ∨ c = 96 ∨ c = 92
instance (c : Int) : Decidable (Barred c) := by unfold Barred; infer_instance
def barredM (c : Int) : Bool := decide (Barred c)
theorem barredM_true {c : Int} : barredM c = true ↔ Barred c := decide_eq_true_iff
theorem barredM_false {c : Int} : barredM c = false ↔ ¬ Barred c := decide_eq_false_iff_not
def bars : List UInt8 := [60, 62, 34, 123, 125, 124, 94, 96, 92]
/-- The first place at which ranging comes by such a one; -1: there is none. -/
def idxF (p : Int → Bool) (s : List UInt8) (i : Nat) : Int :=
  if h : i < s.length then if p ((deco s i).1 : Int) then i else idxF p s (i + (deco s i).2) else -1
termination_by s.length - i
decreasing_by have := deco_pos s i; omega
theorem idxF_end {p : Int → Bool} {s : List UInt8} {i : Nat} (h : s.length ≤ i) : idxF p s i = -1 := by rw [idxF, dif_neg (by omega)]
theorem idxF_at {p : Int → Bool} {s : List UInt8} {i : Nat} (h : i < s.length) (hp : p ((deco s i).1 : Int) = true) : idxF p s i = i := by rw [idxF, dif_pos h, if_pos hp]
theorem idxF_step {p : Int → Bool} {s : List UInt8} {i : Nat} (h : i < s.length) (hp : p ((deco s i).1 : Int) = false) : idxF p s i = idxF p s (i + (deco s i).2) := by
  conv => lhs; rw [idxF]
  rw [dif_pos h, if_neg (by simp [hp])]
/-- Is a byte, from a place on, such a one? -/
def anyB (p : Int → Bool) (s : List UInt8) (i : Nat) : Bool :=
  if h : i < s.length then p (byteAt s i) || anyB p s (i + 1) else false
termination_by s.length - i
theorem anyB_end {p : Int → Bool} {s : List UInt8} {i : Nat} (h : s.length ≤ i) : anyB p s i = false := by rw [anyB, dif_neg (by omega)]
theorem anyB_at {p : Int → Bool} {s : List UInt8} {i : Nat} (h : i < s.length) : anyB p s i = (p (byteAt s i) || anyB p s (i + 1)) := by
  conv => lhs; rw [anyB]
  rw [dif_pos h]
theorem anyB_skip {p : Int → Bool} {s : List UInt8} {i n : Nat} (h : i + n ≤ s.length) (hp : ∀ k : Nat, k < n → p (byteAt s (i + k : Nat)) = false) : anyB p s i = anyB p s (i + n) := by
  induction n with
  | zero => rfl
  | succ n ih =>
    rw [ih (by omega) (fun k hk => hp k (by omega)), anyB_at (by omega), hp n (by omega), Bool.false_or]; rfl
/-- What stands behind the first byte of a scalar of more bytes. -/
theorem nextAt_high {s : List UInt8} {i : Nat} (hi : i < s.length) (h : (nextAt s i).2 ≠ 0) (h1 : 128 ≤ byteAt s i) : ∀ k : Nat, k < (nextAt s i).2.toNat → 128 ≤ byteAt s (i + k : Nat) := by
  have e0 := byteAt_lt s i; have e1 := byteAt_lt s (i + 1); have e2 := byteAt_lt s (i + 2); have e3 := byteAt_lt s (i + 3)
  unfold nextAt decB at h ⊢
  rw [if_neg (show ¬ ((i : Int) < 0 ∨ (s.length : Int) ≤ i) by omega)] at h ⊢
  intro k hk
  have hb : (k = 0 ∧ byteAt s (i + k : Nat) = byteAt s i) ∨ (k = 1 ∧ byteAt s (i + k : Nat) = byteAt s (i + 1)) ∨ (k = 2 ∧ byteAt s (i + k : Nat) = byteAt s (i + 2)) ∨ (k = 3 ∧ byteAt s (i + k : Nat) = byteAt s (i + 3)) ∨ 4 ≤ k := by
    rcases (by omega : k = 0 ∨ k = 1 ∨ k = 2 ∨ k = 3 ∨ 4 ≤ k) with rfl | rfl | rfl | rfl | h
    · exact .inl ⟨rfl, rfl⟩
    · exact .inr (.inl ⟨rfl, rfl⟩)
    · exact .inr (.inr (.inl ⟨rfl, rfl⟩))
    · exact .inr (.inr (.inr (.inl ⟨rfl, rfl⟩)))
    · exact .inr (.inr (.inr (.inr h)))
  generalize byteAt s (i + k : Nat) = x at *
  generalize byteAt s i = a at *
  generalize byteAt s (i + 1) = b at *
  generalize byteAt s (i + 2) = c at *
  generalize byteAt s (i + 3) = d at *
  rw [if_neg (show ¬ a < 128 by omega)] at h hk
  (repeat' (split at hk)) <;> simp at hk <;> omega
/-- In what is UTF-8 something is barred just if a byte is. -/
theorem barred_runes (p : Int → Bool) (hp : ∀ c, 128 ≤ c → p c = false) (s : List UInt8) (i : Nat) : chk s i = -1 → (0 ≤ idxF p s i ↔ anyB p s i = true) := by
  induction i using chk.induct s with
  | case1 i h ih =>
    intro hc
    rw [chk_step h.1 h.2] at hc
    have hn := nextAt_n s i
    have hd := deco_next h.1 h.2
    have e0 := byteAt_lt s i
    by_cases ha : byteAt s i < 128
    · have hd' := deco_ascii ha
      have h1 : (nextAt s i).2 = 1 := by rw [hd'] at hd; simp at hd; omega
      rw [anyB_at h.1]
      by_cases hb : p (byteAt s i) = true
      · rw [idxF_at h.1 (by rw [hd']; simp only; rw [show ((byteAt s i).toNat : Int) = byteAt s i by omega]; exact hb)]
        simp [hb]
      · have hb : p (byteAt s i) = false := by simpa using hb
        rw [idxF_step h.1 (by rw [hd']; simp only; rw [show ((byteAt s i).toNat : Int) = byteAt s i by omega]; exact hb), hb, Bool.false_or]
        have := ih hc
        rw [h1] at this
        rw [hd']; exact this
    · have ha : 128 ≤ byteAt s i := by omega
      rw [idxF_step h.1 (hp _ (by have := deco_high ha; omega))]
      rw [anyB_skip (n := (nextAt s i).2.toNat) (by omega) (fun k hk => hp _ (nextAt_high h.1 h.2 ha k hk))]
      have := ih hc
      rw [show (deco s i).2 = (nextAt s i).2.toNat by omega]
      exact this
  | case2 i h hlt =>
    intro hc
    have : (nextAt s i).2 = 0 := by
      apply Classical.byContradiction; intro hh; exact h ⟨hlt, hh⟩
    rw [chk_bad hlt this] at hc; omega
  | case3 i h hlt =>
    intro _
    rw [idxF_end (by omega), anyB_end (by omega)]; simp
/-- A reference's look. -/
def refM (s : List UInt8) : Int :=
  if 65536 < s.length then 2 else if 0 ≤ chk s 0 then 40 else if anyB barredM s 0 then 50 else 0
def LetterI (c : Int) : Prop := (97 ≤ c ∧ c ≤ 122) ∨ (65 ≤ c ∧ c ≤ 90)
def SchI (c : Int) : Prop := (48 ≤ c ∧ c ≤ 57) ∨ c = 43 ∨ c = 45 ∨ c = 46
instance (c : Int) : Decidable (LetterI c) := by unfold LetterI; infer_instance
instance (c : Int) : Decidable (SchI c) := by unfold SchI; infer_instance
/-- How many bytes of a text are its scheme. -/
def schM (s : List UInt8) (i : Nat) : Int :=
  if h : i < s.length then if byteAt s i = 58 then i else if LetterI (byteAt s i) ∨ i ≠ 0 ∧ SchI (byteAt s i) then schM s (i + 1) else 0 else 0
termination_by s.length - i
theorem schM_end {s : List UInt8} {i : Nat} (h : s.length ≤ i) : schM s i = 0 := by rw [schM, dif_neg (by omega)]
theorem schM_colon {s : List UInt8} {i : Nat} (h : i < s.length) (hc : byteAt s i = 58) : schM s i = i := by rw [schM, dif_pos h, if_pos hc]
theorem schM_step {s : List UInt8} {i : Nat} (h : i < s.length) (hc : ¬ byteAt s i = 58) (hl : LetterI (byteAt s i) ∨ i ≠ 0 ∧ SchI (byteAt s i)) : schM s i = schM s (i + 1) := by
  conv => lhs; rw [schM]
  rw [dif_pos h, if_neg hc, if_pos hl]
theorem schM_stop {s : List UInt8} {i : Nat} (h : i < s.length) (hc : ¬ byteAt s i = 58) (hl : ¬ (LetterI (byteAt s i) ∨ i ≠ 0 ∧ SchI (byteAt s i))) : schM s i = 0 := by
  rw [schM, dif_pos h, if_neg hc, if_neg hl]
theorem schM_rng (s : List UInt8) (i : Nat) : 0 ≤ schM s i ∧ schM s i ≤ s.length := by
  induction i using schM.induct s with
  | case1 i h hc => rw [schM_colon h hc]; omega
  | case2 i h hc hl ih => rw [schM_step h hc hl]; exact ih
  | case3 i h hc hl => rw [schM_stop h hc hl]; omega
  | case4 i h => rw [schM_end (by omega)]; omega
def iriM (s : List UInt8) : Int := if refM s ≠ 0 then refM s else if schM s 0 = 0 then 51 else 0
theorem indexByte_none {c : UInt8} : ∀ {l : List UInt8}, c ∉ l → Lib.indexByte l c = -1
  | [], _ => rfl
  | b :: l, h => by
    have h1 : ¬ b = c := fun e => h (by rw [e]; exact List.mem_cons_self ..)
    have h2 : c ∉ l := fun e => h (List.mem_cons_of_mem _ e)
    unfold Lib.indexByte
    rw [indexByte_none h2]
    simp [h1]
theorem bars_low (i : Int) : byteAt bars i < 128 := by
  unfold byteAt
  by_cases h : i.toNat < 9
  · have : ∀ n : Nat, n < 9 → ((bars.getD n 0).toNat : Int) < 128 := by decide
    exact this _ h
  · have : bars.getD i.toNat 0 = 0 := by simp [List.getD, bars]; rw [List.getElem?_eq_none (by simp; omega)]; rfl
    rw [this]; decide
theorem bars_mem : ∀ c ∈ bars, c.toNat < 128 := by decide
theorem byteAt_mem {s : List UInt8} {i : Int} (h : 0 ≤ i ∧ i < s.length) : ∃ c ∈ s, byteAt s i = bn c := by
  have : i.toNat < s.length := by omega
  refine ⟨s[i.toNat], List.getElem_mem this, ?_⟩
  unfold byteAt bn; simp [List.getD, this]
theorem idx_high {l : List UInt8} {c : Int} (h : 128 ≤ c ∧ c < 256) (hl : ∀ b ∈ l, b.toNat < 128) : Lib.indexByte l c.toNat.toUInt8 = -1 := by
  apply indexByte_none
  intro hm
  have h1 := hl _ hm
  have : c.toNat.toUInt8.toNat = c.toNat := by
    rw [Nat.toUInt8_eq, UInt8.toNat_ofNat_of_lt' (by show c.toNat < 256; omega)]
  omega
end Go.Our
/- Names in plain words: which scalars stand in them; labels. No program in sight. -/
set_option linter.unusedVariables false
set_option linter.unusedSimpArgs false
namespace Go.Our
open Go.Sx
def BaseI (r : Int) : Prop := (65 ≤ r ∧ r ≤ 90) ∨ (97 ≤ r ∧ r ≤ 122) ∨ (192 ≤ r ∧ r ≤ 214) ∨ (216 ≤ r ∧ r ≤ 246) ∨ (248 ≤ r ∧ r ≤ 767) ∨ (880 ≤ r ∧ r ≤ 893) ∨ (895 ≤ r ∧ r ≤ 8191) ∨ (8204 ≤ r ∧ r ≤ 8205) ∨ (8304 ≤ r ∧ r ≤ 8591) ∨ (11264 ≤ r ∧ r ≤ 12271) ∨ (12289 ≤ r ∧ r ≤ 55295) ∨ (63744 ≤ r ∧ r ≤ 64975) ∨ (65008 ≤ r ∧ r ≤ 65533) ∨ (65536 ≤ r ∧ r ≤ 983039)
instance (r : Int) : Decidable (BaseI r) := by unfold BaseI; infer_instance
def StartI (r : Int) : Prop := BaseI r ∨ r = 95
instance (r : Int) : Decidable (StartI r) := by unfold StartI; infer_instance
def DigitI (r : Int) : Prop := 48 ≤ r ∧ r ≤ 57
instance (r : Int) : Decidable (DigitI r) := by unfold DigitI; infer_instance
def FollowI (r : Int) : Prop := StartI r ∨ DigitI r ∨ r = 45 ∨ r = 183 ∨ (768 ≤ r ∧ r ≤ 879) ∨ r = 8255 ∨ r = 8256
instance (r : Int) : Decidable (FollowI r) := by unfold FollowI; infer_instance
def LabelI (r : Int) : Prop := StartI r ∨ DigitI r
instance (r : Int) : Decidable (LabelI r) := by unfold LabelI; infer_instance
/-- From a place on as far as followers and dots go: where the last follower ends. -/
def runGo (s : List UInt8) (i e : Nat) : Nat :=
  if h : (nextAt s i).2 ≠ 0 ∧ ((nextAt s i).1 = 46 ∨ FollowI (nextAt s i).1) then
    runGo s (i + (nextAt s i).2.toNat) (if (nextAt s i).1 = 46 then e else i + (nextAt s i).2.toNat)
  else e
termination_by s.length - i
decreasing_by
  have := nextAt_n s i
  omega
theorem runGo_step {s : List UInt8} {i e : Nat} (h : (nextAt s i).2 ≠ 0 ∧ ((nextAt s i).1 = 46 ∨ FollowI (nextAt s i).1)) : runGo s i e = runGo s (i + (nextAt s i).2.toNat) (if (nextAt s i).1 = 46 then e else i + (nextAt s i).2.toNat) := by
  conv => lhs; rw [runGo]
  rw [dif_pos h]
theorem runGo_stop {s : List UInt8} {i e : Nat} (h : ¬ ((nextAt s i).2 ≠ 0 ∧ ((nextAt s i).1 = 46 ∨ FollowI (nextAt s i).1))) : runGo s i e = e := by
  rw [runGo, dif_neg h]
theorem runGo_rng (s : List UInt8) (i e : Nat) (h : e ≤ i) : e ≤ runGo s i e ∧ (i ≤ s.length → runGo s i e ≤ s.length) := by
  induction i, e using runGo.induct s with
  | case1 i e h1 ih =>
    have hn := nextAt_n s i
    rw [runGo_step h1]
    split
    · rename_i h2
      rw [dif_pos h2] at ih
      have := ih (by omega)
      exact ⟨this.1, fun _ => this.2 (by omega)⟩
    · rename_i h2
      rw [dif_neg h2] at ih
      have := ih (by omega)
      exact ⟨by omega, fun _ => this.2 (by omega)⟩
  | case2 i e h1 => rw [runGo_stop h1]; exact ⟨by omega, fun _ => by omega⟩
/-- How many bytes has the longest text at a place whose first scalar is such a one, whose last a follower, and what lies between followers or dots. -/
def runM (p : Int → Prop) [DecidablePred p] (s : List UInt8) (i : Int) : Int :=
  if (nextAt s i).2 = 0 ∨ ¬ p (nextAt s i).1 then 0 else (runGo s (i.toNat + (nextAt s i).2.toNat) (i.toNat + (nextAt s i).2.toNat) : Int) - i
/-- Followers and dots to the end, a follower last. -/
def restOK (s : List UInt8) (i : Nat) : Bool :=
  if h : (nextAt s i).2 ≠ 0 then
    decide ((nextAt s i).1 = 46 ∨ FollowI (nextAt s i).1) && decide ((nextAt s i).1 = 46 → i + (nextAt s i).2.toNat ≠ s.length) && restOK s (i + (nextAt s i).2.toNat)
  else decide (s.length ≤ i)
termination_by s.length - i
decreasing_by have := nextAt_n s i; omega
theorem follow_dot : ¬ FollowI 46 := by unfold FollowI StartI BaseI DigitI; omega
theorem nextAt_end {s : List UInt8} {i : Nat} (h : s.length ≤ i) : (nextAt s i).2 = 0 := by unfold nextAt; rw [if_pos (by omega)]
theorem runGo_full (s : List UInt8) (i e : Nat) (h : e ≤ i) (hi : i ≤ s.length) : runGo s i e = s.length ↔ (if i = s.length then e = s.length else restOK s i = true) := by
  induction i, e using runGo.induct s with
  | case1 i e h1 ih =>
    have hn := nextAt_n s i
    rw [runGo_step h1]
    rw [if_neg (show ¬ i = s.length by omega)]
    conv => rhs; rw [restOK]
    rw [dif_pos h1.1]
    by_cases h2 : (nextAt s i).1 = 46
    · rw [dif_pos h2] at ih
      rw [if_pos h2]
      rw [ih (by omega) (by omega)]
      split
      · rename_i h3; simp [h2, h3]; omega
      · rename_i h3; simp [h2, h3]
    · rw [dif_neg h2] at ih
      rw [if_neg h2]
      rw [ih (by omega) (by omega)]
      have h4 : FollowI (nextAt s i).1 := by rcases h1.2 with h | h; exact (h2 h).elim; exact h
      split
      · rename_i h3
        simp [h2, h3, h4]
        rw [restOK, dif_neg (by rw [nextAt_end (Nat.le_refl _)]; simp)]; simp
      · rename_i h3; simp [h2, h4]
  | case2 i e h1 =>
    rw [runGo_stop h1]
    split
    · exact Iff.rfl
    · rename_i h2
      rw [restOK]
      by_cases h3 : (nextAt s i).2 ≠ 0
      · rw [dif_pos h3]
        have : ¬ ((nextAt s i).1 = 46 ∨ FollowI (nextAt s i).1) := fun h => h1 ⟨h3, h⟩
        simp [this]; omega
      · rw [dif_neg h3]; simp; omega
/-- A blank node's label. -/
def labelM (s : List UInt8) : Int := if runM LabelI s 0 = 0 ∨ runM LabelI s 0 ≠ s.length then 60 else 0
/-- The scalars of a text from a place on. -/
def scalarsM (s : List UInt8) (i : Nat) : Option (List Int) :=
  if h : i < s.length then if h0 : (nextAt s i).2 ≠ 0 then (scalarsM s (i + (nextAt s i).2.toNat)).map ((nextAt s i).1 :: ·) else none else some []
termination_by s.length - i
decreasing_by have := nextAt_n s i; omega
/-- Behind the first. -/
def shapedM : List Int → Bool
  | [] => true
  | [r] => decide (FollowI r)
  | r :: q :: l => decide (FollowI r ∨ r = 46) && shapedM (q :: l)
theorem scalars_rest (s : List UInt8) (i : Nat) (hi : i ≤ s.length) : restOK s i = (match scalarsM s i with | some l => shapedM l | none => false) := by
  induction i using scalarsM.induct s with
  | case1 i h h0 ih =>
    have hn := nextAt_n s i
    rw [restOK, scalarsM, dif_pos h, dif_pos h0, dif_pos h0, ih (by omega)]
    by_cases h1 : i + (nextAt s i).2.toNat = s.length
    · rw [h1]
      have : scalarsM s s.length = some [] := by rw [scalarsM, dif_neg (by omega)]
      rw [this]
      simp only [Option.map_some, shapedM, Bool.and_true]
      by_cases h2 : (nextAt s i).1 = 46
      · rw [h2]; have := follow_dot; simp [this]
      · simp [h2]
    · cases hc : scalarsM s (i + (nextAt s i).2.toNat) with
      | none => simp
      | some l =>
        cases l with
        | nil =>
          exfalso
          rw [scalarsM, dif_pos (by omega)] at hc
          split at hc
          · cases hq : scalarsM s (i + (nextAt s i).2.toNat + (nextAt s ((i + (nextAt s i).2.toNat : Nat) : Int)).2.toNat) <;> rw [hq] at hc <;> simp at hc
          · cases hc
        | cons q l =>
          simp only [Option.map_some, shapedM, h1, ne_eq, not_false_eq_true, implies_true, decide_true, Bool.and_true]
          congr 1
          simp only [decide_eq_decide]
          exact Or.comm
  | case2 i h h0 =>
    rw [restOK, scalarsM, dif_neg h0, dif_pos h, dif_neg h0]; simp; omega
  | case3 i h =>
    rw [restOK, scalarsM, dif_neg (by rw [nextAt_end (by omega)]; simp), dif_neg h]; simp [shapedM]; omega
/-- The reference's label. -/
def labelR (s : List UInt8) : Int := match scalarsM s 0 with
  | some (r :: l) => if LabelI r ∧ shapedM l = true then 0 else 60
  | _ => 60
theorem label_eq (s : List UInt8) : labelM s = labelR s := by
  unfold labelM labelR runM
  have hn := nextAt_n s 0
  by_cases h : (0 : Nat) < s.length
  · rw [scalarsM, dif_pos h]
    by_cases h0 : (nextAt s 0).2 ≠ 0
    · have e : nextAt s ((0 : Nat) : Int) = nextAt s 0 := rfl
      rw [dif_pos (by rw [e]; exact h0), e]
      have hr := scalars_rest s (0 + (nextAt s 0).2.toNat) (by omega)
      have hf := runGo_full s (0 + (nextAt s 0).2.toNat) (0 + (nextAt s 0).2.toNat) (Nat.le_refl _) (by omega)
      have hg := runGo_rng s (0 + (nextAt s 0).2.toNat) (0 + (nextAt s 0).2.toNat) (Nat.le_refl _)
      rw [show (0 : Int).toNat = 0 from rfl]
      generalize runGo s (0 + (nextAt s 0).2.toNat) (0 + (nextAt s 0).2.toNat) = g at *
      by_cases hl : LabelI (nextAt s 0).1
      · rw [if_neg (show ¬ ((nextAt s 0).2 = 0 ∨ ¬ LabelI (nextAt s 0).1) by simp [h0, hl])]
        by_cases h1 : 0 + (nextAt s 0).2.toNat = s.length
        · rw [if_pos h1] at hf
          have : scalarsM s (0 + (nextAt s 0).2.toNat) = some [] := by rw [scalarsM, dif_neg (by omega)]
          rw [this]
          simp only [Option.map_some, shapedM, hl, and_self, if_true]
          rw [if_neg]
          have := hf.2 h1
          omega
        · rw [if_neg h1, hr] at hf
          cases hc : scalarsM s (0 + (nextAt s 0).2.toNat) with
          | none =>
            rw [hc] at hf
            simp only [Option.map_none]
            rw [if_pos]
            simp at hf
            omega
          | some l =>
            rw [hc] at hf
            simp only [Option.map_some, hl, true_and] at hf ⊢
            by_cases hs : shapedM l = true
            · rw [if_pos hs, if_neg]
              have := hf.2 hs
              omega
            · rw [if_neg hs, if_pos]
              have : ¬ g = s.length := fun h => hs (hf.1 h)
              omega
      · rw [if_pos (show ((nextAt s 0).2 = 0 ∨ ¬ LabelI (nextAt s 0).1) from .inr hl), if_pos (.inl rfl)]
        cases hc : scalarsM s (0 + (nextAt s 0).2.toNat) with
        | none => rfl
        | some l => simp [hl]
    · rw [dif_neg (show ¬ (nextAt s ((0 : Nat) : Int)).2 ≠ 0 from h0)]
      simp only [ne_eq, Decidable.not_not] at h0
      rw [if_pos (show ((nextAt s 0).2 = 0 ∨ ¬ LabelI (nextAt s 0).1) from .inl h0), if_pos (.inl rfl)]
  · rw [scalarsM, dif_neg h]
    have h0 : (nextAt s 0).2 = 0 := nextAt_end (i := 0) (by omega)
    rw [if_pos (show ((nextAt s 0).2 = 0 ∨ ¬ LabelI (nextAt s 0).1) from .inl h0), if_pos (.inl rfl)]
end Go.Our
/- Parts of language tags in plain words. No program in sight. -/
set_option linter.unusedVariables false
set_option linter.unusedSimpArgs false
namespace Go.Our
open Go.Sx
/-- Has each byte, from a place on, what p says? -/
def allB (p : Int → Bool) (s : List UInt8) (i : Nat) : Bool := !anyB (fun c => !p c) s i
theorem allB_end {p : Int → Bool} {s : List UInt8} {i : Nat} (h : s.length ≤ i) : allB p s i = true := by unfold allB; rw [anyB_end h]; rfl
theorem allB_at {p : Int → Bool} {s : List UInt8} {i : Nat} (h : i < s.length) : allB p s i = (p (byteAt s i) && allB p s (i + 1)) := by
  unfold allB; rw [anyB_at h]; simp
def letterB (c : Int) : Bool := decide (LetterI c)
def digitB (c : Int) : Bool := decide (DigitI c)
def partB (pure : Bool) (c : Int) : Bool := letterB c || (!pure && digitB c)
/-- So many bytes, all of them letters, or digits too. -/
def madeM (s : List UInt8) (least most : Int) (pure : Bool) : Bool := allB (partB pure) s 0 && decide (least ≤ s.length ∧ (s.length : Int) ≤ most)
theorem letterB_high {c : Int} (h : 128 ≤ c) : letterB c = false := decide_eq_false (by unfold LetterI; omega)
theorem digitB_high {c : Int} (h : 128 ≤ c) : digitB c = false := decide_eq_false (by unfold DigitI; omega)
theorem partB_high {pure : Bool} {c : Int} (h : 128 ≤ c) : partB pure c = false := by unfold partB; rw [letterB_high h, digitB_high h]; simp
def privateM (s : List UInt8) : Bool := s == [120] || s == [88]
def variantM (s : List UInt8) : Bool := madeM s 5 8 false || madeM s 4 4 false && digitB (byteAt s 0)
def regionM (s : List UInt8) : Bool := madeM s 2 2 true || decide (s.length = 3) && digitB (byteAt s 0) && digitB (byteAt s 1) && digitB (byteAt s 2)
/-- A byte in lower case. -/
def lowB (c : UInt8) : UInt8 := if 65 ≤ c.toNat ∧ c.toNat ≤ 90 then UInt8.ofNat (c.toNat + 32) else c
def lowerM (s : List UInt8) : List UInt8 := s.map lowB
theorem allB_one (p : Int → Bool) (c : UInt8) : allB p [c] 0 = p (bn c) := by
  rw [allB_at (by simp), allB_end (by simp), Bool.and_true]; rfl
/-- In lower case up to a place. -/
def curL (s : List UInt8) (i : Nat) : List UInt8 := (s.map lowB).take i ++ s.drop i
theorem curL_len (s : List UInt8) (i : Nat) : (curL s i).length = s.length := by unfold curL; simp; omega
theorem curL_zero (s : List UInt8) : curL s 0 = s := by simp [curL]
theorem curL_all {s : List UInt8} {i : Nat} (h : s.length ≤ i) : curL s i = lowerM s := by unfold curL lowerM; rw [List.take_of_length_le (by simpa using h), List.drop_eq_nil_of_le h, List.append_nil]
theorem curL_get {s : List UInt8} {i : Nat} (h : i < s.length) : (curL s i)[i]? = some s[i] := by
  unfold curL
  rw [List.getElem?_append_right (by simp; omega)]
  simp; rw [show min i s.length = i by omega]; simp [h]
theorem curL_set {s : List UInt8} {i : Nat} (h : i < s.length) : (curL s i).set i (lowB s[i]) = curL s (i + 1) := by
  unfold curL
  rw [List.set_append_right _ _ (by simp; omega), List.drop_eq_getElem_cons h]
  simp only [List.length_map, List.length_take]
  rw [show i - min i s.length = 0 by omega, List.set_cons_zero, List.take_succ_eq_append_getElem (by simpa using h), List.getElem_map, List.append_assoc]
  rfl
theorem curL_same {s : List UInt8} {i : Nat} (h : i < s.length) (hc : lowB s[i] = s[i]) : curL s i = curL s (i + 1) := by
  unfold curL
  rw [List.drop_eq_getElem_cons h, List.take_succ_eq_append_getElem (by simpa using h), List.getElem_map, hc, List.append_assoc]
  rfl
theorem rowL_get {s : List UInt8} {i : Nat} (h : i < s.length) : ((curL s i).map Sx.bytesRow)[i]? = some (Sx.bytesRow s[i]) := by
  rw [List.getElem?_map, curL_get h]; rfl
theorem rowL_set {s : List UInt8} {i : Nat} (h : i < s.length) : ((curL s i).map Sx.bytesRow).set i (Sx.bytesRow (lowB s[i])) = (curL s (i + 1)).map Sx.bytesRow := by
  rw [← List.map_set, curL_set h]
theorem lowB_up {c : UInt8} (h : 65 ≤ (c.toNat : Int) ∧ (c.toNat : Int) ≤ 90) : [SV.int .u8 (IntKind.u8.wrap ((c.toNat : Int) + 32))] = Sx.bytesRow (lowB c) := by
  unfold Sx.bytesRow lowB
  rw [if_pos (by omega), wrapu8 (by omega) (by omega), UInt8.toNat_ofNat_of_lt' (by show c.toNat + 32 < 256; omega)]
  simp
theorem lowB_id {c : UInt8} (h : ¬ (65 ≤ (c.toNat : Int) ∧ (c.toNat : Int) ≤ 90)) : lowB c = c := by unfold lowB; rw [if_neg (by omega)]
end Go.Our
/- Parts between hyphens, in plain words. No program in sight. -/
set_option linter.unusedVariables false
set_option linter.unusedSimpArgs false
namespace Go.Our
open Go.Sx
def splitM : List UInt8 → List (List UInt8)
  | [] => [[]]
  | c :: t => if c = 45 then [] :: splitM t else match splitM t with
    | h :: r => (c :: h) :: r
    | [] => [[c]]
theorem split_ne : ∀ s, splitM s ≠ []
  | [] => by simp [splitM]
  | c :: t => by
    unfold splitM
    split
    · simp
    · split <;> simp
theorem split_count : ∀ s : List UInt8, (splitM s).length = s.count 45 + 1
  | [] => rfl
  | c :: t => by
    have ih := split_count t
    unfold splitM
    split
    · rename_i h; subst h; simp [ih]
    · rename_i h
      split
      · rename_i h' r e
        rw [e] at ih
        simp at ih ⊢
        rw [List.count_cons_of_ne (by simpa using h)]; omega
      · rename_i e; exact (split_ne t e).elim
theorem split_none : ∀ {s : List UInt8}, Lib.indexByte s 45 = -1 → splitM s = [s]
  | [], _ => rfl
  | c :: t, h => by
    unfold Lib.indexByte at h
    by_cases hc : c = 45
    · subst hc; simp at h
    · have hge := Lib.indexByte_ge t 45
      have : Lib.indexByte t 45 = -1 := by
        simp [hc] at h
        apply Classical.byContradiction
        intro hn
        have := h hn
        omega
      unfold splitM
      rw [if_neg hc, split_none this]
theorem split_some : ∀ {s : List UInt8} {m : Nat}, Lib.indexByte s 45 = m → m < s.length ∧ splitM s = s.take m :: splitM (s.drop (m + 1))
  | [], m, h => by unfold Lib.indexByte at h; omega
  | c :: t, m, h => by
    unfold Lib.indexByte at h
    by_cases hc : c = 45
    · subst hc
      simp at h
      obtain rfl : m = 0 := by omega
      simp [splitM]
    · have hge := Lib.indexByte_ge t 45
      simp [hc] at h
      split at h
      · omega
      · obtain ⟨k, rfl⟩ : ∃ k, m = k + 1 := ⟨m - 1, by omega⟩
        have ih := split_some (s := t) (m := k) (by omega)
        refine ⟨by simp; omega, ?_⟩
        conv => lhs; unfold splitM
        rw [if_neg hc, ih.2]
        simp only [List.take_succ_cons, List.drop_succ_cons]
theorem split_len (s : List UInt8) : (splitM s).length ≤ s.length + 1 := by
  rw [split_count]; have := List.count_le_length (a := (45 : UInt8)) (l := s); omega
def strRow (s : List UInt8) : List SV := [.str s]
theorem plainStrs (l : List (List UInt8)) : plainLL (l.map strRow) = true := plainLL_map _ (fun _ => rfl) l
instance : PlF strRow := ⟨fun _ => rfl⟩
/-- Rows that are filled one by one. -/
def fillR (d : List (List UInt8)) (k : Nat) : List (List SV) := d.map strRow ++ List.replicate k (strRow [])
theorem plainFill (d : List (List UInt8)) (k : Nat) : plainLL (fillR d k) = true := by
  unfold fillR
  refine plainLL_append (plainStrs d) ?_
  induction k with
  | zero => rfl
  | succ k ih => rw [List.replicate_succ]; simp only [plainLL, ih]; rfl
theorem fill_get {d : List (List UInt8)} {k i : Nat} (h : i = d.length) (hk : 0 < k) : (fillR d k)[i]? = some (strRow []) := by
  subst h
  unfold fillR
  rw [List.getElem?_append_right (by simp)]
  simp [List.getElem?_replicate, hk]
theorem fill_set {d : List (List UInt8)} {k i : Nat} {p : List UInt8} (h : i = d.length) (hk : 0 < k) : (fillR d k).set i [.str p] = fillR (d ++ [p]) (k - 1) := by
  subst h
  obtain ⟨j, rfl⟩ : ∃ j, k = j + 1 := ⟨k - 1, by omega⟩
  unfold fillR
  rw [List.set_append_right _ _ (by simp)]
  simp [List.replicate_succ, strRow]
end Go.Our
/- Language tags: which parts make one. No program in sight. -/
set_option linter.unusedVariables false
set_option linter.unusedSimpArgs false
namespace Go.Our
open Go.Sx
/-- One byte, a letter or a digit, but no x. -/
def singleM (s : List UInt8) : Bool := madeM s 1 1 false && !privateM s
/-- How many parts in a row say what p says. -/
def spanM (p : List UInt8 → Bool) : List (List UInt8) → Nat
  | [] => 0
  | s :: l => if p s = true then spanM p l + 1 else 0
theorem span_le (p : List UInt8 → Bool) : ∀ l, spanM p l ≤ l.length
  | [] => by simp [spanM]
  | s :: l => by
    have := span_le p l
    unfold spanM; split <;> simp <;> omega
abbrev partOK (least : Int) : List UInt8 → Bool := fun s => madeM s least 8 false
def extP : Nat → List (List UInt8) → List (List UInt8)
  | 0, l => l
  | _ + 1, [] => []
  | n + 1, s :: l => if madeM s 3 3 true = true then extP n l else s :: l
/-- Behind the language. -/
def langP : List (List UInt8) → Option (List (List UInt8))
  | [] => none
  | s :: l => if madeM s 2 8 true = true then (if 3 < s.length then some l else some (extP 3 l)) else none
def skipIf (p : List UInt8 → Bool) : List (List UInt8) → List (List UInt8)
  | [] => []
  | s :: l => if p s = true then l else s :: l
def varsP (seen : List (List UInt8)) : List (List UInt8) → Option (List (List UInt8) × List (List UInt8))
  | [] => some ([], seen)
  | s :: l => if variantM s = true then (if lowerM s ∈ seen then none else varsP (seen ++ [lowerM s]) l) else some (s :: l, seen)
def extsP (seen : List (List UInt8)) : List (List UInt8) → Option (List (List UInt8))
  | [] => some []
  | s :: l => if singleM s = true then
        (if spanM (partOK 2) l = 0 ∨ lowerM s ∈ seen then none else extsP (seen ++ [lowerM s]) (l.drop (spanM (partOK 2) l)))
      else some (s :: l)
termination_by l => l.length
decreasing_by simp; omega
def restP (l : List (List UInt8)) : Option (List (List UInt8)) :=
  match varsP [] (skipIf regionM (skipIf (fun s => madeM s 4 4 true) l)) with
  | none => none
  | some (l, seen) => extsP seen l
def headIs (p : List UInt8 → Bool) : List (List UInt8) → Bool
  | [] => false
  | s :: _ => p s
def lastP : List (List UInt8) → Bool
  | [] => true
  | s :: l => if privateM s = true then decide (spanM (partOK 1) l ≠ 0 ∧ spanM (partOK 1) l = l.length) else false
def tagP (l : List (List UInt8)) : Bool :=
  if headIs privateM l = true then lastP l else
  match langP l with
  | none => false
  | some l => match restP l with
    | none => false
    | some l => lastP l
theorem split_bulk : ∀ s : List UInt8, ((splitM s).map List.length).sum + (splitM s).length = s.length + 1
  | [] => rfl
  | c :: t => by
    have ih := split_bulk t
    have hne := split_ne t
    unfold splitM
    split
    · simp only [List.map_cons, List.sum_cons, List.length_cons, List.length_nil]; omega
    · split
      · rename_i h r e
        rw [e] at ih
        simp only [List.map_cons, List.sum_cons, List.length_cons] at ih ⊢; omega
      · rename_i e; exact (hne e).elim
theorem split_cut : ∀ (u : List UInt8) (n : Nat), (∀ c ∈ u.take n, c ≠ 45) → u[n]? = some 45 → splitM u = u.take n :: splitM (u.drop (n + 1))
  | [], n, _, h => by simp at h
  | c :: t, 0, _, h => by
    have h : c = 45 := by simpa using h
    subst h
    conv => lhs; unfold splitM
    rw [if_pos rfl]; rfl
  | c :: t, n + 1, h, h2 => by
    have hc : c ≠ 45 := h c (by simp)
    have ih := split_cut t n (fun d hd => h d (by simp [hd])) (by simpa using h2)
    conv => lhs; unfold splitM
    rw [if_neg hc, ih]; rfl
theorem split_all : ∀ (u : List UInt8), (∀ c ∈ u, c ≠ 45) → splitM u = [u]
  | [], _ => rfl
  | c :: t, h => by
    have hc : c ≠ 45 := h c (by simp)
    have ih := split_all t (fun d hd => h d (by simp [hd]))
    unfold splitM
    rw [if_neg hc, ih]
theorem partB_true : partB true = letterB := by funext c; simp [partB]
/-- Of so many bytes, all of them digits or all letters. -/
def moreM (least most : Int) (digits : Bool) (s : List UInt8) : Bool := decide (least ≤ s.length ∧ (s.length : Int) ≤ most) && (if digits = true then allB digitB s 0 else allB letterB s 0)
theorem more_made (least most : Int) (s : List UInt8) : moreM least most false s = madeM s least most true := by
  unfold moreM madeM; rw [partB_true, Bool.and_comm]; rfl
theorem allB_three {s : List UInt8} (h : s.length = 3) : allB digitB s 0 = (digitB (byteAt s 0) && digitB (byteAt s 1) && digitB (byteAt s 2)) := by
  rw [allB_at (by omega), allB_at (by omega), allB_at (by omega), allB_end (by omega), Bool.and_true, Bool.and_assoc]; rfl
theorem region_more (s : List UInt8) : regionM s = (moreM 2 2 false s || moreM 3 3 true s) := by
  unfold regionM
  rw [more_made]
  congr 1
  unfold moreM
  by_cases h : s.length = 3
  · rw [if_pos rfl, allB_three h]; simp [h, Bool.and_assoc]
  · have : decide ((3 : Int) ≤ s.length ∧ (s.length : Int) ≤ 3) = false := decide_eq_false (by omega)
    rw [this]; simp [h]
theorem lang_more (s : List UInt8) : madeM s 2 8 true = (moreM 2 3 false s || moreM 4 8 false s) := by
  rw [more_made, more_made]; unfold madeM
  cases allB (partB true) s 0
  · simp
  · simp only [Bool.true_and]
    rw [Bool.eq_iff_iff]; simp; omega
/-- The private letter is what in lower case is x. -/
theorem private_lower (s : List UInt8) : privateM s = (lowerM s == [120]) := by
  unfold privateM lowerM
  rcases s with _ | ⟨a, _ | ⟨b, t⟩⟩
  · rfl
  · rw [Bool.eq_iff_iff]
    simp only [Bool.or_eq_true, beq_iff_eq, List.map_cons, List.map_nil, List.cons.injEq, and_true]
    unfold lowB
    constructor
    · rintro (rfl | rfl) <;> rfl
    · intro h
      split at h
      · rename_i h1
        right
        have h2 := congrArg UInt8.toNat h
        rw [UInt8.toNat_ofNat_of_lt' (by show a.toNat + 32 < 256; omega)] at h2
        have : a.toNat = 88 := by simpa using h2
        exact UInt8.toNat_inj.1 (by simpa using this)
      · exact .inl h
  · simp
end Go.Our
/- Terms and quads: which are well formed. No program in sight. -/
set_option linter.unusedVariables false
set_option linter.unusedSimpArgs false
namespace Go.Our
open Go.Sx
/-- rdf:langString -/
def taggedB : List UInt8 := [104, 116, 116, 112, 58, 47, 47, 119, 119, 119, 46, 119, 51, 46, 111, 114, 103, 47, 49, 57, 57, 57, 47, 48, 50, 47, 50, 50, 45, 114, 100, 102, 45, 115, 121, 110, 116, 97, 120, 45, 110, 115, 35, 108, 97, 110, 103, 83, 116, 114, 105, 110, 103]
def litM (t y l : List UInt8) : Int :=
  if 65536 < t.length then 2 else if 0 ≤ chk t 0 then 40 else if iriM y ≠ 0 then iriM y else
  if l ≠ [] ∧ 65536 < l.length then 2 else if l ≠ [] ∧ (¬ tagP (splitM l) = true ∨ lowerM l ≠ l) then 61 else
  if (l ≠ [] ∧ ¬ y = taggedB) ∨ (l = [] ∧ y = taggedB) then 71 else 0
def checkM (x : Tm) : Int :=
  if x.k = 1 ∨ x.k = 2 then (if x.y ≠ [] ∨ x.l ≠ [] then 70 else if x.k = 1 then iriM x.t else if 65536 < x.t.length then 2 else labelM x.t)
  else if x.k = 3 then litM x.t x.y x.l else 70
def cquadM (q : Qd) : Int :=
  if ¬ (q.s.k = 1 ∨ q.s.k = 2) then 70 else if checkM q.s ≠ 0 then checkM q.s else
  if ¬ q.p.k = 1 then 70 else if checkM q.p ≠ 0 then checkM q.p else
  if checkM q.o ≠ 0 then checkM q.o else
  if q.g = zeroTm then 0 else if ¬ (q.g.k = 1 ∨ q.g.k = 2) then 70 else checkM q.g
theorem check_other {x : Tm} (h : ¬ (x.k = 1 ∨ x.k = 2 ∨ x.k = 3)) : checkM x = 70 := by
  unfold checkM
  rw [if_neg (by omega), if_neg (by omega)]
theorem lowB_up_ne {c : UInt8} (h : 65 ≤ c.toNat ∧ c.toNat ≤ 90) : lowB c ≠ c := by
  unfold lowB
  rw [if_pos h]
  intro he
  have := congrArg UInt8.toNat he
  rw [UInt8.toNat_ofNat_of_lt' (by show c.toNat + 32 < 256; omega)] at this
  omega
theorem lower_at {s : List UInt8} {i : Nat} (h : i < s.length) : (lowerM s)[i]? = some (lowB s[i]) := by
  unfold lowerM; rw [List.getElem?_map, List.getElem?_eq_getElem h]; rfl
theorem lower_up {s : List UInt8} {i : Nat} (h : i < s.length) (hu : 65 ≤ byteAt s i ∧ byteAt s i ≤ 90) : lowerM s ≠ s := by
  intro he
  have h1 := lower_at h
  rw [he, List.getElem?_eq_getElem h] at h1
  have hb : byteAt s i = (s[i].toNat : Int) := by unfold byteAt; rw [Int.toNat_natCast, List.getD, List.getElem?_eq_getElem h]; rfl
  exact lowB_up_ne (by omega) (Option.some.inj h1).symm
theorem lower_same {s : List UInt8} (hu : ∀ i : Nat, i < s.length → ¬ (65 ≤ byteAt s i ∧ byteAt s i ≤ 90)) : lowerM s = s := by
  apply List.ext_getElem?
  intro i
  by_cases h : i < s.length
  · rw [lower_at h, List.getElem?_eq_getElem h]
    have hb : byteAt s i = (s[i].toNat : Int) := by unfold byteAt; rw [Int.toNat_natCast, List.getD, List.getElem?_eq_getElem h]; rfl
    have := hu i h
    rw [lowB_id (by omega)]
  · rw [List.getElem?_eq_none (by unfold lowerM; simp; omega), List.getElem?_eq_none (by omega)]
end Go.Our
/- What the rules draw from two quads. No program in sight. -/
set_option linter.unusedVariables false
set_option linter.unusedSimpArgs false
namespace Go.Our
open Go.Sx
def typB : List UInt8 := [104, 116, 116, 112, 58, 47, 47, 119, 119, 119, 46, 119, 51, 46, 111, 114, 103, 47, 49, 57, 57, 57, 47, 48, 50, 47, 50, 50, 45, 114, 100, 102, 45, 115, 121, 110, 116, 97, 120, 45, 110, 115, 35, 116, 121, 112, 101]
def domB : List UInt8 := [104, 116, 116, 112, 58, 47, 47, 119, 119, 119, 46, 119, 51, 46, 111, 114, 103, 47, 50, 48, 48, 48, 47, 48, 49, 47, 114, 100, 102, 45, 115, 99, 104, 101, 109, 97, 35, 100, 111, 109, 97, 105, 110]
def ranB : List UInt8 := [104, 116, 116, 112, 58, 47, 47, 119, 119, 119, 46, 119, 51, 46, 111, 114, 103, 47, 50, 48, 48, 48, 47, 48, 49, 47, 114, 100, 102, 45, 115, 99, 104, 101, 109, 97, 35, 114, 97, 110, 103, 101]
def subP : List UInt8 := [104, 116, 116, 112, 58, 47, 47, 119, 119, 119, 46, 119, 51, 46, 111, 114, 103, 47, 50, 48, 48, 48, 47, 48, 49, 47, 114, 100, 102, 45, 115, 99, 104, 101, 109, 97, 35, 115, 117, 98, 80, 114, 111, 112, 101, 114, 116, 121, 79, 102]
def subC : List UInt8 := [104, 116, 116, 112, 58, 47, 47, 119, 119, 119, 46, 119, 51, 46, 111, 114, 103, 47, 50, 48, 48, 48, 47, 48, 49, 47, 114, 100, 102, 45, 115, 99, 104, 101, 109, 97, 35, 115, 117, 98, 67, 108, 97, 115, 115, 79, 102]
def rdfB : List UInt8 := [104, 116, 116, 112, 58, 47, 47, 119, 119, 119, 46, 119, 51, 46, 111, 114, 103, 47, 49, 57, 57, 57, 47, 48, 50, 47, 50, 50, 45, 114, 100, 102, 45, 115, 121, 110, 116, 97, 120, 45, 110, 115, 35]
def rdfsB : List UInt8 := [104, 116, 116, 112, 58, 47, 47, 119, 119, 119, 46, 119, 51, 46, 111, 114, 103, 47, 50, 48, 48, 48, 47, 48, 49, 47, 114, 100, 102, 45, 115, 99, 104, 101, 109, 97, 35]
abbrev iriT (s : List UInt8) : Tm := ⟨1, s, [], []⟩
abbrev dr2 (a b : Qd) : Qd × Bool := (⟨b.s, iriT typB, a.o, a.g⟩, decide (a.p = iriT domB ∧ a.s = b.p))
abbrev dr3 (a b : Qd) : Qd × Bool := (⟨b.o, iriT typB, a.o, a.g⟩, decide (a.p = iriT ranB ∧ a.s = b.p))
abbrev chn (s : List UInt8) (a b : Qd) : Qd × Bool := (⟨a.s, a.p, b.o, a.g⟩, decide (a.p = iriT s ∧ b.p = a.p ∧ a.o = b.s))
abbrev dr7 (a b : Qd) : Qd × Bool := (⟨b.s, a.o, b.o, a.g⟩, decide (a.p = iriT subP ∧ a.s = b.p))
abbrev dr9 (a b : Qd) : Qd × Bool := (⟨b.s, iriT typB, a.o, a.g⟩, decide (a.p = iriT subC ∧ b.p = iriT typB ∧ b.o = a.s))
def drawnM (n : Int) (a b : Qd) : Qd × Bool :=
  if n = 2 then dr2 a b else if n = 3 then dr3 a b else if n = 5 then chn subP a b else if n = 7 then dr7 a b else if n = 9 then dr9 a b else if n = 11 then chn subC a b else (zeroQd, false)
def drawM (n : Int) (a b : Qd) : Qd × Bool :=
  if cquadM a = 0 ∧ cquadM b = 0 ∧ a.g = b.g ∧ (drawnM n a b).2 = true ∧ cquadM (drawnM n a b).1 = 0 then ((drawnM n a b).1, true) else (zeroQd, false)
theorem sm_iri {s : List UInt8} (h : s.length ≤ 100) : TmSm (iriT s) := ⟨by show s.length ≤ _; omega, by simp, by simp⟩
theorem drawn_sm {n : Int} {a b : Qd} (ha : QdSm a) (hb : QdSm b) : QdSm (drawnM n a b).1 := by
  obtain ⟨a1, a2, a3, a4⟩ := ha
  obtain ⟨b1, b2, b3, b4⟩ := hb
  have ht : TmSm (iriT typB) := sm_iri (by decide)
  have hz : TmSm zeroTm := ⟨by simp [zeroTm], by simp [zeroTm], by simp [zeroTm]⟩
  unfold drawnM
  (repeat' split) <;> first | exact ⟨b1, ht, a3, a4⟩ | exact ⟨b3, ht, a3, a4⟩ | exact ⟨a1, a2, b3, a4⟩ | exact ⟨b1, a3, b3, a4⟩ | exact ⟨hz, hz, hz, hz⟩
theorem tm_eq {x y : Tm} : x = y ↔ x.k = y.k ∧ x.t = y.t ∧ x.y = y.y ∧ x.l = y.l := by
  obtain ⟨a, b, c, d⟩ := x
  obtain ⟨e, f, g, h⟩ := y
  simp
theorem draw_no {n : Int} {a b : Qd} (h : ¬ (cquadM a = 0 ∧ cquadM b = 0 ∧ a.g = b.g ∧ (drawnM n a b).2 = true ∧ cquadM (drawnM n a b).1 = 0)) : drawM n a b = (zeroQd, false) := if_neg h
theorem draw_yes {n : Int} {a b : Qd} (h : cquadM a = 0 ∧ cquadM b = 0 ∧ a.g = b.g ∧ (drawnM n a b).2 = true ∧ cquadM (drawnM n a b).1 = 0) : drawM n a b = ((drawnM n a b).1, true) := if_pos h
theorem drawn_other {n : Int} {a b : Qd} (h : ¬ (n = 2 ∨ n = 3 ∨ n = 5 ∨ n = 7 ∨ n = 9 ∨ n = 11)) : drawnM n a b = (zeroQd, false) := by
  unfold drawnM
  rw [if_neg (by omega), if_neg (by omega), if_neg (by omega), if_neg (by omega), if_neg (by omega), if_neg (by omega)]
end Go.Our
/- infer's world: quads that grow, the steps by which they came, where each stands, which stand alike. No program in sight. -/
set_option linter.unusedVariables false
set_option linter.unusedSimpArgs false
namespace Go.Our
open Go.Sx
/-- A step: a rule, two quads, what is drawn. -/
structure St where
  r : Int
  a : Qd
  b : Qd
  q : Qd
  deriving DecidableEq
def St.row (s : St) : List SV := [.int .i64 s.r,
  .int .i64 s.a.s.k, .str s.a.s.t, .str s.a.s.y, .str s.a.s.l, .int .i64 s.a.p.k, .str s.a.p.t, .str s.a.p.y, .str s.a.p.l, .int .i64 s.a.o.k, .str s.a.o.t, .str s.a.o.y, .str s.a.o.l, .int .i64 s.a.g.k, .str s.a.g.t, .str s.a.g.y, .str s.a.g.l,
  .int .i64 s.b.s.k, .str s.b.s.t, .str s.b.s.y, .str s.b.s.l, .int .i64 s.b.p.k, .str s.b.p.t, .str s.b.p.y, .str s.b.p.l, .int .i64 s.b.o.k, .str s.b.o.t, .str s.b.o.y, .str s.b.o.l, .int .i64 s.b.g.k, .str s.b.g.t, .str s.b.g.y, .str s.b.g.l,
  .int .i64 s.q.s.k, .str s.q.s.t, .str s.q.s.y, .str s.q.s.l, .int .i64 s.q.p.k, .str s.q.p.t, .str s.q.p.y, .str s.q.p.l, .int .i64 s.q.o.k, .str s.q.o.t, .str s.q.o.y, .str s.q.o.l, .int .i64 s.q.g.k, .str s.q.g.t, .str s.q.g.y, .str s.q.g.l]
abbrev stRow (s : St) : List SV := s.row
theorem plainSts (l : List St) : plainLL (l.map stRow) = true := plainLL_map _ (fun _ => rfl) l
instance : PlF stRow := ⟨fun _ => rfl⟩
/-- The world: quads in the order in which they came, their steps, their places, those with the same terms at some places. -/
structure Wd where
  all : List Qd
  why : List St
  place : List (Qd × Int)
  at' : List (Qd × List Qd)
/-- The spots of a quad: its graph and predicate; and its subject; or its object. -/
def spot1 (q : Qd) : Qd := ⟨q.g, zeroTm, q.p, zeroTm⟩
def spot2 (q : Qd) : Qd := ⟨q.g, q.s, q.p, zeroTm⟩
def spot3 (q : Qd) : Qd := ⟨q.g, zeroTm, q.p, q.o⟩
def atL (k : Qd) (l : List (Qd × List Qd)) : List Qd := (getA k l).getD []
def addAt (k q : Qd) (l : List (Qd × List Qd)) : List (Qd × List Qd) := setA k (atL k l ++ [q]) l
def putM (w : Wd) (s : St) : Wd :=
  if (getA s.q w.place).isSome then w else ⟨w.all ++ [s.q], w.why ++ [s], setA s.q (w.all.length : Int) w.place, addAt (spot3 s.q) s.q (addAt (spot2 s.q) s.q (addAt (spot1 s.q) s.q w.at'))⟩
def emptyW : Wd := ⟨[], [], [], []⟩
def stepOf (q : Qd) : St := ⟨0, zeroQd, zeroQd, q⟩
def foundM (l : List Qd) : Wd := l.foldl (fun w q => putM w (stepOf q)) emptyW
abbrev intV (n : Int) : SV := .int .i64 n
abbrev qdsV (l : List Qd) : List (List SV) := l.map qdRow
abbrev placeR (l : List (Qd × Int)) : List (List SV) := rowsA KQ intV l
abbrev atR (l : List (Qd × List Qd)) : List (List DC) := rowsDA KQ 16 qdsV l
theorem plainPlace (l : List (Qd × Int)) : plainLL (placeR l) = true := plain_A KQ _ (fun _ => rfl) l
instance {l : List (Qd × Int)} : Pl (placeR l) := ⟨plainPlace l⟩
theorem plainAt (l : List (Qd × List Qd)) : plainCLL (atR l) = true := plain_DA KQ 16 _ (fun b => plainLL_map _ (fun _ => rfl) b) l
instance {l : List (Qd × List Qd)} : PlD (atR l) := ⟨plainAt l⟩
theorem entry_at {q k : Qd} {l : List Qd} {m : List (Qd × List Qd)} {i : Nat} (h : ixA k m = some (i, l)) {i1 i2 : Nat} {d : DC} {rows : List (List SV)} (h1 : i1 = i) (h2 : i2 = i) (hr : rows = qdsV (l ++ [q])) : ((atR m).modify i1 (putD d)).modify i2 (putD (.kid 16 rows)) = atR (addAt k q m) := by
  subst h1 hr
  unfold addAt atL
  rw [ixA_some h]
  exact entry_A KQ 16 qdsV d h h2
theorem entry_at0 {q k : Qd} {m : List (Qd × List Qd)} (h : ixA k m = none) {i2 : Nat} {d : DC} {rows : List (List SV)} (h2 : i2 = (atR m).length) (hr : rows = qdsV [q]) : (atR m ++ [[.v (KQ.enc k), d]]).modify i2 (putD (.kid 16 rows)) = atR (addAt k q m) := by
  subst hr
  unfold addAt atL
  rw [ixA_none h]
  exact entry_new KQ 16 qdsV d h (by rw [h2]; simp [rowsDA])
theorem atL_add (k q k' : Qd) (m : List (Qd × List Qd)) : atL k' (addAt k q m) = if k' = k then atL k m ++ [q] else atL k' m := by
  unfold addAt atL
  rw [getA_set]
  split <;> rfl
theorem atL_len (k q k' : Qd) (m : List (Qd × List Qd)) : (atL k' (addAt k q m)).length ≤ (if k' = k then (atL k m).length + 1 else (atL k' m).length) := by
  rw [atL_add]; split <;> simp
def spotK (i : Nat) (q : Qd) : Qd := match i with | 0 => spot1 q | 1 => spot2 q | _ => spot3 q
def atN (q : Qd) (l : List (Qd × List Qd)) : Nat → List (Qd × List Qd)
  | 0 => l
  | i + 1 => addAt (spotK i q) q (atN q l i)
theorem atN_len (q : Qd) (m : List (Qd × List Qd)) (n : Nat) (h : ∀ k, (atL k m).length ≤ n) : ∀ i k, (atL k (atN q m i)).length ≤ n + i
  | 0, k => h k
  | i + 1, k => by
    have h1 := atN_len q m n h i
    have := atL_len (spotK i q) q k (atN q m i)
    unfold atN
    split at this
    · have := h1 (spotK i q); omega
    · have := h1 k; omega
/-- A world is in order: just what stands in it has a place, and as many steps as quads. -/
structure WdOK (w : Wd) : Prop where
  len : w.why.length = w.all.length
  mem : ∀ q, q ∈ w.all ↔ (getA q w.place).isSome = true
  at3 : ∀ k, (atL k w.at').length ≤ 3 * w.all.length
theorem emptyW_ok : WdOK emptyW := ⟨rfl, fun q => by simp [emptyW, getA], fun k => by simp [emptyW, atL, getA]⟩
theorem put_yes {w : Wd} {s : St} (h : (getA s.q w.place).isSome = true) : putM w s = w := by unfold putM; rw [if_pos h]
theorem put_no {w : Wd} {s : St} (h : getA s.q w.place = none) : putM w s = ⟨w.all ++ [s.q], w.why ++ [s], setA s.q (w.all.length : Int) w.place, atN s.q w.at' 3⟩ := by unfold putM; rw [h]; rfl
theorem put_ok {w : Wd} (h : WdOK w) (s : St) : WdOK (putM w s) := by
  cases hg : getA s.q w.place with
  | some v => rw [put_yes (by rw [hg]; rfl)]; exact h
  | none =>
    rw [put_no hg]
    refine ⟨by simp [h.len], fun q => ?_, fun k => ?_⟩
    · simp only [List.mem_append, List.mem_singleton, h.mem q, getA_set]
      by_cases e : q = s.q
      · simp [e]
      · simp [e]
    · have := atN_len s.q w.at' _ h.at3 3 k
      simp only [List.length_append, List.length_singleton]; omega
theorem put_mem {w : Wd} (h : WdOK w) (s : St) (q : Qd) : q ∈ (putM w s).all ↔ q ∈ w.all ∨ q = s.q := by
  unfold putM
  split
  · rename_i hs
    constructor
    · exact .inl
    · rintro (h1 | rfl)
      · exact h1
      · exact (h.mem _).2 hs
  · simp
theorem put_len (w : Wd) (s : St) : (putM w s).all.length ≤ w.all.length + 1 := by
  unfold putM
  split
  · omega
  · simp
theorem foldl_ok {α : Type} (f : α → St) : ∀ (l : List α) {w : Wd}, WdOK w → WdOK (l.foldl (fun w x => putM w (f x)) w) ∧ ∀ q, q ∈ (l.foldl (fun w x => putM w (f x)) w).all ↔ q ∈ w.all ∨ ∃ x ∈ l, q = (f x).q
  | [], w, h => ⟨h, fun q => by simp⟩
  | x :: l, w, h => by
    obtain ⟨h1, h2⟩ := foldl_ok f l (put_ok h (f x))
    refine ⟨h1, fun q => ?_⟩
    rw [List.foldl_cons, h2 q, put_mem h]
    simp only [List.mem_cons, exists_eq_or_imp, or_assoc]
theorem found_ok (l : List Qd) : WdOK (foundM l) := (foldl_ok stepOf l emptyW_ok).1
theorem found_mem (l : List Qd) (q : Qd) : q ∈ (foundM l).all ↔ q ∈ l := by
  have := (foldl_ok stepOf l emptyW_ok).2 q
  unfold foundM
  rw [this]
  simp [emptyW, stepOf]
theorem foldl_len {α : Type} (f : α → St) : ∀ (l : List α) (w : Wd), (l.foldl (fun w x => putM w (f x)) w).all.length ≤ w.all.length + l.length
  | [], w => by simp
  | x :: l, w => by
    have := foldl_len f l (putM w (f x))
    have := put_len w (f x)
    simp only [List.foldl_cons, List.length_cons]; omega
theorem found_len (l : List Qd) : (foundM l).all.length ≤ l.length := by
  have := foldl_len stepOf l emptyW
  unfold foundM
  simpa [emptyW] using this
theorem ix_mem {w : Wd} (h : WdOK w) {q : Qd} {x : Nat × Int} (hx : ixA q w.place = some x) : q ∈ w.all := (h.mem q).2 (by obtain ⟨i, v⟩ := x; rw [ixA_some hx]; rfl)
theorem ix_not {w : Wd} (h : WdOK w) {q : Qd} (hx : ixA q w.place = none) : q ∉ w.all := fun hm => by have := (h.mem q).1 hm; rw [ixA_none hx] at this; cases this
/-! ### Holds -/
def stepOK (known : List Qd) (s : St) : Bool := decide ((drawM s.r s.a s.b).2 = true ∧ (drawM s.r s.a s.b).1 = s.q ∧ s.a ∈ known ∧ s.b ∈ known)
theorem step_no {k : List Qd} {s : St} (h : ¬ ((drawM s.r s.a s.b).2 = true ∧ (drawM s.r s.a s.b).1 = s.q ∧ s.a ∈ k ∧ s.b ∈ k)) : stepOK k s = false := decide_eq_false h
theorem step_yes {k : List Qd} {s : St} (h : (drawM s.r s.a s.b).2 = true ∧ (drawM s.r s.a s.b).1 = s.q ∧ s.a ∈ k ∧ s.b ∈ k) : stepOK k s = true := decide_eq_true h
def worldAt (l : List Qd) (sts : List St) : Wd := sts.foldl putM (foundM l)
theorem world_ok (l : List Qd) (sts : List St) : WdOK (worldAt l sts) ∧ (worldAt l sts).all.length ≤ l.length + sts.length := by
  exact ⟨(foldl_ok id sts (found_ok l)).1, Nat.le_trans (foldl_len id sts (foundM l)) (by have := found_len l; omega)⟩
theorem world_step (l : List Qd) (sts : List St) {i : Nat} (h : i < sts.length) : worldAt l (sts.take (i + 1)) = putM (worldAt l (sts.take i)) sts[i] := by
  rw [List.take_succ_eq_append_getElem h]; unfold worldAt; rw [List.foldl_append]; rfl
def holdsM : List Qd → List St → Bool
  | _, [] => true
  | known, s :: l => stepOK known s && holdsM (s.q :: known) l
theorem stepOK_congr {k k' : List Qd} (h : ∀ q, q ∈ k ↔ q ∈ k') (s : St) : stepOK k s = stepOK k' s := by
  unfold stepOK; simp only [h]
theorem holds_congr : ∀ {l : List St} {k k' : List Qd}, (∀ q, q ∈ k ↔ q ∈ k') → holdsM k l = holdsM k' l
  | [], _, _, _ => rfl
  | s :: l, k, k', h => by
    unfold holdsM
    rw [stepOK_congr h, holds_congr (l := l) (k := s.q :: k) (k' := s.q :: k') fun q => by simp [h q]]
theorem holds_at {l : List Qd} {sts : List St} {i : Nat} (h : i < sts.length) {w : Wd} (hw : WdOK w) : holdsM w.all (sts.drop i) = (stepOK w.all sts[i] && holdsM (putM w sts[i]).all (sts.drop (i + 1))) := by
  rw [List.drop_eq_getElem_cons h]
  conv => lhs; unfold holdsM
  rw [holds_congr (l := sts.drop (i + 1)) (k := sts[i].q :: w.all) (k' := (putM w sts[i]).all) fun q => by rw [put_mem hw]; simp [or_comm]]
/-- What the reference knows: each quad once. -/
def knownA (l : List Qd) : List (Qd × Int) := l.foldl (fun m q => setA q 1 m) []
theorem known_snoc (l : List Qd) (q : Qd) : knownA (l ++ [q]) = setA q 1 (knownA l) := by unfold knownA; rw [List.foldl_append]; rfl
theorem known_fold (q : Qd) : ∀ (l : List Qd) (m : List (Qd × Int)), getA q (l.foldl (fun m q => setA q 1 m) m) = if q ∈ l then some 1 else getA q m
  | [], m => by simp
  | x :: l, m => by
    rw [List.foldl_cons, known_fold q l, getA_set]
    by_cases h : q ∈ l
    · simp [h]
    · by_cases e : q = x
      · subst e; simp
      · simp [h, e]
theorem known_get (q : Qd) (l : List Qd) : getA q (knownA l) = if q ∈ l then some 1 else none := known_fold q l []
theorem known_some {q : Qd} {l : List Qd} {x : Nat × Int} (h : ixA q (knownA l) = some x) : q ∈ l ∧ x.2 = 1 := by
  obtain ⟨i, v⟩ := x
  have h1 := ixA_some h
  rw [known_get] at h1
  by_cases e : q ∈ l
  · rw [if_pos e] at h1; injection h1 with h1; exact ⟨e, h1.symm⟩
  · rw [if_neg e] at h1; cases h1
theorem known_none {q : Qd} {l : List Qd} (h : ixA q (knownA l) = none) : q ∉ l := fun e => by
  have h1 := ixA_none h
  rw [known_get, if_pos e] at h1; cases h1
theorem rholds_at {l : List Qd} {sts : List St} {i : Nat} (h : i < sts.length) : holdsM (l ++ (sts.take i).map St.q) (sts.drop i) = (stepOK (l ++ (sts.take i).map St.q) sts[i] && holdsM (l ++ (sts.take (i + 1)).map St.q) (sts.drop (i + 1))) := by
  rw [List.drop_eq_getElem_cons h]
  conv => lhs; unfold holdsM
  rw [holds_congr (l := sts.drop (i + 1)) (k := sts[i].q :: (l ++ (sts.take i).map St.q)) (k' := l ++ (sts.take (i + 1)).map St.q) fun q => by
    rw [List.take_succ_eq_append_getElem h, List.map_append]
    simp [or_comm, or_assoc]]
end Go.Our
/- The comparisons of numbers, texts, terms and quads, the program's and the reference's, walked. Conditions: none. -/
set_option linter.unusedVariables false
set_option linter.unusedSimpArgs false
set_option maxRecDepth 20000
set_option maxHeartbeats 8000000
namespace Go.Proofs.YtjbbkimodgffiaaGreatDoor
open Go.Sx Go.Our
abbrev tmR (x : Tm) : List SV := [.int .i64 x.k, .str x.t, .str x.y, .str x.l]
end Go.Proofs.YtjbbkimodgffiaaGreatDoor
/- Chapter 7's law: roomy lists of quads, kept lists; walked. Conditions: none. -/
set_option linter.unusedVariables false
set_option linter.unusedSimpArgs false
set_option maxRecDepth 20000
set_option maxHeartbeats 8000000
namespace Go.Proofs.YtjbbkimodgffiaaGreatDoor
open Go.Sx Go.Our
def plLists70 : Plan := (planOf [(0, 1), (1, 1), (2, 1), (4, 1), (5, 1), (6, 1), (3, 2), (7, 2), (8, 1)])
def plLists71 : Plan := (planOf [(0, 1), (1, 1), (2, 1), (3, 1), (4, 1), (5, 3), (6, 1), (7, 1), (8, 1), (9, 1), (10, 1), (11, 2), (12, 3), (13, 1), (14, 1), (15, 1), (16, 1), (17, 1), (18, 1), (19, 1), (20, 1), (21, 2), (22, 3), (23, 1), (24, 1), (25, 1)])
def markQd : Qd := ⟨⟨-7, [109, 97, 114, 107], [], []⟩, zeroTm, zeroTm, zeroTm⟩
theorem mark_does : Does Tryz.prog tab 35 0 [] [] [] (Val (.agg (qdRow markQd))) := by
  refine Does.enter tabOK (g := 35) (fn := Tryz.f35) Tryz.call35 Tryz.func35 rfl 3 rfl rfl [.cell 0 30] rfl ?_
  intro w0 F η0 h0
  conv => whnf
  repeat' ((first | refine AU ?_ | ((with_reducible refine IF.mk (fun h => ?_) (fun h => ?_)) <;> (try simp (disch := omega) only [hsB, hsC, lnB, wrap64, wrap32, simprocAttr] at h) <;> try (exfalso; omega))) <;> conv => whnf)
  exact FIN.value h0 rfl rfl
theorem needMkQ {l c : Int} {b : Nat} (B : Nat) (hb : Nat.ble b B = true) (h0 : 0 ≤ l) (h1 : l ≤ c) (h2 : (B : Int) * c ≤ 281474976710656 ∧ c ≤ 9223372036854775807) : 0 ≤ l ∧ l ≤ c ∧ c ≤ 9223372036854775807 ∧ (b : Int) * c ≤ 281474976710656 :=
  ⟨h0, h1, h2.2, Int.le_trans (Int.mul_le_mul_of_nonneg_right (by have := Nat.le_of_ble_eq_true hb; omega) (by omega)) h2.1⟩
/-- So many quads have room. -/
abbrev QdsOK (l : List Qd) : Prop := l.length * 224 ≤ 140737488351232
theorem roomyZ_does (l z : List Qd) (lim : Option Nat) (hl : QdsOK l) : Does Tryz.prog tab 10 1 [.sl (.loc 0) 0 16 l.length lim] [] [(0, .rows 16 ((l ++ z).map qdRow))]
    (fun r O nx => r = .sl (.loc 1) 0 16 l.length none ∧ O = [(1, .rows 16 ((l ++ [markQd, markQd]).map qdRow))] ∧ nx = 2) := by
  refine Does.enter tabOK (g := 10) (fn := Tryz.f10) Tryz.call10 Tryz.func10 rfl 21 rfl rfl [.tmp 2] rfl ?_
  intro w0 F η0 h0
  conv => whnf
  repeat' ((first | refine CALL.value (mark_does) rfl rfl ?_ | (rw [rows_take]; conv => whnf) | (refine NEED.mk (needMkQ 224 rfl (by omega) (by rw [wrap64 (by omega) (by omega)]; omega) (by rw [wrap64 (by omega) (by omega)]; omega)) ?_; conv => whnf) | refine AU ?_ | ((with_reducible refine IF.mk (fun h => ?_) (fun h => ?_)) <;> (try simp (disch := omega) only [hsB, hsC, lnB, wrap64, wrap32, simprocAttr] at h) <;> try (exfalso; omega))) <;> conv => whnf)
  refine NEED.mk (by rw [wrap64 (by omega) (by omega)]; exact ⟨by simp, by omega, by simp; omega⟩) ?_
  conv => whnf
  repeat' ((first | refine CALL.value (mark_does) rfl rfl ?_ | (refine NEED.mk (needApp 224 rfl rfl (by simp) (by simp) (by omega)) ?_; conv => whnf) | refine AU ?_ | ((with_reducible refine IF.mk (fun h => ?_) (fun h => ?_)) <;> (try simp (disch := omega) only [hsB, hsC, lnB, wrap64, wrap32, simprocAttr] at h) <;> try (exfalso; omega))) <;> conv => whnf)
  try (refine NEED.mk ⟨by omega, by show _ ≤ ((max ((l.length : Int).toNat + 2) (_ - 0) : Nat) : Int); omega⟩ ?_; conv => whnf)
  refine FIN.aA h0 [3] (.sl (.loc 1) 0 16 l.length none) [(1, .rows 16 ((l ++ [markQd, markQd]).map qdRow))] ?_
  exact ⟨rfl, rfl, rfl⟩
theorem roomy_does (l : List Qd) (hl : QdsOK l) : Does Tryz.prog tab 10 1 [.sl (.loc 0) 0 16 l.length none] [] [(0, .rows 16 (l.map qdRow))]
    (fun r O nx => r = .sl (.loc 1) 0 16 l.length none ∧ O = [(1, .rows 16 ((l ++ [markQd, markQd]).map qdRow))] ∧ nx = 2) := by
  have := roomyZ_does l [] none hl
  rwa [List.append_nil] at this
/-- Are pieces of two lists the same? -/
theorem sameQuadsL_does (A B : List Qd) (i n j m : Nat) (lA lB : Option Nat) (hA : i + n ≤ A.length) (hB : j + m ≤ B.length) (hn : A.length ≤ 1152921504606846976) (hm : B.length ≤ 1152921504606846976) : Does Tryz.prog tab 21 2 [.sl (.loc 0) i 16 n lA, .sl (.loc 1) j 16 m lB] [] [(0, .rows 16 (A.map qdRow)), (1, .rows 16 (B.map qdRow))]
    (ValK 2 (.bool (decide ((A.drop i).take n = (B.drop j).take m)))) := by
  refine Does.enter tabOK (g := 21) (fn := Tryz.f21) Tryz.call21 Tryz.func21 rfl 26 rfl rfl [.tmp 4] rfl ?_
  intro w0 F η0 h0
  conv => whnf
  refine IF.mk (fun h => ?_) (fun h => ?_)
  · have h : n ≠ m := by simp at h; omega
    conv => whnf
    refine FIN.valueK h0 rfl (congrArg SV.bool (decide_eq_false fun he => ?_).symm)
    have := congrArg List.length he
    simp at this
    omega
  have h : n = m := by simp at h; omega
  subst h
  conv => whnf
  refine LOOP.go tabOK [0, 1] (X := Nat) (fun c => c ≤ n ∧ ((A.drop i).take n = (B.drop j).take n ↔ (A.drop (i + c)).take (n - c) = (B.drop (j + c)).take (n - c))) (fun c => [(5, .int .i64 (c : Int))]) (fun c => []) 2 (fun c => n - c) 0 ⟨by omega, by simp⟩ ?_
  conv => whnf
  refine ⟨by exact GOES.cA h0, ?_⟩
  rintro c ⟨hc, hs⟩
  conv => whnf
  rcases Nat.lt_or_ge c n with hcn | hcn
  · have ha : i + c < A.length := by omega
    have hb : j + c < B.length := by omega
    have hstep : (A.drop (i + c)).take (n - c) = (B.drop (j + c)).take (n - c) ↔ A[i + c] = B[j + c] ∧ (A.drop (i + (c + 1))).take (n - (c + 1)) = (B.drop (j + (c + 1))).take (n - (c + 1)) := by
      rw [List.drop_eq_getElem_cons ha, List.drop_eq_getElem_cons hb, show n - c = (n - (c + 1)) + 1 by omega]
      simp only [List.take_succ_cons, List.cons.injEq]
      rw [show i + c + 1 = i + (c + 1) by omega, show j + c + 1 = j + (c + 1) by omega]
    repeat' ((first | refine DRAWN.of (id := 6) tabOK mixed plLists70 (by kernel_rfl) ?_ | with_reducible refine ADD.mk (fun _ _ => ?_) | with_reducible refine NEED.mk (Det.of rfl) ?_ | refine NEED.mk (det_pos (by omega)) ?_ | with_reducible refine FORK.mk ?_ ?_ | (refine GET.at (row := qdRow (A[i + c]'(by omega))) (by rw [show i + (c : Int).toNat = i + c by omega]; exact qdRow_get (by omega)) ?_; conv => whnf) | (refine GET.at (row := qdRow (B[j + c]'(by omega))) (by rw [show j + (c : Int).toNat = j + c by omega]; exact qdRow_get (by omega)) ?_; conv => whnf) | refine AU ?_ | ((with_reducible refine IF.mk (fun h => ?_) (fun h => ?_)) <;> (try simp (disch := omega) only [hsB, hsC, lnB, wrap64, wrap32, simprocAttr] at h) <;> try (exfalso; omega))) <;> conv => whnf)
    · have hne : A[i + c] ≠ B[j + c] := fun he => by rw [he] at h; simp at h
      exact FIN.valueK h0 rfl (congrArg SV.bool (decide_eq_false fun he => hne (hstep.1 (hs.1 he)).1).symm)
    · have heq : A[i + c] = B[j + c] := Qd.ext' (by simp only [qdRow, Qd.row, List.cons.injEq, SV.int.injEq, SV.str.injEq, true_and, and_true]; exact h)
      refine ⟨c + 1, ⟨by omega, hs.trans (hstep.trans ⟨fun x => x.2, fun x => ⟨heq, x⟩⟩)⟩, by omega, ?_⟩
      conv => whnf
      exact GOES.cA h0
  · repeat' ((first | refine AU ?_ | ((with_reducible refine IF.mk (fun h => ?_) (fun h => ?_)) <;> (try simp (disch := omega) only [hsB, hsC, lnB, wrap64, wrap32, simprocAttr] at h) <;> try (exfalso; omega))) <;> conv => whnf)
    refine FIN.valueK h0 rfl (congrArg SV.bool (decide_eq_true (hs.2 ?_)).symm)
    rw [show n - c = 0 by omega]; rfl
/-- A roomy list is as it was made. -/
theorem keptZ_does (l z : List Qd) (lim : Option Nat) (hl : QdsOK l) (hz : (l ++ z).length ≤ 1152921504606846976) : Does Tryz.prog tab 13 2 [.sl (.loc 1) 0 16 l.length none, .sl (.loc 0) 0 16 l.length lim] [(1, .rows 16 ((l ++ [markQd, markQd]).map qdRow))] [(0, .rows 16 ((l ++ z).map qdRow))]
    (fun r O nx => r = .bool true ∧ O = [(1, .rows 16 ((l ++ [markQd, markQd]).map qdRow))] ∧ nx = 2) := by
  have hA : (l ++ [markQd, markQd]).length ≤ 1152921504606846976 := by simp; omega
  refine Does.enter tabOK (g := 13) (fn := Tryz.f13) Tryz.call13 Tryz.func13 rfl 36 rfl rfl [.tmp 4] rfl ?_
  intro w0 F η0 h0
  conv => whnf
  have hw : (IntKind.i64.wrap ((l.length : Int) + 2)).toNat = l.length + 2 := by rw [wrap64 (by omega) (by omega)]; omega
  have hw1 : (IntKind.i64.wrap ((l.length : Int) + 1)).toNat = l.length + 1 := by rw [wrap64 (by omega) (by omega)]; omega
  refine NEED.mk ⟨by rw [wrap64 (by omega) (by omega)]; omega, by rw [wrap64 (by omega) (by omega)]; show _ ≤ ((max l.length (((l ++ [markQd, markQd]).map qdRow).length - 0) : Nat) : Int); simp⟩ ?_
  rw [hw]
  conv => whnf
  repeat' ((first | refine DRAWN.of (id := 2) tabOK mixed plLists71 (by kernel_rfl) ?_ | with_reducible refine ADD.mk (fun _ _ => ?_) | with_reducible refine NEED.mk (Det.of rfl) ?_ | refine NEED.mk (det_pos (by omega)) ?_ | with_reducible refine FORK.mk ?_ ?_ | (refine NEED.mk ⟨by omega, by show _ ≤ ((l.length + 2 : Nat) : Int); omega⟩ ?_; conv => whnf) | refine AU ?_ | ((with_reducible refine IF.mk (fun h => ?_) (fun h => ?_)) <;> (try simp (disch := omega) only [hsB, hsC, lnB, wrap64, wrap32, simprocAttr] at h) <;> try (exfalso; omega))) <;> conv => whnf)
  refine CALL.aA [1, 0] (sameQuadsL_does (l ++ [markQd, markQd]) (l ++ z) 0 l.length 0 l.length none lim (by simp) (by simp) hA hz) ?_
  rintro r O' nx' ⟨rfl, rfl, rfl⟩
  rw [decide_eq_true (by simp)]
  conv => whnf
  repeat' ((first | refine DRAWN.of (id := 2) tabOK mixed plLists71 (by kernel_rfl) ?_ | with_reducible refine ADD.mk (fun _ _ => ?_) | with_reducible refine NEED.mk (Det.of rfl) ?_ | refine NEED.mk (det_pos (by omega)) ?_ | with_reducible refine FORK.mk ?_ ?_ | refine CALL.value (mark_does) rfl rfl ?_ | (refine GET.at (row := qdRow markQd) (by rw [List.getElem?_map]; simp [hw1]) ?_; conv => whnf) | refine AU ?_ | ((with_reducible refine IF.mk (fun h => ?_) (fun h => ?_)) <;> (try simp (disch := omega) only [hsB, hsC, lnB, wrap64, wrap32, simprocAttr] at h) <;> try (exfalso; omega))) <;> conv => whnf)
  all_goals first
    | (exfalso; simp_all; done)
    | (refine FIN.here h0 (rc := .bool true) (Oc := [(1, .rows 16 ((l ++ [markQd, markQd]).map qdRow))]) (congrArg SV.bool (by simp)) rfl (by first | rfl | (simp only [belowO, belowH, plainLL_below _ (plainQds _), Bool.and_self, Bool.and_true] <;> rfl)) ⟨rfl, trivial⟩ ⟨rfl, rfl, rfl⟩)
    | trace_state
theorem kept_does (l : List Qd) (hl : QdsOK l) : Does Tryz.prog tab 13 2 [.sl (.loc 1) 0 16 l.length none, .sl (.loc 0) 0 16 l.length none] [(1, .rows 16 ((l ++ [markQd, markQd]).map qdRow))] [(0, .rows 16 (l.map qdRow))]
    (fun r O nx => r = .bool true ∧ O = [(1, .rows 16 ((l ++ [markQd, markQd]).map qdRow))] ∧ nx = 2) := by
  have := keptZ_does l [] none hl (by simp; omega)
  rwa [List.append_nil] at this
end Go.Proofs.YtjbbkimodgffiaaGreatDoor
/- Calls walked in place, in the caller's own heap; ranges over functions, the function's walk and the rounds in one. Conditions: none. -/
set_option linter.unusedVariables false
set_option linter.unusedSimpArgs false
namespace Go.Sx
open Go
/-- The same, in another frame, and with these names for what lay there. -/
def Mx.at (M : Mx) (N : Nat) (ro : Option (Nat × Nat)) (η : Env) : Mx := ⟨M.P, ⟨M.C.T, N, M.C.S, ro⟩, M.w0, M.F, η⟩
/-- What stands at the end of a function that is walked in place. -/
def endI (M : Mx) (res : List ResultVar) (K : SV → Hps → Nat → Prop) : Post
  | .normal, fr, O, nx => offGo fr O fun O => retGo M.C fr O res fun vs => K (oneOf vs) O nx
  | .ret, fr, O, nx => offGo fr O fun O => retGo M.C fr O res fun vs => K (oneOf vs) O nx
  | .exit _, _, _, _ => STOP "exit"
/-- The arguments of a round in the slots of what is yielded. -/
def putAK : List Nat → List SV → Fr → (Fr → Prop) → Prop
  | [], ags, fr, K => match ags with
    | [] => match isDfs (lkp DS fr) with
      | true => STOP "round"
      | false => K fr
    | _ :: _ => STOP "round"
  | p :: ps, ags, fr, K => match ags with
    | a :: ags => putAK ps ags ((p, a) :: fr) K
    | [] => STOP "round"
/-- A round's end. -/
def roundB (j : Nat) (K : SV → Hps → Nat → Prop) : Post := fun e fr O nx => match lkp j O with
  | some h => match h with
    | .lp st li fr0 => match st with
      | .busy => match e with
        | .normal => setKK j (.lp .ready li fr0) O fun O => K (.bool true) O nx
        | .ret => setKK j (.lp (.left none) li fr0) O fun O => K (.bool false) O nx
        | .exit id => setKK j (.lp (.left (some id)) li fr0) O fun O => K (.bool false) O nx
      | _ => STOP "record"
    | _ => STOP "record"
  | none => STOP "record"
/-- The body of a round, behind the assignments. -/
def roundA (M : Mx) (j : Nat) (body : Code) (K : SV → Hps → Nat → Prop) : Post := fun e fr O nx => match e with
  | .normal => match lkp j O with
    | some h => match h with
      | .lp st li fr0 => match st with
        | .ready => setKK j (.lp .busy li fr0) O fun O => run M body fr O nx (roundB j K)
        | _ => STOP "record"
      | _ => STOP "record"
    | none => STOP "record"
  | _ => STOP "assignment"
/-- A frame without the calls that are put off. -/
def noDS : Fr → (Fr → Prop) → Prop
  | [], K => K []
  | (t, v) :: r, K => match Nat.beq t DS with
    | true => noDS r K
    | false => noDS r fun r => K ((t, v) :: r)
/-- The frame behind a loop: the place for what its rounds put off is marked. -/
def addDS (fr : Fr) (d : Nat) (K : Fr → Prop) : Prop := match lkp DS fr with
  | some v => match v with
    | .dfs l => K ((DS, .dfs (.ptr (.loc d) 0 0 0 :: l)) :: fr)
    | _ => K ((DS, .dfs [.ptr (.loc d) 0 0 0]) :: fr)
  | none => K ((DS, .dfs [.ptr (.loc d) 0 0 0]) :: fr)
/-- Behind the function that was ranged over: ags the rounds have left the loop. -/
def rangeK (j : Nat) (frK : (Fr → Prop) → Prop) (Q : Post) : SV → Hps → Nat → Prop := fun _ O nx => match lkp j O with
  | some h => match h with
    | .lp st _ _ => match st with
      | .ready => delKK j O fun O => frK fun fr => Q .normal fr O nx
      | .busy => STOP "record"
      | .left jump => match jump with
        | none => delKK j O fun O => frK fun fr => Q .ret fr O nx
        | some id => delKK j O fun O => frK fun fr => Q (.exit id) fr O nx
    | _ => STOP "record"
  | none => STOP "record"
section
variable {M : Mx} {η : Env} {w : World} {O : Hps} {nx : Nat}
theorem SOK.longer (h : SOK M) {η : Env} (hp : M.η0 <+: η) {N : Nat} {ro : Option (Nat × Nat)} : SOK (M.at N ro η) := by
  intro b hh hb
  have hb' : lkS M.C b = some hh := by cases b <;> exact hb
  obtain ⟨h1, h2⟩ := h b hh hb'
  obtain ⟨x, hx, _⟩ := h1.lt
  exact ⟨h1.mono hp, fun k f => h2 k (feet.less hp hx f)⟩
theorem HeapOK.at (H : HeapOK M η w O nx) {N : Nat} {ro : Option (Nat × Nat)} : HeapOK (M.at N ro η) η w O nx := ⟨List.prefix_rfl, H.len, H.own, H.fr, H.sok.longer H.pre⟩
theorem HeapOK.back {η0 : Env} {N : Nat} {ro : Option (Nat × Nat)} (H : HeapOK (M.at N ro η0) η w O nx) (hp : M.η0 <+: η0) (hs : SOK M) : HeapOK M η w O nx := ⟨hp.trans H.pre, H.len, H.own, H.fr, hs⟩
/-- What a function does, by the walk of its body in the caller's own heap. -/
theorem calls_of_run (hT : TabOK M.P M.C.T) {g : FuncId} {fn : Func} {c : Code} (hf : M.P.funcs[g]? = some fn) (hb : fn.body = some c) (N : Nat) (hN : fn.ntmps = N) (hND : N ≤ DS) {args : List SV} (hlen : args.length ≤ N) {res : List ResultVar} (hres : fn.results = res.toArray)
    {K : SV → Hps → Nat → Prop} {vs : List Value} (H : HeapOK M η w O nx) (hd : DenL η args vs) (h : run (M.at N none η) c (argFr 0 args) O nx (endI (M.at N none η) res K))
    {R : Ending → World → Prop} (hR : ∀ v r w' O' nx' η', η <+: η' → HeapOK M η' w' O' nx' → Den η' r v → K r O' nx' → R (.returned v) w') : Calls M.P g ⟨vs⟩ w R := by
  have hl := denL_len hd
  refine callsIn_wide (n := 0) |>.1 (callsIn_of_wp_marks hf hb trivial ?_)
  have hm : Models (M.at N none η) η (argFr 0 args) O nx { tmps := ⟨vs⟩ ++ Array.replicate (fn.ntmps - (Array.mk vs).size) undef, defers := [] } w := by
    refine ⟨H.at, ?_, hND, argFr_nd (Nat.le_trans hlen hND), (fun l j h => by cases h), ?_⟩
    · simp only [Array.size_append, Array.size_replicate, hN, List.size_toArray]
      show vs.length + (N - vs.length) = N
      omega
    · intro t sv ht
      obtain ⟨v, _, h1, h2⟩ := argFr_ok hd ht
      have hlt := (List.getElem?_eq_some_iff.1 h1).1
      simp only [Nat.sub_zero] at h1 hlt
      rw [Array.getD_eq_getD_getElem?, Array.getElem?_append_left (by simpa using hlt)]
      have : (Array.mk vs)[t]? = some v := by simpa using h1
      rw [this]; exact h2
  refine Code.wpIn_mono ?_ (run_sound (M := M.at N none η) hT c h η _ w hm)
  have fin : ∀ {η1 : Env} {fr1 : Fr} {O1 : Hps} {nx1 : Nat} {a : Act} {w1 : World}, Models (M.at N none η) η1 fr1 O1 nx1 a w1 → (offGo fr1 O1 fun O1 => retGo (M.at N none η).C fr1 O1 res fun vs => K (oneOf vs) O1 nx1) →
      LeavesInM Fence.wide 0 M.P fn a.tmps R a.defers .returning w1 := by
    intro η1 fr1 O1 nx1 a w1 hm1 hr
    exact end_sound (M := M.at N none η) hT hres hm1 hr fun w2 O2 v r H2 hd2 hk => hR v r w2 O2 nx1 η1 H2.pre (H2.back H.pre H.sok) hd2 hk
  intro e a w hq
  cases e with
  | normal => obtain ⟨η1, fr1, O1, nx1, hm1, hq⟩ := hq; exact fin hm1 hq
  | ret => obtain ⟨η1, fr1, O1, nx1, hm1, hq⟩ := hq; exact fin hm1 hq
  | exit id => obtain ⟨η1, fr1, O1, nx1, hm1, hq⟩ := hq; exact hq.out.elim
  | goto l => exact hq.elim
  | panic ch => exact hq.elim
  | outgrown => exact hq.elim
/-! ### Rounds -/
def setAll : List Nat → List Value → Array Value → Array Value
  | p :: ps, v :: vs, t => setAll ps vs (t.setIfInBounds p v)
  | _, _, t => t
theorem foldl_setAll : ∀ (ps : List Nat) (vs : List Value) (t : Array Value), ((ps.toArray.zip ⟨vs⟩).foldl (fun tmps (p : Nat × Value) => tmps.setIfInBounds p.1 p.2) t) = setAll ps vs t := by
  intro ps vs t
  have h1 : (ps.toArray.zip ⟨vs⟩ : Array (Nat × Value)) = (ps.zip vs).toArray := by simp
  rw [h1, ← Array.foldl_toList]
  simp only
  induction ps generalizing vs t with
  | nil => simp [setAll]
  | cons p ps ih =>
    cases vs with
    | nil => simp [setAll]
    | cons v vs =>
      simp only [List.zip_cons_cons, List.foldl_cons, setAll]
      exact ih vs (t.setIfInBounds p v) (by simp)
theorem setAll_size : ∀ (ps : List Nat) (vs : List Value) (t : Array Value), (setAll ps vs t).size = t.size
  | [], vs, t => by simp [setAll]
  | p :: ps, [], t => by simp [setAll]
  | p :: ps, v :: vs, t => by simp only [setAll]; rw [setAll_size ps vs]; simp
theorem putAK_ok {η : Env} : ∀ {ps : List Nat} {ags : List SV} {fr : Fr} {K : Fr → Prop} {vs : List Value} {t : Array Value}, putAK ps ags fr K → DenL η ags vs → TmpsOK η t fr → (∀ p ∈ ps, p < t.size) → ∃ fr', K fr' ∧ isDfs (lkp DS fr') = false ∧ TmpsOK η (setAll ps vs t) fr' ∧ vs.length = ps.length
  | [], ags, fr, K, vs, t, h, hd, ht, hp => by
    simp only [putAK] at h
    split at h
    · split at h
      · exact h.out.elim
      · rename_i hn
        simp only [DenL] at hd
        subst hd
        exact ⟨fr, h, hn, ht, rfl⟩
    · exact h.out.elim
  | p :: ps, ags, fr, K, vs, t, h, hd, ht, hp => by
    simp only [putAK] at h
    split at h
    · rename_i a ags
      simp only [DenL] at hd
      obtain ⟨u, us, rfl, h1, h2⟩ := hd
      have hpt := hp p (List.mem_cons_self ..)
      obtain ⟨fr', h3, h4, h5, h6⟩ := putAK_ok (t := t.setIfInBounds p u) h h2 (fun s sv hs => by
        rw [lkp_cons] at hs
        split at hs
        · rename_i e; subst e; injection hs with hs; subst hs
          simpa [Array.getD_eq_getD_getElem?, Array.getElem?_setIfInBounds, hpt] using h1
        · rename_i e
          rw [Array.getD_eq_getD_getElem?, Array.getElem?_setIfInBounds, if_neg (Ne.symm e), ← Array.getD_eq_getD_getElem?]
          exact ht s sv hs) (fun q hq => by rw [Array.size_setIfInBounds]; exact hp q (List.mem_cons_of_mem _ hq))
      exact ⟨fr', h3, h4, h5, by simp [h6]⟩
    · exact h.out.elim
/-- The record is turned. -/
theorem HeapOK.record (H : HeapOK M η w O nx) {j : Nat} {st st' : LpS} {li : LpI} {fr0 : Fr} (hj : lkp j O = some (.lp st li fr0)) {e : Ent} (he : η[j]? = some (some e)) :
    ∃ r, w.heap[e.g]? = some (.loop r) ∧ r.state = st.state ∧ r.pending = st.jump ∧ ∀ r' : Loop, r'.state = st'.state → r'.pending = st'.jump → r'.params = r.params → r'.assign = r.assign → r'.body = r.body → r'.tmps = r.tmps → HeapOK M η (w.putObj e.g (.loop r')) (setK j (.lp st' li fr0) O) nx := by
  have hs := (H.own.1 j _ hj).1
  simp only [HpSat] at hs
  obtain ⟨e', r, h1, h2, h3, h4, h5, h6, h7, h8, h9, h10⟩ := hs
  have h1' : η[j]? = some (some e') := h1
  rw [he] at h1'
  injection h1' with h1'
  injection h1' with h1'
  subst h1'
  have hlt := (Array.getElem?_eq_some_iff.1 h3).1
  refine ⟨r, h3, h4, h5, fun r' q1 q2 q3 q4 q5 q6 => ?_⟩
  refine H.upd hj he (fun k hk => World.putObj_heap_other hk) World.putObj_size rfl rfl rfl ?_
  simp only [HpSat]
  exact ⟨e, r', h1, h2, World.putObj_heap_same hlt, q1, q2, by rw [q3]; exact h6, by rw [q4]; exact h7, by rw [q5]; exact h8, by rw [q6]; exact h9, by rw [q6]; exact h10⟩
/-- A round: the assignments and the body are walked in place, in the frame with which the loop was come to. -/
theorem YIELD.of (hT : TabOK M.P M.C.T) {j : Nat} {li : LpI} {fr0 : Fr} {args : List SV} {K : SV → Hps → Nat → Prop} (hj : lkp j O = some (.lp .ready li fr0)) (hps : li.ps.all (fun p => Nat.blt p li.N) = true) (hND : Nat.ble li.N DS = true)
    (h : ∀ (η1 : Env) (l : Nat), η1.length = nx → putAK li.ps args fr0 fun fr => run (M.at li.N (some (l, j)) η1) li.asg fr O nx (roundA (M.at li.N (some (l, j)) η1) j li.body K)) : YIELD M j args O nx K := by
  refine ⟨fun η w vs e H hd he => ?_⟩
  obtain ⟨r, hr, hst, hpe, _⟩ := H.record (st' := .ready) hj he
  have hs := (H.own.1 j _ hj).1
  simp only [HpSat] at hs
  obtain ⟨e', r', h1, h2, h3, h4, h5, h6, h7, h8, h9, h10⟩ := hs
  have h1' : η[j]? = some (some e') := h1
  rw [he] at h1'
  injection h1' with h1'
  injection h1' with h1'
  subst h1'
  rw [hr] at h3
  injection h3 with h3
  injection h3 with h3
  subst h3
  obtain ⟨fr, hrun, hnd, htm, hlen⟩ := putAK_ok (h η e.g H.len) hd h10 (fun p hp => by rw [h9]; simpa [Nat.blt_eq] using List.all_eq_true.1 hps p hp)
  have hpr : r.params = li.ps.toArray := by rw [← h6]
  refine ⟨r.fn, _, r.assign, r.body, run_yield hr (by rw [hpr]; simpa using hlen), ?_⟩
  rw [h7, h8]
  have hfold : ((r.params.zip ⟨vs⟩).foldl (fun tmps (x : Nat × Value) => tmps.setIfInBounds x.1 x.2) r.tmps) = setAll li.ps vs r.tmps := by rw [hpr]; exact foldl_setAll li.ps vs r.tmps
  have hfold' : ((r.params.zip ⟨vs⟩).foldl (fun tmps x => match x with | (t, a) => tmps.setIfInBounds t a) r.tmps) = setAll li.ps vs r.tmps := hfold
  rw [hfold']
  generalize hMr : M.at li.N (some (e.g, j)) η = Mr at hrun
  have hTr : TabOK Mr.P Mr.C.T := by subst hMr; exact hT
  have hPr : Mr.P = M.P := by subst hMr; rfl
  have hfr : Mr.fence = Fence.wide.inRound e.g := by subst hMr; rfl
  have hm : Models Mr η fr O nx { tmps := setAll li.ps vs r.tmps, defers := [] } w := by
    subst hMr
    refine ⟨H.at, by rw [setAll_size]; exact h9, Nat.le_of_ble_eq_true hND, (DfOK.no hnd).2 rfl, fun l' j' hl => ?_, htm⟩
    injection hl with hl
    injection hl with hl1 hl2
    subst hl1 hl2
    exact ⟨e, he, rfl⟩
  refine roundIn_of_wpIn trivial ?_
  rw [← hPr, ← hfr]
  refine Code.wpIn_mono ?_ (run_sound hTr li.asg hrun η _ w hm)
  intro ex a1 w1 hq
  cases ex with
  | exit id => obtain ⟨η1, fr1, O1, nx1, hm1, hq⟩ := hq; exact hq.out.elim
  | ret => obtain ⟨η1, fr1, O1, nx1, hm1, hq⟩ := hq; exact hq.out.elim
  | goto l => exact hq.elim
  | panic ch => exact hq.elim
  | outgrown => exact hq.elim
  | normal =>
    obtain ⟨η1, fr1, O1, nx1, hm1, hq⟩ := hq
    simp only [roundA] at hq
    split at hq
    case h_2 => exact hq.out.elim
    rename_i hh hj1
    split at hq
    case h_2 => exact hq.out.elim
    rename_i st1 li1 fr01
    split at hq
    case h_2 => exact hq.out.elim
    rw [setKK_iff] at hq
    obtain ⟨e1, he1, heg⟩ := hm1.ro e.g j (by subst hMr; rfl)
    obtain ⟨r1, hr1, hs1, hp1, hup1⟩ := hm1.heap.record (st' := .busy) hj1 he1
    rw [heg] at hr1 hup1
    refine ⟨_, run_beginRound hr1 hs1, ?_⟩
    have hm2 : Models Mr η1 fr1 (setK j (.lp .busy li1 fr01) O1) nx1 a1 (w1.putObj e.g (.loop { r1 with state := .busy })) := ⟨hup1 _ rfl hp1 rfl rfl rfl rfl, hm1.size, hm1.nds, hm1.defers, hm1.ro, hm1.frame⟩
    refine Code.wpIn_mono ?_ (run_sound hTr li.body hq η1 a1 _ hm2)
    -- the end of the round
    have fin : ∀ {ex : Ex} {η2 : Env} {fr2 : Fr} {O2 : Hps} {nx2 : Nat} {a2 : Act} {w2 : World} (jump : Option Code), Models Mr η2 fr2 O2 nx2 a2 w2 → roundB j K ex fr2 O2 nx2 → (match ex with | .normal => jump = none | .ret => jump = some .ret | .exit id => jump = some (.exit id)) →
        ∃ v w', (Instr.endRound e.g jump).run Mr.P w2 = .ok v w' ∧ ∃ v', Ending.returned v = .returned v' ∧ ∃ r O' nx' η', η <+: η' ∧ HeapOK M η' w' O' nx' ∧ Den η' r v' ∧ K r O' nx' := by
      intro ex η2 fr2 O2 nx2 a2 w2 jump hm2 hq hj'
      unfold roundB at hq
      split at hq
      case h_2 => exact hq.out.elim
      rename_i hh hj2
      split at hq
      case h_2 => exact hq.out.elim
      rename_i st2 li2 fr02
      split at hq
      case h_2 => exact hq.out.elim
      obtain ⟨e2, he2, heg2⟩ := hm2.ro e.g j (by subst hMr; rfl)
      have hpre : η <+: η2 := by have := hm2.heap.pre; subst hMr; exact this
      have back : ∀ {w' : World} {O' : Hps}, HeapOK Mr η2 w' O' nx2 → HeapOK M η2 w' O' nx2 := fun h => by subst hMr; exact h.back H.pre H.sok
      cases ex with
      | normal =>
        simp only at hj'
        subst hj'
        simp only [setKK_iff] at hq
        obtain ⟨r2, hr2, hs2, hp2, hup2⟩ := hm2.heap.record (st' := .ready) hj2 he2
        rw [heg2] at hr2 hup2
        exact ⟨_, _, run_endRound none hr2, _, rfl, .bool true, _, _, η2, hpre, back (hup2 _ rfl rfl rfl rfl rfl rfl), (by simp only [Den]; rfl), hq⟩
      | ret =>
        simp only at hj'
        subst hj'
        simp only [setKK_iff] at hq
        obtain ⟨r2, hr2, hs2, hp2, hup2⟩ := hm2.heap.record (st' := .left none) hj2 he2
        rw [heg2] at hr2 hup2
        exact ⟨_, _, run_endRound (some .ret) hr2, _, rfl, .bool false, _, _, η2, hpre, back (hup2 _ rfl rfl rfl rfl rfl rfl), (by simp only [Den]; rfl), hq⟩
      | exit id =>
        simp only at hj'
        subst hj'
        simp only [setKK_iff] at hq
        obtain ⟨r2, hr2, hs2, hp2, hup2⟩ := hm2.heap.record (st' := .left (some id)) hj2 he2
        rw [heg2] at hr2 hup2
        exact ⟨_, _, run_endRound (some (.exit id)) hr2, _, rfl, .bool false, _, _, η2, hpre, back (hup2 _ rfl rfl rfl rfl rfl rfl), (by simp only [Den]; rfl), hq⟩
    intro ex a2 w2 hq2
    cases ex with
    | normal => obtain ⟨η2, fr2, O2, nx2, hm2, hq2⟩ := hq2; exact fin none hm2 hq2 rfl
    | ret => obtain ⟨η2, fr2, O2, nx2, hm2, hq2⟩ := hq2; exact fin (some .ret) hm2 hq2 rfl
    | exit id => obtain ⟨η2, fr2, O2, nx2, hm2, hq2⟩ := hq2; exact fin (some (.exit id)) hm2 hq2 rfl
    | goto l => exact hq2.elim
    | panic ch => exact hq2.elim
    | outgrown => exact hq2.elim
/-! ### The statement -/
theorem noDS_ok {K : Fr → Prop} : ∀ {fr : Fr}, noDS fr K → ∃ fr0, K fr0 ∧ lkp DS fr0 = none ∧ ∀ t v, lkp t fr0 = some v → lkp t fr = some v
  | [], h => ⟨[], h, rfl, fun t v h => h⟩
  | (d, u) :: r, h => by
    unfold noDS at h
    split at h
    · rename_i e
      have e := beq_eq e
      obtain ⟨fr0, h1, h0, h2⟩ := noDS_ok h
      refine ⟨fr0, h1, h0, fun t v ht => ?_⟩
      rw [lkp_cons]
      split
      · rename_i e2
        rw [e2, e, h0] at ht; cases ht
      · exact h2 t v ht
    · rename_i e
      have e := ne_of_beq e
      obtain ⟨fr0, h1, h0, h2⟩ := noDS_ok h
      refine ⟨(d, u) :: fr0, h1, by rw [lkp_cons, if_neg (Ne.symm e)]; exact h0, fun t v ht => ?_⟩
      rw [lkp_cons] at ht ⊢
      split
      · rename_i e; rw [if_pos e] at ht; exact ht
      · rename_i e; rw [if_neg e] at ht; exact h2 t v ht
theorem range_core (hT : TabOK M.P M.C.T) {gf g : FuncId} {fn : Func} {c : Code} {cap : List SV} (hcall : ∀ args w, (callFunc gf args).run M.P w = .ok (.enter g args) w) (hf : M.P.funcs[g]? = some fn) (hb : fn.body = some c) (N : Nat) (hN : fn.ntmps = N) (hND : N ≤ DS) (hlen : cap.length + 1 ≤ N) (hres : fn.results = #[])
    {f : Operand} {Q : Post} {a a' : Act} {η1 : Env} {w1 : World} {O1 : Hps} {n1 j l : Nat} (hev : ∃ vs, a.eval f = .func (.func gf) #[] ⟨vs⟩ ∧ DenL η1 cap vs) (H1 : HeapOK M η1 w1 O1 n1) (hj : η1[j]? = some (some ⟨l, 0, 0⟩)) {frK : (Fr → Prop) → Prop}
    (hfrK : ∀ {K : Fr → Prop}, frK K → ∃ fr', K fr' ∧ ∀ η' w' O' nx', η1 <+: η' → HeapOK M η' w' O' nx' → Models M η' fr' O' nx' a' w')
    (h : run (M.at N none η1) c (argFr 0 (.yf (.loc j) :: cap)) O1 n1 (endI (M.at N none η1) [] (rangeK j frK Q))) :
    ∃ (d : Deferred) (w1' : World) (f' : FuncId) (args : Array Value) (w2 : World), (resolve a.eval (rangeCall f l) 0).run M.P w1 = .ok d w1' ∧ (∀ f', Target.leads M.P w1' d.target d.args = some f' → M.fence.fn f') ∧ (invoke d.target d.args).run M.P w1' = .ok (.enter f' args) w2 ∧
      (M.fence.depth.isSome = true → 1 ≤ 0) ∧ CallsIn M.fence (0 - 1) M.P f' args w2 (rangePost M.fence 0 M.P l (liftQ M Q) a') := by
  obtain ⟨vs, hv, hd⟩ := hev
  refine ⟨{ target := .fn (.func gf) ⟨vs⟩, args := #[.func (.yield l) #[] #[]] }, w1, g, #[.func (.yield l) #[] #[]] ++ ⟨vs⟩, w1, ?_, fun f' _ => M.all f', ?_, (fun h => by cases h), ?_⟩
  · simp only [resolve, hv]
    simp [go_sem]
  · simp [invoke, go_sem, hcall]
  · have hargs : (#[.func (.yield l) #[] #[]] ++ (⟨vs⟩ : Array Value)) = ⟨Value.func (.yield l) #[] #[] :: vs⟩ := by apply Array.ext'; simp
    rw [hargs]
    have hd1 : DenL η1 (.yf (.loc j) :: cap) (Value.func (.yield l) #[] #[] :: vs) := by
      simp only [DenL, Den]
      exact ⟨_, _, rfl, ⟨_, hj, rfl⟩, hd⟩
    refine callsIn_wide.2 (calls_of_run hT hf hb N hN hND (by simpa using hlen) (by simpa using hres) H1 hd1 h fun v r w' O' nx' η' hp H' hd' hk => ?_)
    unfold rangeK at hk
    split at hk
    case h_2 => exact hk.out.elim
    rename_i hh hj'
    split at hk
    case h_2 => exact hk.out.elim
    rename_i st li fr0
    have hje : η'[j]? = some (some ⟨l, 0, 0⟩) := Env.get_mono (b := .loc j) hp hj
    obtain ⟨r1, hr1, hs1, hp1, _⟩ := H'.record (st' := .ready) hj' hje
    obtain ⟨s1, p1, c1, c2, c3, c4, c5, c6⟩ := r1
    simp only at hr1 hs1 hp1
    subst hs1 hp1
    have hdrop : HeapOK M η' (w'.putObj l (.loop { state := .exhausted, pending := st.jump, fn := c1, tmps := c2, params := c3, assign := c4, body := c5, defers := c6 })) (delK j O') nx' := H'.drop hj' hje (fun k hk => World.putObj_heap_other hk) World.putObj_size rfl rfl rfl (Nat.le_refl _)
    split at hk
    · rw [delKK_iff] at hk
      obtain ⟨fr', h1, h2⟩ := hfrK hk
      exact ⟨_, _, run_endLoop hr1 (by simp [LpS.state]), ⟨η', fr', _, nx', h2 η' _ _ _ hp hdrop, h1⟩⟩
    · exact hk.out.elim
    · split at hk
      · rw [delKK_iff] at hk
        obtain ⟨fr', h1, h2⟩ := hfrK hk
        exact ⟨_, _, run_endLoop hr1 (by simp [LpS.state]), wpIn_ret ⟨η', fr', _, nx', h2 η' _ _ _ hp hdrop, h1⟩⟩
      · rw [delKK_iff] at hk
        obtain ⟨fr', h1, h2⟩ := hfrK hk
        exact ⟨_, _, run_endLoop hr1 (by simp [LpS.state]), wpIn_exit ⟨η', fr', _, nx', h2 η' _ _ _ hp hdrop, h1⟩⟩
theorem addDS_ok {fr : Fr} {d : Nat} {K : Fr → Prop} (h : addDS fr d K) : ∃ l, K ((DS, .dfs (.ptr (.loc d) 0 0 0 :: l)) :: fr) ∧ ∀ {η : Env} {ds : List Deferred}, DfOK η ds (lkp DS fr) → DfL η l ds := by
  unfold addDS at h
  split at h
  · rename_i v hv
    split at h
    · rename_i l
      exact ⟨l, h, fun hd => by rw [hv] at hd; exact hd⟩
    · rename_i hn
      refine ⟨[], h, fun hd => ?_⟩
      rw [hv] at hd
      have : isDfs (some v) = false := by cases v <;> first | rfl | exact (hn _ rfl).elim
      rw [DfOK.no this] at hd
      subst hd; rfl
  · rename_i hv
    refine ⟨[], h, fun hd => ?_⟩
    rw [hv] at hd
    have hd : _ = [] := hd
    subst hd; rfl
/-- A range over a function that stands in no round: it and its rounds are walked in one. -/
theorem RANGEF.of (hT : TabOK M.P M.C.T) {f : Operand} {ps : Array Tmp} {asg body : Code} {fr : Fr} {Q : Post} {gf g : FuncId} {cap : List SV} {fn : Func} {c : Code} (hcall : ∀ args w, (callFunc gf args).run M.P w = .ok (.enter g args) w) (hf : M.P.funcs[g]? = some fn) (hb : fn.body = some c) (N : Nat) (hN : fn.ntmps = N)
    (li : LpI) (hli : li = ⟨M.C.N, ps.toList, asg, body⟩) (hv : lookF fr f = some (.fn (.func gf) [] cap)) (hlen : Nat.ble (cap.length + 1) N = true) (hres : fn.results = #[]) (hro : M.C.ro = none)
    (h : noDS fr fun fr0 => ∀ η1 : Env, η1.length = nx + 2 → run (M.at N none η1) c (argFr 0 (.yf (.loc (nx + 1)) :: cap)) ((nx + 1, .lp .ready li fr0) :: (nx, .dfr) :: O) (nx + 2) (endI (M.at N none η1) [] (rangeK (nx + 1) (addDS fr nx) Q))) (hND : Nat.ble N DS = true := by rfl) : RANGEF M f ps asg body fr O nx Q := by
  obtain ⟨fr0, h, _, hfr0⟩ := noDS_ok h
  refine ⟨fun η a w hm => wpIn_rangeFunc fun fnid _ => ?_⟩
  have hround : M.fence.round = none := by simp [Mx.fence, hro]
  rw [hround]
  obtain ⟨rec, hrec⟩ : ∃ rec : Loop, rec = { state := .ready, pending := none, fn := fnid, tmps := a.tmps, params := ps, assign := asg, body, defers := w.heap.size } := ⟨_, rfl⟩
  have hl := hm.heap.len
  obtain ⟨η1, hη1⟩ : ∃ η1 : Env, η1 = η ++ [some ⟨w.heap.size, 0, 0⟩] := ⟨_, rfl⟩
  have H1 : HeapOK M η1 (w.alloc (.deferred (some []))) ((nx, .dfr) :: O) (nx + 1) := by
    rw [hη1]
    refine hm.heap.alloc (w' := w.alloc (.deferred (some []))) (o := .deferred (some [])) (h := .dfr) rfl rfl rfl rfl 0 0 ?_
    simp only [HpSat]
    exact ⟨⟨w.heap.size, 0, 0⟩, by simp [Env.get, ← hl], rfl, World.alloc_heap_new w _⟩
  have hl1 := H1.len
  obtain ⟨η2, hη2⟩ : ∃ η2 : Env, η2 = η1 ++ [some ⟨w.heap.size + 1, 0, 0⟩] := ⟨_, rfl⟩
  have hsz : (w.alloc (.deferred (some []))).heap.size = w.heap.size + 1 := World.size_alloc _ _
  have hpre : η <+: η2 := by rw [hη2, hη1, List.append_assoc]; exact List.prefix_append _ _
  have hj2 : η2[nx + 1]? = some (some ⟨w.heap.size + 1, 0, 0⟩) := by rw [hη2, ← hl1]; simp
  have hd2 : η2[nx]? = some (some ⟨w.heap.size, 0, 0⟩) := by
    rw [hη2, List.getElem?_append_left (by omega), hη1, ← hl]; simp
  have H2 : HeapOK M η2 ((w.alloc (.deferred (some []))).alloc (.loop rec)) ((nx + 1, .lp .ready li fr0) :: (nx, .dfr) :: O) (nx + 2) := by
    have := H1.alloc (w' := (w.alloc (.deferred (some []))).alloc (.loop rec)) (o := .loop rec) (h := .lp .ready li fr0) rfl rfl rfl rfl 0 0 (by
      rw [hsz, ← hη2]
      simp only [HpSat]
      refine ⟨_, rec, hj2, rfl, by rw [← hsz]; exact World.alloc_heap_new _ _, ?_⟩
      subst hrec hli
      exact ⟨rfl, rfl, rfl, rfl, rfl, hm.size, fun t sv ht => (hm.frame t sv (hfr0 t sv ht)).mono hpre⟩)
    rw [hsz, ← hη2] at this
    exact this
  have hev : ∃ vs, a.eval f = .func (.func gf) #[] ⟨vs⟩ ∧ DenL η2 cap vs := by
    have := lookF_den hm.frame hv
    simp only [Den, DenL] at this
    obtain ⟨us, vs, h1, rfl, h3⟩ := this
    exact ⟨vs, h1, h3.mono hpre⟩
  obtain ⟨d, w1', f', args, w2, q1, q2, q3, q4, q5⟩ := range_core (a' := { a with defers := [{ target := .collected w.heap.size, args := #[] }] ++ a.defers }) hT hcall hf hb N hN (Nat.le_of_ble_eq_true hND) (Nat.le_of_ble_eq_true hlen) hres hev H2 hj2 (frK := addDS fr nx) (fun {K} hk => by
    obtain ⟨l, h1, h2⟩ := addDS_ok hk
    refine ⟨_, h1, fun η' w' O' nx' hp H' => ⟨H', hm.size, hm.nds, ?_, ro_mono (hpre.trans hp) hm.ro, fun t sv ht => ?_⟩⟩
    · rw [lkp_cons, if_pos rfl]
      exact ⟨⟨w.heap.size, 0, 0⟩, a.defers, Env.get_mono (b := .loc nx) hp hd2, rfl, h2 (hm.defers.mono (hpre.trans hp))⟩
    · rw [lkp_cons] at ht
      split at ht
      · injection ht with ht; subst ht; simp only [Den]
      · exact (hm.frame t sv ht).mono (hpre.trans hp)) (h η2 H2.len)
  refine ⟨w.heap.size + 1, [{ target := .collected w.heap.size, args := #[] }], _, d, w1', f', args, w2, run_enterLoop_outer _ _ _ _ _, ?_, q2, q3, q4, q5⟩
  rw [hrec] at q1
  exact q1
end
theorem FIN.weak {M : Mx} {O O1 : Hps} {nx n1 : Nat} {r r1 : SV} {Q : SV → Hps → Nat → Prop} (h : ∀ η w v, HeapOK M η w O nx → Den η r v → ∃ η', η <+: η' ∧ HeapOK M η' w O1 n1 ∧ Den η' r1 v) (hf : FIN M O1 n1 r1 Q) : FIN M O nx r Q :=
  ⟨fun η w v H hd => let ⟨η1, h1, h2, h3⟩ := h η w v H hd; hf.out η1 w v h2 h3⟩
theorem FIN.nil {M : Mx} {O : Hps} {nx : Nat} {Q : SV → Hps → Nat → Prop} (es : Nat) (hf : FIN M ((nx, .rows es []) :: O) (nx + 1) (.sl (.loc nx) 0 es 0 none) Q) : FIN M O nx (.val (.slice none 0 0)) Q := by
  refine FIN.weak (fun η w v H hd => ?_) hf
  have hnew : (η ++ [none])[nx]? = some none := by rw [List.getElem?_append_right (by rw [H.len]; omega), H.len]; simp
  refine ⟨η ++ [none], List.prefix_append _ _, H.push none (fun _ _ => rfl) (Nat.le_refl _) rfl rfl rfl (Nat.le_refl _) (.inl ⟨hnew, rfl⟩) (fun k f => (feet.none (b := .loc nx) hnew f).elim) (fun k f => (feet.none (b := .loc nx) hnew f).elim), ?_⟩
  simp only [Den] at hd ⊢
  exact .inl ⟨hnew, hd.1, trivial⟩
theorem FIN.nilCell {M : Mx} {O : Hps} {nx : Nat} {r : SV} {Q : SV → Hps → Nat → Prop} (i j es : Nat) {row row' : List SV} (hi : lkp i O = some (.box row)) (hr : nilAt nx es j row = some row') (hf : FIN M ((nx, .rows es []) :: setK i (.box row') O) (nx + 1) r Q) : FIN M O nx r Q :=
  FIN.weak (fun η w v H hd => let ⟨η', h1, h2⟩ := H.nilCell hi hr; ⟨η', h1, h2, Den.mono h1 hd⟩) hf
theorem det_pos {b : Blk} {r es len : Nat} {lim : Option Nat} (h : 0 < len) : Det (.sl b r es len lim) := by
  intro η u u' h1 h2
  simp only [Den] at h1 h2
  rcases h1 with ⟨_, _, h0⟩ | ⟨e, o, g1, rfl, g3, g4, g5⟩
  · omega
  rcases h2 with ⟨_, _, h0⟩ | ⟨e', o', k1, rfl, k3, k4, k5⟩
  · omega
  rw [g1] at k1
  injection k1 with k1
  injection k1 with k1
  subst k1
  rw [g5 (.inl (by omega)), k5 (.inl (by omega))]
end Go.Sx
/- Loops that leave most of the heap alone. Conditions: none. -/
set_option linter.unusedVariables false
set_option linter.unusedSimpArgs false
namespace Go.Sx
open Go
/-- What stays of a heap, by names. -/
def keepHK : List Nat → Hps → (Hps → Prop) → Prop
  | [], _, K => K []
  | i :: is, O, K => match lkp i O with
    | some h => keepHK is O fun r => K ((i, h) :: r)
    | none => STOP "kept"
def appHK : Hps → Hps → (Hps → Prop) → Prop
  | [], r, K => K r
  | (i, h) :: l, r, K => appHK l r fun r => K ((i, h) :: r)
theorem keepHK_iff : ∀ {ts : List Nat} {O : Hps} {K : Hps → Prop}, keepHK ts O K → ∃ r, K r
  | [], O, K, h => ⟨_, h⟩
  | t :: ts, O, K, h => by
    simp only [keepHK] at h
    split at h
    · obtain ⟨r, hr⟩ := keepHK_iff h; exact ⟨_, hr⟩
    · exact h.out.elim
theorem appHK_iff : ∀ {l r : Hps} {K : Hps → Prop}, appHK l r K ↔ K (l ++ r)
  | [], r, K => Iff.rfl
  | (t, v) :: l, r, K => by simp only [appHK, List.cons_append, appHK_iff]
theorem belowH_rows {m es : Nat} {rs : List (List SV)} (h : plainLL rs = true) : belowH m (.rows es rs) = true := by simp only [belowH, plainLL_below _ h]
theorem belowH_renrows {m es : Nat} {σ : Nat → Nat} {rs : List (List SV)} (h : plainLL rs = true) : belowH m (renH σ (.rows es rs)) = true := by rw [renH_plain _ (h := .rows es rs) h]; exact belowH_rows h
section
variable {M : Mx} {fr : Fr} {O : Hps} {nx : Nat}
/-- A loop, of whose heap the entries ko stay as they are. -/
theorem LOOP.gok {body : Code} {Q : Post} (hT : TabOK M.P M.C.T) (ks ko : List Nat) {X : Type} (P : X → Prop) (chg : X → Fr) (Ox : X → Hps) (n0 : Nat) (μ : X → Nat) (x0 : X) (hP : P x0)
    (h : keepK ks fr fun fr0 => keepHK ko O fun O0 => (appK (chg x0) fr0 fun fr' => appHK (Ox x0) O0 fun O' => GOES M fr O nx fr' O' n0) ∧
      ∀ x, P x → appK (chg x) fr0 fun fr1 => appHK (Ox x) O0 fun O1 => run M body fr1 O1 n0 fun e fr O nx => match e with
        | .normal => ∃ x', P x' ∧ μ x' < μ x ∧ appK (chg x') fr0 fun fr' => appHK (Ox x') O0 fun O' => GOES M fr O nx fr' O' n0
        | e => Q e fr O nx) : LOOP M body fr O nx Q := by
  obtain ⟨fr0, h⟩ := keepK_iff h
  obtain ⟨O0, h1, h2⟩ := keepHK_iff h
  simp only [appK_iff, appHK_iff] at h1 h2
  exact LOOP.inv hT P (fun x => (chg x ++ fr0, Ox x ++ O0, n0)) μ x0 hP h1 h2
/-- A nil slice in a box's cell, ahead of a loop. -/
theorem LOOP.nilCell {body : Code} {Q : Post} (i j es : Nat) {row row' : List SV} (hi : lkp i O = some (.box row)) (hr : nilAt nx es j row = some row') (k : LOOP M body fr ((nx, .rows es []) :: setK i (.box row') O) (nx + 1) Q) : LOOP M body fr O nx Q :=
  LOOP.goes ⟨fun η a w hm => let ⟨η', hp, H⟩ := hm.heap.nilCell hi hr; ⟨η', H, hm.size, hm.nds, hm.defers.mono hp, ro_mono hp hm.ro, fun t v ht => (hm.frame t v ht).mono hp⟩⟩ k
end
end Go.Sx
/- Steps that change no memory, taken where a walk stands still. Conditions: none. -/
set_option linter.unusedVariables false
set_option linter.unusedSimpArgs false
namespace Go.Sx
open Go
/-- Whatever memory reads as O reads as O1 too, with more names perhaps. -/
structure GHO (M : Mx) (O : Hps) (nx : Nat) (O1 : Hps) (n1 : Nat) : Prop where
  out : ∀ η w, HeapOK M η w O nx → ∃ η', η <+: η' ∧ HeapOK M η' w O1 n1
section
variable {M : Mx} {fr : Fr} {O O1 O2 : Hps} {nx n1 n2 : Nat}
theorem GHO.refl : GHO M O nx O nx := ⟨fun η w H => ⟨η, List.prefix_rfl, H⟩⟩
theorem GHO.trans (h : GHO M O nx O1 n1) (k : GHO M O1 n1 O2 n2) : GHO M O nx O2 n2 :=
  ⟨fun η w H => let ⟨η1, p1, H1⟩ := h.out η w H; let ⟨η2, p2, H2⟩ := k.out η1 w H1; ⟨η2, p1.trans p2, H2⟩⟩
theorem GHO.goes (h : GHO M O nx O1 n1) : GOES M fr O nx fr O1 n1 :=
  ⟨fun η a w hm => let ⟨η', hp, H⟩ := h.out η w hm.heap; ⟨η', H, hm.size, hm.nds, hm.defers.mono hp, ro_mono hp hm.ro, fun t v ht => (hm.frame t v ht).mono hp⟩⟩
theorem GHO.loop {body : Code} {Q : Post} (h : GHO M O nx O1 n1) (k : LOOP M body fr O1 n1 Q) : LOOP M body fr O nx Q := LOOP.goes h.goes k
theorem GHO.call {f : FuncId} {args : List SV} {K : SV → Hps → Nat → Prop} (h : GHO M O nx O1 n1) (k : CALL M f args O1 n1 K) : CALL M f args O nx K := CALL.weak h.out k
theorem GHO.drawn {id : Nat} {ops : Array Oper} {Q : Post} (h : GHO M O nx O1 n1) (k : DRAWN M id ops fr O1 n1 Q) : DRAWN M id ops fr O nx Q :=
  ⟨fun η a w hm => let ⟨η1, h1⟩ := (h.goes (fr := fr)).out η a w hm; k.out η1 a w h1⟩
theorem GHO.fin {r : SV} {Q : SV → Hps → Nat → Prop} (h : GHO M O nx O1 n1) (k : FIN M O1 n1 r Q) : FIN M O nx r Q :=
  ⟨fun η w v H hd => let ⟨η1, p1, H1⟩ := h.out η w H; k.out η1 w v H1 (hd.mono p1)⟩
/-- A new map may hold slices that own their arrays. -/
theorem GHO.deep0 (i : Nat) (hi : lkp i O = some (.mp [])) : GHO M O nx (setK i (.deep true 2 []) O) nx := by
  refine ⟨fun η w H => ⟨η, List.prefix_rfl, ?_⟩⟩
  have hsat := (H.own.1 i _ hi).1
  simp only [HpSat] at hsat
  obtain ⟨e, es, h1, h2, h3, h4, h5⟩ := hsat
  have hk : ∀ a b x, kidAt [] a b = some x → False := fun a b x h => by simp [kidAt] at h
  refine H.updF hi h1 (fun _ _ => rfl) rfl rfl rfl rfl ?_ (Nat.le_refl _) fun m f => ?_
  · simp only [HpSat]
    refine ⟨⟨⟨e, es, h1, h2, h3, h4, h5⟩, trivial⟩, fun e' h6 => ?_⟩
    rw [h1] at h6; injection h6 with h6; injection h6 with h6; subst h6
    exact ⟨h2, fun o ho => ⟨fun a b es' rows h => (hk a b _ h).elim, fun a b a' b' x x' v v' k h => (hk a b _ h).elim⟩⟩
  · rcases f.of h1 with rfl | f
    · exact feet.own h1
    · simp only [kid] at f
      obtain ⟨o, a, b, x, v, _, h, _⟩ := f
      exact (hk a b _ h).elim
/-- A nil slice in a box's cell gets a name. -/
theorem GHO.nilCell (i j es : Nat) {row row' : List SV} (hi : lkp i O = some (.box row)) (hr : nilAt nx es j row = some row') : GHO M O nx ((nx, .rows es []) :: setK i (.box row') O) (nx + 1) := ⟨fun η w H => H.nilCell hi hr⟩
/-- A named array is put where its slice stands. -/
theorem GHO.putk (i r c k : Nat) {mp : Bool} {es es' n : Nat} {rs : List (List DC)} {row : List DC} {rows : List (List SV)} (hi : lkp i O = some (.deep mp es rs)) (hr : rs[r]? = some row) (hc : row[c]? = some (.v (.sl (.loc k) 0 es' n none)))
    (hk : lkp k O = some (.rows es' rows)) (hn : n ≤ rows.length) (hki : k ≠ i) : GHO M O nx (delK k (setK i (.deep mp es (setC rs r c (.kid es' (rows.take n)))) O)) nx := ⟨fun η w H => ⟨η, List.prefix_rfl, H.putk hi hr hc hk hn hki⟩⟩
theorem belowH_deep {m : Nat} {mp : Bool} {es : Nat} {rs : List (List DC)} (h : plainCLL rs = true) : belowH m (.deep mp es rs) = true := plainH_below m (h := .deep mp es rs) h
theorem belowH_mp {m : Nat} {rs : List (List SV)} (h : plainLL rs = true) : belowH m (.mp rs) = true := plainH_below m (h := .mp rs) h
end
end Go.Sx
/- infer's world: a quad more; walked. Conditions: as many quads as memory bears. -/
set_option linter.unusedVariables false
set_option linter.unusedSimpArgs false
set_option maxRecDepth 20000
set_option maxHeartbeats 8000000
namespace Go.Proofs.YtjbbkimodgffiaaGreatDoor
open Go.Sx Go.Our
def plWorld10 : Plan := (planOf [(0, 1), (1, 1), (2, 1), (3, 2), (4, 2), (5, 3), (6, 1), (7, 1), (8, 1), (9, 1), (10, 1)])
def plWorld11 : Plan := (planOf [(0, 1), (1, 1), (2, 1), (5, 1), (6, 1), (7, 1), (3, 2), (4, 2), (8, 2), (9, 1), (10, 0)])
def plWorld12 : Plan := (planOf [(0, 1), (1, 1), (2, 1), (3, 1), (4, 2), (5, 2), (6, 3), (7, 0), (8, 1), (9, 1), (10, 0)])
def plWorld13 : Plan := (planOf [(0, 1), (1, 1), (2, 1), (3, 2), (4, 2), (5, 2), (6, 3), (7, 0), (8, 1), (10, 1), (9, 0), (11, 0)])
abbrev wdBox (a b : Nat) (w : Wd) : Hp := .box [.sl (.loc a) 0 16 w.all.length none, .sl (.loc b) 0 49 w.why.length none, .mp (.loc 3), .mp (.loc 4)]
abbrev wdO (a b : Nat) (w : Wd) : Hps := [(0, wdBox a b w), (a, .rows 16 (w.all.map qdRow)), (b, .rows 49 (w.why.map stRow)), (3, .mp (placeR w.place)), (4, .deep true 2 (atR w.at'))]
theorem put_does (w : Wd) (s : St) (hok : WdOK w) (hl : w.all.length ≤ 4194304) : Does Tryz.prog tab 38 5 [.ptr (.loc 0) 0 0 0, .agg (stRow s)] (wdO 1 2 w) []
    (fun r O nx => r = .tup [] ∧ O = wdO 5 6 (putM w s) ∧ nx = 7) := by
  have hw := hok.len
  have hat : ∀ i, i < 3 → (atL (spotK i s.q) (atN s.q w.at' i)).length ≤ 16777216 := fun i hi => by
    have := atN_len s.q w.at' _ hok.at3 i (spotK i s.q); omega
  refine Does.enter tabOK (g := 38) (fn := Tryz.f38) Tryz.call38 Tryz.func38 rfl 86 rfl rfl [] rfl ?_
  intro w0 F η0 h0
  conv => whnf
  repeat' ((first | refine DRAWN.of (id := 2) tabOK mixed plWorld10 (by kernel_rfl) ?_ | refine DRAWN.of (id := 4) tabOK mixed plWorld11 (by kernel_rfl) ?_ | refine DRAWN.of (id := 5) tabOK mixed plWorld12 (by kernel_rfl) ?_ | refine DRAWN.of (id := 6) tabOK mixed plWorld12 (by kernel_rfl) ?_ | refine DRAWN.of (id := 10) tabOK mixed plWorld13 (by kernel_rfl) ?_ | with_reducible refine ADD.mk (fun _ _ => ?_) | with_reducible refine NEED.mk (Det.of rfl) ?_ | refine NEED.mk (det_pos (by omega)) ?_ | with_reducible refine FORK.mk ?_ ?_ | (refine NEED.mk ⟨KQ.ok _, rowsOK_A KQ _ _⟩ ?_; conv => whnf) | refine AU ?_ | ((with_reducible refine IF.mk (fun h => ?_) (fun h => ?_)) <;> (try simp (disch := omega) only [hsB, hsC, lnB, wrap64, wrap32, simprocAttr] at h) <;> try (exfalso; omega))) <;> conv => whnf)
  refine FIND.mk (fun i v hf => ?_) (fun hf => ?_)
  · obtain ⟨⟨j, x⟩, hj, he⟩ := Option.map_eq_some_iff.1 ((findM_A KQ intV s.q w.place 0).symm.trans hf)
    cases he
    clear hf
    have hm : putM w s = w := put_yes (by rw [ixA_some hj]; rfl)
    rw [hm]
    conv => whnf
    repeat' ((first | refine DRAWN.of (id := 2) tabOK mixed plWorld10 (by kernel_rfl) ?_ | refine DRAWN.of (id := 4) tabOK mixed plWorld11 (by kernel_rfl) ?_ | refine DRAWN.of (id := 5) tabOK mixed plWorld12 (by kernel_rfl) ?_ | refine DRAWN.of (id := 6) tabOK mixed plWorld12 (by kernel_rfl) ?_ | refine DRAWN.of (id := 10) tabOK mixed plWorld13 (by kernel_rfl) ?_ | with_reducible refine ADD.mk (fun _ _ => ?_) | with_reducible refine NEED.mk (Det.of rfl) ?_ | refine NEED.mk (det_pos (by omega)) ?_ | with_reducible refine FORK.mk ?_ ?_ | refine AU ?_ | ((with_reducible refine IF.mk (fun h => ?_) (fun h => ?_)) <;> (try simp (disch := omega) only [hsB, hsC, lnB, wrap64, wrap32, simprocAttr] at h) <;> try (exfalso; omega))) <;> conv => whnf)
    refine FIN.aA h0 [1, 2] (.tup []) (wdO 5 6 w) ?_
    exact ⟨rfl, rfl, rfl⟩
  · have hj := Option.map_eq_none_iff.1 ((findM_A KQ intV s.q w.place 0).symm.trans hf)
    clear hf
    have hm := put_no (ixA_none hj)
    rw [hm]
    have e3 : Hp.mp (setM KQ.ks (KQ.enc s.q) (intV (w.all.length : Int)) (placeR w.place)) = Hp.mp (placeR (setA s.q (w.all.length : Int) w.place)) := congrArg Hp.mp (setM_A KQ intV s.q _ w.place)
    conv => whnf
    repeat' ((first | refine DRAWN.of (id := 2) tabOK mixed plWorld10 (by kernel_rfl) ?_ | refine DRAWN.of (id := 4) tabOK mixed plWorld11 (by kernel_rfl) ?_ | refine DRAWN.of (id := 5) tabOK mixed plWorld12 (by kernel_rfl) ?_ | refine DRAWN.of (id := 6) tabOK mixed plWorld12 (by kernel_rfl) ?_ | refine DRAWN.of (id := 10) tabOK mixed plWorld13 (by kernel_rfl) ?_ | with_reducible refine ADD.mk (fun _ _ => ?_) | with_reducible refine NEED.mk (Det.of rfl) ?_ | refine NEED.mk (det_pos (by omega)) ?_ | with_reducible refine FORK.mk ?_ ?_ | (refine NEED.mk ⟨KQ.ok _, rowsOK_A KQ _ _⟩ ?_; conv => whnf) | (refine NEED.mk (needApp 1024 rfl rfl (by simp) (by simp) (by omega)) ?_; conv => whnf) | refine AU ?_ | ((with_reducible refine IF.mk (fun h => ?_) (fun h => ?_)) <;> (try simp (disch := omega) only [hsB, hsC, lnB, wrap64, wrap32, simprocAttr] at h) <;> try (exfalso; omega))) <;> conv => whnf)
    refine LOOP.gok tabOK [0, 4, 70] [0, 6] (X := Nat) (fun i => i ≤ 3) (fun i => [(71, .int .i64 (i : Int))]) (fun i => [(8, .rows 16 ((w.all ++ [s.q]).map qdRow)), (10, .rows 49 ((w.why ++ [s]).map stRow)), (3, .mp (placeR (setA s.q (w.all.length : Int) w.place))), (4, .deep true 2 (atR (atN s.q w.at' i)))]) 11 (fun i => 3 - i) 0 (by omega) ?_
    conv => whnf
    refine ⟨by (refine GOES.cutting h0 rfl rfl rfl (by (repeat' (first | (refine belowO_cons rfl ?_ ?_) | exact belowH_rows (plainQds _) | exact belowH_renrows (plainQds _) | exact belowH_rows (plainSts _) | exact belowH_renrows (plainSts _) | exact belowH_mp (plainPlace _) | exact belowH_deep (plainAt _) | rfl))) ?_ ?_ <;> (repeat' (first | exact e3 | (with_reducible rfl) | exact trivial | (exact sl_eq rfl (by first | omega | (simp (disch := omega) only [lnB, wrap64, wrap32] <;> omega) | (simp; done) | (simp <;> omega))) | (exact congrArg (SV.int _) (by first | omega | (simp (disch := omega) only [lnB, wrap64, wrap32] <;> omega) | (simp; done) | (simp <;> omega))) | (exact box_int (by first | omega | (simp (disch := omega) only [lnB, wrap64, wrap32] <;> omega) | (simp; done) | (simp <;> omega))) | (exact box_sl (by first | omega | (simp (disch := omega) only [lnB, wrap64, wrap32] <;> omega) | (simp; done) | (simp <;> omega))) | (exact renH_plain _ (h := .rows _ _) (plainQds _)) | (exact renH_plain _ (h := .rows _ _) (plainSts _)) | (exact congrArg (Hp.rows _) (by (simp [List.take_of_length_le, qdRow, Qd.row, stRow, St.row]))) | ((conv => whnf); refine ⟨?_, ?_⟩) | rfl))), ?_⟩
    intro i hi
    conv => whnf
    by_cases hil : i < 3
    · repeat' ((first | refine DRAWN.of (id := 2) tabOK mixed plWorld10 (by kernel_rfl) ?_ | refine DRAWN.of (id := 4) tabOK mixed plWorld11 (by kernel_rfl) ?_ | refine DRAWN.of (id := 5) tabOK mixed plWorld12 (by kernel_rfl) ?_ | refine DRAWN.of (id := 6) tabOK mixed plWorld12 (by kernel_rfl) ?_ | refine DRAWN.of (id := 10) tabOK mixed plWorld13 (by kernel_rfl) ?_ | with_reducible refine ADD.mk (fun _ _ => ?_) | with_reducible refine NEED.mk (Det.of rfl) ?_ | refine NEED.mk (det_pos (by omega)) ?_ | with_reducible refine FORK.mk ?_ ?_ | (refine GET.at (row := (spotK i s.q).row) (by rcases (show i = 0 ∨ i = 1 ∨ i = 2 by omega) with rfl | rfl | rfl <;> rfl) ?_; conv => whnf) | (refine NEED.mk ⟨KQ.ok (spotK i s.q), rowsOK_DA KQ _ _ _⟩ ?_; conv => whnf) | refine AU ?_ | ((with_reducible refine IF.mk (fun h => ?_) (fun h => ?_)) <;> (try simp (disch := omega) only [hsB, hsC, lnB, wrap64, wrap32, simprocAttr] at h) <;> try (exfalso; omega))) <;> conv => whnf)
      refine FINDD.mk (fun a d hf => ?_) (fun hf => ?_)
      · obtain ⟨⟨j, l⟩, hj2, he⟩ := Option.map_eq_some_iff.1 ((findD_A KQ 16 qdsV (spotK i s.q) (atN s.q w.at' i) 0).symm.trans hf)
        cases he
        clear hf
        have hll : l.length ≤ 16777216 := by have := hat i hil; unfold atL at this; rwa [ixA_some hj2] at this
        conv => whnf
        repeat' ((first | refine DRAWN.of (id := 2) tabOK mixed plWorld10 (by kernel_rfl) ?_ | refine DRAWN.of (id := 4) tabOK mixed plWorld11 (by kernel_rfl) ?_ | refine DRAWN.of (id := 5) tabOK mixed plWorld12 (by kernel_rfl) ?_ | refine DRAWN.of (id := 6) tabOK mixed plWorld12 (by kernel_rfl) ?_ | refine DRAWN.of (id := 10) tabOK mixed plWorld13 (by kernel_rfl) ?_ | with_reducible refine ADD.mk (fun _ _ => ?_) | with_reducible refine NEED.mk (Det.of rfl) ?_ | refine NEED.mk (det_pos (by omega)) ?_ | with_reducible refine FORK.mk ?_ ?_ | (refine NEED.mk (needApp 256 rfl rfl (by simp) (by simp) (by simp; omega)) ?_; conv => whnf) | (refine NEED.mk ⟨by omega, by simp [rowsDA]; exact (List.getElem?_eq_some_iff.1 (ixA_row hj2)).1⟩ ?_; conv => whnf) | refine AU ?_ | ((with_reducible refine IF.mk (fun h => ?_) (fun h => ?_)) <;> (try simp (disch := omega) only [hsB, hsC, lnB, wrap64, wrap32, simprocAttr] at h) <;> try (exfalso; omega))) <;> conv => whnf)
        refine ⟨i + 1, by omega, by omega, ?_⟩
        conv => whnf
        (refine GOES.cutting h0 rfl rfl rfl (by (repeat' (first | (refine belowO_cons rfl ?_ ?_) | exact belowH_rows (plainQds _) | exact belowH_renrows (plainQds _) | exact belowH_rows (plainSts _) | exact belowH_renrows (plainSts _) | exact belowH_mp (plainPlace _) | exact belowH_deep (plainAt _) | rfl))) ?_ ?_ <;> (repeat' (first | exact congrArg (Hp.deep true 2) (entry_at hj2 (Nat.zero_add _) (by omega) (by simp [List.take_of_length_le, qdRow, Qd.row])) | (with_reducible rfl) | exact trivial | (exact sl_eq rfl (by first | omega | (simp (disch := omega) only [lnB, wrap64, wrap32] <;> omega) | (simp; done) | (simp <;> omega))) | (exact congrArg (SV.int _) (by first | omega | (simp (disch := omega) only [lnB, wrap64, wrap32] <;> omega) | (simp; done) | (simp <;> omega))) | (exact box_int (by first | omega | (simp (disch := omega) only [lnB, wrap64, wrap32] <;> omega) | (simp; done) | (simp <;> omega))) | (exact box_sl (by first | omega | (simp (disch := omega) only [lnB, wrap64, wrap32] <;> omega) | (simp; done) | (simp <;> omega))) | (exact renH_plain _ (h := .rows _ _) (plainQds _)) | (exact renH_plain _ (h := .rows _ _) (plainSts _)) | (exact congrArg (Hp.rows _) (by rfl)) | ((conv => whnf); refine ⟨?_, ?_⟩) | rfl)))
      · have hj2 := Option.map_eq_none_iff.1 ((findD_A KQ 16 qdsV (spotK i s.q) (atN s.q w.at' i) 0).symm.trans hf)
        clear hf
        conv => whnf
        repeat' ((first | refine DRAWN.of (id := 2) tabOK mixed plWorld10 (by kernel_rfl) ?_ | refine DRAWN.of (id := 4) tabOK mixed plWorld11 (by kernel_rfl) ?_ | refine DRAWN.of (id := 5) tabOK mixed plWorld12 (by kernel_rfl) ?_ | refine DRAWN.of (id := 6) tabOK mixed plWorld12 (by kernel_rfl) ?_ | refine DRAWN.of (id := 10) tabOK mixed plWorld13 (by kernel_rfl) ?_ | with_reducible refine ADD.mk (fun _ _ => ?_) | with_reducible refine NEED.mk (Det.of rfl) ?_ | refine NEED.mk (det_pos (by omega)) ?_ | with_reducible refine FORK.mk ?_ ?_ | (refine NEED.mk ⟨rfl, by omega, Nat.le_of_ble_eq_true rfl⟩ ?_; conv => whnf) | refine AU ?_ | ((with_reducible refine IF.mk (fun h => ?_) (fun h => ?_)) <;> (try simp (disch := omega) only [hsB, hsC, lnB, wrap64, wrap32, simprocAttr] at h) <;> try (exfalso; omega))) <;> conv => whnf)
        refine ⟨i + 1, by omega, by omega, ?_⟩
        conv => whnf
        (refine GOES.cutting h0 rfl rfl rfl (by (repeat' (first | (refine belowO_cons rfl ?_ ?_) | exact belowH_rows (plainQds _) | exact belowH_renrows (plainQds _) | exact belowH_rows (plainSts _) | exact belowH_renrows (plainSts _) | exact belowH_mp (plainPlace _) | exact belowH_deep (plainAt _) | rfl))) ?_ ?_ <;> (repeat' (first | exact congrArg (Hp.deep true 2) (entry_at0 hj2 (by omega) (by simp [List.take_of_length_le, qdRow, Qd.row])) | (with_reducible rfl) | exact trivial | (exact sl_eq rfl (by first | omega | (simp (disch := omega) only [lnB, wrap64, wrap32] <;> omega) | (simp; done) | (simp <;> omega))) | (exact congrArg (SV.int _) (by first | omega | (simp (disch := omega) only [lnB, wrap64, wrap32] <;> omega) | (simp; done) | (simp <;> omega))) | (exact box_int (by first | omega | (simp (disch := omega) only [lnB, wrap64, wrap32] <;> omega) | (simp; done) | (simp <;> omega))) | (exact box_sl (by first | omega | (simp (disch := omega) only [lnB, wrap64, wrap32] <;> omega) | (simp; done) | (simp <;> omega))) | (exact renH_plain _ (h := .rows _ _) (plainQds _)) | (exact renH_plain _ (h := .rows _ _) (plainSts _)) | (exact congrArg (Hp.rows _) (by rfl)) | ((conv => whnf); refine ⟨?_, ?_⟩) | rfl)))
    · have hie : i = 3 := by omega
      subst hie
      repeat' ((first | refine AU ?_ | ((with_reducible refine IF.mk (fun h => ?_) (fun h => ?_)) <;> (try simp (disch := omega) only [hsB, hsC, lnB, wrap64, wrap32, simprocAttr] at h) <;> try (exfalso; omega))) <;> conv => whnf)
      refine FIN.aA h0 [8, 10] (.tup []) ([(0, .box [.sl (.loc 5) 0 16 (w.all.length + 1) none, .sl (.loc 6) 0 49 (w.why.length + 1) none, .mp (.loc 3), .mp (.loc 4)]), (5, .rows 16 ((w.all ++ [s.q]).map qdRow)), (6, .rows 49 ((w.why ++ [s]).map stRow)), (3, .mp (placeR (setA s.q (w.all.length : Int) w.place))), (4, .deep true 2 (atR (atN s.q w.at' 3)))]) ?_
      exact ⟨rfl, by simp [wdO, wdBox], rfl⟩
/-- The world, just made, and what stands in it. -/
theorem found_does (l z : List Qd) (lim : Option Nat) (hl : l.length ≤ 4194304) (hz : (l ++ z).length ≤ 1152921504606846976) : Does Tryz.prog tab 36 1 [.sl (.loc 0) 0 16 l.length lim] [] [(0, .rows 16 ((l ++ z).map qdRow))]
    (fun r O nx => r = .ptr (.loc 1) 0 0 0 ∧ O = [(1, .box [.sl (.loc 2) 0 16 (foundM l).all.length none, .sl (.loc 3) 0 49 (foundM l).why.length none, .mp (.loc 4), .mp (.loc 5)]), (2, .rows 16 ((foundM l).all.map qdRow)), (3, .rows 49 ((foundM l).why.map stRow)), (4, .mp (placeR (foundM l).place)), (5, .deep true 2 (atR (foundM l).at'))] ∧ nx = 6) := by
  have hW := fun i => found_ok (l.take i)
  have hL := fun i => found_len (l.take i)
  have hstep : ∀ i (h : i < l.length), foundM (l.take (i + 1)) = putM (foundM (l.take i)) (stepOf l[i]) := fun i h => by
    rw [List.take_succ_eq_append_getElem h]; unfold foundM; rw [List.foldl_append]; rfl
  refine Does.enter tabOK (g := 36) (fn := Tryz.f36) Tryz.call36 Tryz.func36 rfl 22 rfl rfl [.tmp 2] rfl ?_
  intro w0 F η0 h0
  conv => whnf
  repeat' ((first | refine AU ?_ | ((with_reducible refine IF.mk (fun h => ?_) (fun h => ?_)) <;> (try simp (disch := omega) only [hsB, hsC, lnB, wrap64, wrap32, simprocAttr] at h) <;> try (exfalso; omega))) <;> conv => whnf)
  refine GHO.loop (GHO.nilCell 3 0 16 rfl rfl) ?_
  refine GHO.loop (GHO.nilCell 3 1 49 rfl rfl) ?_
  refine GHO.loop (GHO.deep0 2 rfl) ?_
  refine LOOP.gok tabOK [3, 10, 11] [] (X := Nat) (fun i => i ≤ l.length) (fun i => [(12, .int .i64 (i : Int))]) (fun i => [(3, .box [.sl (.loc 4) 0 16 (foundM (l.take i)).all.length none, .sl (.loc 5) 0 49 (foundM (l.take i)).why.length none, .mp (.loc 1), .mp (.loc 2)]), (4, .rows 16 ((foundM (l.take i)).all.map qdRow)), (5, .rows 49 ((foundM (l.take i)).why.map stRow)), (1, .mp (placeR (foundM (l.take i)).place)), (2, .deep true 2 (atR (foundM (l.take i)).at'))]) 6 (fun i => l.length - i) 0 (by omega) ?_
  conv => whnf
  refine ⟨by (refine GOES.cutting h0 rfl rfl rfl (by (repeat' (first | (refine belowO_cons rfl ?_ ?_) | exact belowH_rows (plainQds _) | exact belowH_renrows (plainQds _) | exact belowH_rows (plainSts _) | exact belowH_renrows (plainSts _) | exact belowH_mp (plainPlace _) | exact belowH_deep (plainAt _) | rfl))) ?_ ?_ <;> (repeat' (first | (with_reducible rfl) | exact trivial | (exact sl_eq rfl (by first | omega | (simp (disch := omega) only [lnB, wrap64, wrap32] <;> omega) | (simp; done) | (simp <;> omega))) | (exact congrArg (SV.int _) (by first | omega | (simp (disch := omega) only [lnB, wrap64, wrap32] <;> omega) | (simp; done) | (simp <;> omega))) | (exact box_int (by first | omega | (simp (disch := omega) only [lnB, wrap64, wrap32] <;> omega) | (simp; done) | (simp <;> omega))) | (exact box_sl (by first | omega | (simp (disch := omega) only [lnB, wrap64, wrap32] <;> omega) | (simp; done) | (simp <;> omega))) | (exact renH_plain _ (h := .rows _ _) (plainQds _)) | (exact renH_plain _ (h := .rows _ _) (plainSts _)) | (exact congrArg (Hp.rows _) (by rfl)) | ((conv => whnf); refine ⟨?_, ?_⟩) | rfl))), ?_⟩
  intro i hi
  have hWi := hW i
  have hLi : (foundM (l.take i)).all.length ≤ 4194304 := by have := hL i; rw [List.length_take] at this; omega
  conv => whnf
  by_cases hil : i < l.length
  · have hs := hstep i hil
    have hput := put_does (foundM (l.take i)) (stepOf l[i]) hWi hLi
    rw [← hs] at hput
    clear hW hL hstep hs hWi
    have gi : ((l ++ z).map qdRow)[0 + (i : Int).toNat]? = some (qdRow l[i]) := by
      rw [show 0 + (i : Int).toNat = i by omega, List.getElem?_map, List.getElem?_append_left hil, List.getElem?_eq_getElem hil]; rfl
    repeat' ((first | (refine GET.at gi ?_; conv => whnf) | refine AU ?_ | ((with_reducible refine IF.mk (fun h => ?_) (fun h => ?_)) <;> (try simp (disch := omega) only [hsB, hsC, lnB, wrap64, wrap32, simprocAttr] at h) <;> try (exfalso; omega))) <;> conv => whnf)
    refine CALL.aA [3, 4, 5, 1, 2] (hput) ?_
    rintro r O nx ⟨rfl, rfl, rfl⟩
    conv => whnf
    repeat' ((first | refine AU ?_ | ((with_reducible refine IF.mk (fun h => ?_) (fun h => ?_)) <;> (try simp (disch := omega) only [hsB, hsC, lnB, wrap64, wrap32, simprocAttr] at h) <;> try (exfalso; omega))) <;> conv => whnf)
    refine ⟨i + 1, by omega, by omega, ?_⟩
    conv => whnf
    (refine GOES.keeping h0 [1, 2, 3, 7, 8] rfl rfl rfl (by (repeat' (first | (refine belowO_cons rfl ?_ ?_) | exact belowH_rows (plainQds _) | exact belowH_renrows (plainQds _) | exact belowH_rows (plainSts _) | exact belowH_renrows (plainSts _) | exact belowH_mp (plainPlace _) | exact belowH_deep (plainAt _) | rfl))) ?_ ?_ <;> (repeat' (first | exact (renH_plain _ (h := .mp _) (plainPlace _)).trans (renH_plain _ (h := .mp _) (plainPlace _)).symm | exact (renH_plain _ (h := .deep _ _ _) (plainAt _)).trans (renH_plain _ (h := .deep _ _ _) (plainAt _)).symm | (with_reducible rfl) | exact trivial | (exact sl_eq rfl (by first | omega | (simp (disch := omega) only [lnB, wrap64, wrap32] <;> omega) | (simp; done) | (simp <;> omega))) | (exact congrArg (SV.int _) (by first | omega | (simp (disch := omega) only [lnB, wrap64, wrap32] <;> omega) | (simp; done) | (simp <;> omega))) | (exact box_int (by first | omega | (simp (disch := omega) only [lnB, wrap64, wrap32] <;> omega) | (simp; done) | (simp <;> omega))) | (exact box_sl (by first | omega | (simp (disch := omega) only [lnB, wrap64, wrap32] <;> omega) | (simp; done) | (simp <;> omega))) | (exact (renH_plain _ (h := .rows _ _) (plainQds _)).symm) | (exact (renH_plain _ (h := .rows _ _) (plainQds _)).trans (renH_plain _ (h := .rows _ _) (plainQds _)).symm) | (exact rows_eq (plainQds _) (by rfl)) | (exact (renH_plain _ (h := .rows _ _) (plainSts _)).symm) | (exact (renH_plain _ (h := .rows _ _) (plainSts _)).trans (renH_plain _ (h := .rows _ _) (plainSts _)).symm) | (exact rows_eq (plainSts _) (by rfl)) | ((conv => whnf); refine ⟨?_, ?_⟩) | (simp only [ren, renB]; done) | rfl)))
  · have hie : i = l.length := by omega
    subst hie
    rw [List.take_length] at *
    repeat' ((first | refine AU ?_ | ((with_reducible refine IF.mk (fun h => ?_) (fun h => ?_)) <;> (try simp (disch := omega) only [hsB, hsC, lnB, wrap64, wrap32, simprocAttr] at h) <;> try (exfalso; omega))) <;> conv => whnf)
    refine FIN.aA h0 [3, 4, 5, 1, 2] (.ptr (.loc 1) 0 0 0) ([(1, .box [.sl (.loc 2) 0 16 (foundM l).all.length none, .sl (.loc 3) 0 49 (foundM l).why.length none, .mp (.loc 4), .mp (.loc 5)]), (2, .rows 16 ((foundM l).all.map qdRow)), (3, .rows 49 ((foundM l).why.map stRow)), (4, .mp (placeR (foundM l).place)), (5, .deep true 2 (atR (foundM l).at'))]) ?_
    exact ⟨rfl, rfl, rfl⟩
end Go.Proofs.YtjbbkimodgffiaaGreatDoor
/- utf: what stands at a place of a text, walked. Conditions: none. -/
set_option linter.unusedVariables false
set_option linter.unusedSimpArgs false
set_option maxRecDepth 20000
set_option maxHeartbeats 8000000
namespace Go.Proofs.YtjbbkimodgffiaaGreatDoor
open Go.Sx Go.Our
theorem lead_does (c : Int) (hc : 0 ≤ c ∧ c < 256) : Does Tryz.prog tab 199 0 [.int .u8 c] [] [] (Val (.tup [.int .i64 (leadM c).1, .int .i32 (leadM c).2])) := by
  refine Does.enter tabOK (g := 199) (fn := Tryz.f199) Tryz.call199 Tryz.func199 rfl 30 rfl rfl [.tmp 2, .tmp 3] rfl ?_
  intro w0 F η0 h0
  conv => whnf
  repeat' ((first | refine AU ?_ | ((with_reducible refine IF.mk (fun h => ?_) (fun h => ?_)) <;> (try simp (disch := omega) only [hsB, hsC, lnB, wrap64, wrap32, simprocAttr] at h) <;> try (exfalso; omega))) <;> conv => whnf)
  all_goals (refine FIN.value h0 rfl ?_; unfold leadM; (first | (simp (disch := omega) only [↓if_pos, ↓if_neg, ite_self, wrap64, wrap32, Int.reduceAdd, Int.reduceSub, Int.reduceMul, Int.reduceNeg, and31, and15, and7]; done) | (simp (disch := omega) only [↓if_pos, ↓if_neg, ite_self, wrap64, wrap32, Int.reduceAdd, Int.reduceSub, Int.reduceMul, Int.reduceNeg, and31, and15, and7]; with_reducible rfl)))
theorem scalar_does (r : Int) : Does Tryz.prog tab 201 0 [.int .i32 r] [] [] (Val (.bool (scalarM r))) := by
  refine Does.enter tabOK (g := 201) (fn := Tryz.f201) Tryz.call201 Tryz.func201 rfl 17 rfl rfl [.tmp 2] rfl ?_
  intro w0 F η0 h0
  conv => whnf
  repeat' ((first | refine AU ?_ | ((with_reducible refine IF.mk (fun h => ?_) (fun h => ?_)) <;> (try simp (disch := omega) only [hsB, hsC, lnB, wrap64, wrap32, simprocAttr] at h) <;> try (exfalso; omega))) <;> conv => whnf)
  refine FIN.value h0 rfl (congrArg SV.bool ?_)
  rw [Bool.eq_iff_iff, scalarM_true]
  simp only [Bool.cond_eq_ite, decide_eq_true_eq, Bool.if_false_right, Bool.if_true_left, Bool.and_eq_true, Bool.or_eq_true]
  omega
theorem least_does (n : Int) (hn : 0 ≤ n ∧ n < 5) : Does Tryz.prog tab 200 0 [.int .i64 n] [] [] (Val (.int .i32 (leastM n))) := by
  have hn : n = 0 ∨ n = 1 ∨ n = 2 ∨ n = 3 ∨ n = 4 := by omega
  rcases hn with rfl | rfl | rfl | rfl | rfl
  all_goals
    refine Does.enter tabOK (g := 200) (fn := Tryz.f200) Tryz.call200 Tryz.func200 rfl 6 rfl rfl [.tmp 2] rfl ?_
    intro w0 F η0 h0
    conv => whnf
    repeat' ((first | refine AU ?_ | ((with_reducible refine IF.mk (fun h => ?_) (fun h => ?_)) <;> (try simp (disch := omega) only [hsB, hsC, lnB, wrap64, wrap32, simprocAttr] at h) <;> try (exfalso; omega))) <;> conv => whnf)
    exact FIN.value h0 rfl rfl
theorem lead_at {c : Int} {n r : Int} (hc : 0 ≤ c ∧ c < 256) (h : leadM c = (n, r)) : Does Tryz.prog tab 199 0 [.int .u8 c] [] [] (Val (.tup [.int .i64 n, .int .i32 r])) := by
  have := lead_does c hc
  rw [h] at this
  exact this
theorem next_does (s : List UInt8) (i : Int) (hs : Sm s) : Does Tryz.prog tab 177 0 [.str s, .int .i64 i] [] [] (Val (.tup [.int .i32 (nextAt s i).1, .int .i64 (nextAt s i).2])) := by
  refine Does.enter tabOK (g := 177) (fn := Tryz.f177) Tryz.call177 Tryz.func177 rfl 65 rfl rfl [.tmp 4, .tmp 5] rfl ?_
  intro w0 F η0 h0
  conv => whnf
  repeat' ((first | refine AU ?_ | ((with_reducible refine IF.mk (fun h => ?_) (fun h => ?_)) <;> (try simp (disch := omega) only [hsB, hsC, lnB, wrap64, wrap32, simprocAttr] at h) <;> try (exfalso; omega))) <;> conv => whnf)
  · refine FIN.value h0 rfl ?_
    unfold nextAt; rw [if_pos h]
  · have e0 := byteAt_lt s i; have e1 := byteAt_lt s (i + 1); have e2 := byteAt_lt s (i + 2); have e3 := byteAt_lt s (i + 3)
    have hl := leadM_cases (byteAt s i)
    rcases hl with ⟨hb, hl⟩ | ⟨hb, hl⟩ | ⟨hb, hl⟩ | ⟨hb, hl⟩ | ⟨hb, hl⟩
    all_goals
      refine CALL.value (lead_at e0 hl) rfl rfl ?_
      conv => whnf
      repeat' ((first | refine CALL.value (least_does _ (by omega)) rfl rfl ?_ | (refine LOOP.once tabOK ?_; conv => whnf) | refine CALL.value (scalar_does _) rfl rfl ?_ | refine AU ?_ | ((with_reducible refine IF.mk (fun h => ?_) (fun h => ?_)) <;> (try simp (disch := omega) only [hsB, hsC, lnB, wrap64, wrap32, simprocAttr] at h) <;> try (exfalso; omega))) <;> conv => whnf)
    all_goals
      refine FIN.value h0 rfl ?_
      unfold nextAt decB r2 r3 r4
      try simp (disch := omega) only [or6, and192, leastM1, leastM2, leastM3, leastM4, scalarM_true, scalarM_false] at *
      (simp (disch := omega) only [↓if_pos, ↓if_neg, ite_self, wrap64, wrap32, Int.reduceAdd, Int.reduceSub, Int.reduceMul, Int.reduceNeg, or6])
theorem check_does (s : List UInt8) (hs : Sm s) : Does Tryz.prog tab 142 0 [.str s] [] [] (Val (.int .i64 (chk s 0))) := by
  refine Does.enter tabOK (g := 142) (fn := Tryz.f142) Tryz.call142 Tryz.func142 rfl 22 rfl rfl [.tmp 2] rfl ?_
  intro w0 F η0 h0
  conv => whnf
  refine LOOP.go tabOK [0] (X := Nat) (fun i => i ≤ s.length ∧ chk s i = chk s 0) (fun i => [(3, .int .i64 (i : Int))]) (fun _ => []) 0 (fun i => s.length - i) 0 ⟨by omega, rfl⟩ ?_
  conv => whnf
  refine ⟨by exact GOES.cA h0, ?_⟩
  rintro i ⟨hi, hc⟩
  conv => whnf
  have hn := nextAt_n s i
  repeat' ((first | refine CALL.value (next_does s _ hs) rfl rfl ?_ | refine AU ?_ | ((with_reducible refine IF.mk (fun h => ?_) (fun h => ?_)) <;> (try simp (disch := omega) only [hsB, hsC, lnB, wrap64, wrap32, simprocAttr] at h) <;> try (exfalso; omega))) <;> conv => whnf)
  · have hz : (nextAt s i).2 = 0 := h
    refine FIN.value h0 rfl ?_
    rw [← hc, chk_bad (by omega) hz]
  · rename_i h1
    refine ⟨i + (nextAt s i).2.toNat, ⟨by omega, ?_⟩, by omega, ?_⟩
    · rw [← hc, ← chk_step (by omega) h]
    · conv => whnf
      exact GOES.cA h0
  · refine FIN.value h0 rfl ?_
    rw [← hc, chk_end (by omega)]
end Go.Proofs.YtjbbkimodgffiaaGreatDoor
