/- Part 1 of the texts that the last one leans on: SxOpsJ, SxSound, SxSoundG, SxSpec, SxCall, SxUse, SxAuto, Utf, Utf2, Rune, IriM, NamesM, PartM, SxAuto2, SplitM, TagM, TermM, SxBack, SxTie, SxOrd, SxDrawn. Conditions: as each part says. -/
import Derived.Tactics
import Derived.IntWalk
import Derived.Lib.Bytealg
import Derived.Laws.StructEq
import Derived.Orders
import Derived.Test.YtpffclpheldabaaGreatDoorTn0
/- Each operation does what the engine says of it: copy, texts gone over, conversions, the least and the greatest; and all of them together. Conditions: none. -/
set_option linter.unusedVariables false
set_option linter.unusedSimpArgs false
namespace Go.Sx
open Go
section
variable {M : Mx} {η : Env} {w : World} {O : Hps} {nx : Nat} {ρ : Operand → Value} {lk : Operand → Option SV} {v : SV} {O' : Hps} {nx' : Nat} {dst : Option Tmp} {ty : TypeId} {pos : String} {af : Array Edge} {gd : Option (Nat × Bool)}
theorem s_min (A : At M η w O nx ρ lk) (args : Array Operand) (ts : Array TypeId) (hr : (opR M.C lk O nx (.call ⟨.builtin .min, args, ts⟩)).ok O nx v O' nx') : Sound M η w ⟨dst, .call ⟨.builtin .min, args, ts⟩, ty, pos, af, gd⟩ ρ v O' nx' := by
  simp only [opR, builtinR, minR] at hr
  split at hr
  case h_2 => exact hr.elim
  rename_i x y ha
  obtain rfl : args = #[x, y] := by apply Array.ext'; simpa using ha
  split at hr
  case h_2 => exact hr.elim
  rename_i k a hx
  split at hr
  case h_2 => exact hr.elim
  rename_i k' b hy
  have h1 := denInt (A.L _ _ hx)
  have h2 := denInt (A.L _ _ hy)
  exact A.val hr ⟨.int k (if b < a then b else a), .inl (by simp [execOp, resolve, invoke, builtin, h1, h2, Builtin.min_, Builtin.min2]), rfl⟩
theorem s_max (A : At M η w O nx ρ lk) (args : Array Operand) (ts : Array TypeId) (hr : (opR M.C lk O nx (.call ⟨.builtin .max, args, ts⟩)).ok O nx v O' nx') : Sound M η w ⟨dst, .call ⟨.builtin .max, args, ts⟩, ty, pos, af, gd⟩ ρ v O' nx' := by
  simp only [opR, builtinR, maxR] at hr
  split at hr
  case h_2 => exact hr.elim
  rename_i x y ha
  obtain rfl : args = #[x, y] := by apply Array.ext'; simpa using ha
  split at hr
  case h_2 => exact hr.elim
  rename_i k a hx
  split at hr
  case h_2 => exact hr.elim
  rename_i k' b hy
  have h1 := denInt (A.L _ _ hx)
  have h2 := denInt (A.L _ _ hy)
  exact A.val hr ⟨.int k (if a < b then b else a), .inl (by simp [execOp, resolve, invoke, builtin, h1, h2, Builtin.max_, Builtin.max2]), rfl⟩
theorem s_range (A : At M η w O nx ρ lk) (t : TypeId) (x : Operand) (hr : (opR M.C lk O nx (.range t x)).ok O nx v O' nx') : Sound M η w ⟨dst, .range t x, ty, pos, af, gd⟩ ρ v O' nx' := by
  simp only [opR, rangeR] at hr
  split at hr
  case h_2 => exact hr.elim
  rename_i hs
  obtain ⟨d, hd, hm⟩ := A.T.und t (by rw [hs]; simp)
  rw [hs] at hm; simp only [ShM] at hm; subst hm
  split at hr
  case h_2 => exact hr.elim
  rename_i s hx
  obtain ⟨rfl, rfl, rfl⟩ := hr
  have hxv := denStr (A.L _ _ hx)
  refine ⟨.pointer (some ⟨w.heap.size, 0, none⟩), pushed w (.stringIter ⟨s.toArray⟩ 0), η ++ [some ⟨w.heap.size, 0, 0⟩], .inl ?_, List.prefix_append _ _, ?_, ?_, fun _ h => absurd h (by simp)⟩
  · simp [execOp, hxv, Instr.range, run_und hd, pushed]
  · refine A.H.alloc (w' := pushed w (.stringIter ⟨s.toArray⟩ 0)) rfl rfl rfl rfl 0 0 ?_
    simp only [HpSat]
    exact ⟨_, get_new A.H.len _, rfl, heap_push_eq (w := w) (w' := pushed w (.stringIter ⟨s.toArray⟩ 0)) rfl⟩
  · simp only [Den]; exact ⟨_, get_new A.H.len _, by simp⟩
theorem s_next (A : At M η w O nx ρ lk) (x : Operand) (b : Bool) (hr : (opR M.C lk O nx (.next x b)).ok O nx v O' nx') : Sound M η w ⟨dst, .next x b, ty, pos, af, gd⟩ ρ v O' nx' := by
  simp only [opR, nextR] at hr
  split at hr
  case h_2 => exact hr.elim
  split at hr
  case h_2 => exact hr.elim
  rename_i i r es c hx
  split at hr
  case h_2 => exact hr.elim
  rename_i s pos' hh
  split at hr
  case h_2 => exact hr.elim
  rename_i hz
  have hz := beq_eq hz
  have hxv := A.L _ _ hx
  simp only [Den, Env.get] at hxv
  obtain ⟨en, hb, hxv⟩ := hxv
  obtain ⟨hsat, _⟩ := A.H.own.1 i _ hh
  simp only [HpSat, Env.get] at hsat
  obtain ⟨en', h1, h2, h3⟩ := hsat
  rw [hb] at h1; injection h1 with h1; injection h1 with h1; subst h1
  rw [h2, hz] at hxv
  simp only [Nat.zero_add] at hxv
  have hlt : en.g < w.heap.size := (Array.getElem?_eq_some_iff.1 h3).1
  have hget : (getObj en.g).run M.P w = .ok (.stringIter ⟨s.toArray⟩ pos') w := by simp [getObj, Sem.run, h3]
  simp only [Res.ok, decide_eq_true_eq] at hr
  split at hr
  · rename_i hp
    obtain ⟨rfl, rfl, rfl⟩ := hr
    have hset : (setObj en.g (.stringIter ⟨s.toArray⟩ (pos' + (Utf8.decode ⟨s.toArray⟩ pos').2))).run M.P w = .ok () { w with heap := w.heap.setIfInBounds en.g (.stringIter ⟨s.toArray⟩ (pos' + (Utf8.decode ⟨s.toArray⟩ pos').2)) } := by simp [setObj, Sem.run, h3]
    refine ⟨.tuple #[.bool true, .int .i64 (pos' : Int), .int .i32 ((Utf8.decode ⟨s.toArray⟩ pos').1 : Int)], { w with heap := w.heap.setIfInBounds en.g (.stringIter ⟨s.toArray⟩ (pos' + (Utf8.decode ⟨s.toArray⟩ pos').2)) }, η, .inl ?_, List.prefix_rfl, ?_, ?_, fun h => by cases h⟩
    · simp [execOp, hxv, Instr.next, hget, size_mk, hp, hset, goInt]
    · refine A.H.upd hh hb (fun k hk => ?_) (by simp) rfl rfl rfl ?_
      · simp [Array.getElem?_setIfInBounds, Ne.symm hk]
      · simp only [HpSat, Env.get]
        exact ⟨en, hb, h2, by simp [hlt]⟩
    · simp only [Den, DenL]
      exact ⟨_, rfl, _, _, rfl, rfl, _, _, rfl, rfl, _, _, rfl, rfl, rfl⟩
  · rename_i hp
    obtain ⟨rfl, rfl, rfl⟩ := hr
    refine A.same (u := .tuple #[.bool false]) (.inl ?_) ?_ rfl rfl
    · simp [execOp, hxv, Instr.next, hget, size_mk, hp]
    · simp only [Den, DenL]; exact ⟨_, rfl, _, _, rfl, rfl, rfl⟩
theorem rowByte_bytes (l : List UInt8) : (l.map bytesRow).map rowByte = l := by
  rw [List.map_map]
  conv => rhs; rw [← List.map_id l]
  apply List.map_congr_left
  intro b _
  simp [bytesRow, rowByte]
theorem news_bytes {η : Env} : ∀ {l : List UInt8} {news : List Value}, DenLL η 1 (l.map bytesRow) news → news = l.map fun c => .int .u8 (c.toNat : Int)
  | [], news, h => by simpa [DenLL] using h
  | c :: l, news, h => by
    simp only [List.map_cons, DenLL] at h
    obtain ⟨us, ws, rfl, _, h1, h2⟩ := h
    simp only [bytesRow, DenL, Den] at h1
    obtain ⟨u, us', rfl, rfl, rfl⟩ := h1
    rw [news_bytes h2]; rfl
theorem s_convert (A : At M η w O nx ρ lk) (a b : TypeId) (x : Operand) (hr : (opR M.C lk O nx (.convert a b x)).ok O nx v O' nx') : Sound M η w ⟨dst, .convert a b x, ty, pos, af, gd⟩ ρ v O' nx' := by
  simp only [opR, convR] at hr
  split at hr
  · exact hr.elim
  rename_i hok
  have hsa : M.C.T.sh a ≠ .other := by intro h; simp [okSh, h] at hok
  obtain ⟨da, hda, hma⟩ := A.T.und a hsa
  have bytesd : ∀ {t e : TypeId}, bytesSh M.C.T t = some e → M.P.underlying t = some (.slice e) ∧ M.P.underlying e = some (.int .u8) := by
    intro t e h
    unfold bytesSh at h
    split at h
    case h_2 => cases h
    rename_i q hq
    split at h
    case h_2 => cases h
    rename_i hq'
    injection h with h; subst h
    obtain ⟨d, hd, hm⟩ := A.T.und t (by rw [hq]; simp)
    rw [hq] at hm; simp only [ShM] at hm; subst hm
    obtain ⟨d, hd', hm⟩ := A.T.und q (by rw [hq']; simp)
    rw [hq'] at hm; simp only [ShM] at hm; subst hm
    exact ⟨hd, hd'⟩
  split at hr
  · rename_i k n hx
    have hxv := denInt (A.L _ _ hx)
    split at hr
    case h_3 => exact hr.elim
    · rename_i k' hs
      obtain ⟨d, hd, hm⟩ := A.T.und b (by rw [hs]; simp)
      rw [hs] at hm; simp only [ShM] at hm; subst hm
      refine A.val hr ⟨.int k' (k'.wrap n), .inl ?_, rfl⟩
      have : (convert a b (.int k n)).run M.P w = .ok (.int k' (k'.wrap n)) w := by
        simp only [convert, Sem.run_bind, run_und hda, run_und hd, Result.andThen_ok]
        cases da <;> rfl
      simp [execOp, hxv, this]
    · rename_i hs
      obtain ⟨d, hd, hm⟩ := A.T.und b (by rw [hs]; simp)
      rw [hs] at hm; simp only [ShM] at hm; subst hm
      refine A.val hr ⟨.string (Utf8.encode n), .inl ?_, rfl⟩
      have : (convert a b (.int k n)).run M.P w = .ok (.string (Utf8.encode n)) w := by
        simp only [convert, Sem.run_bind, run_und hda, run_und hd, Result.andThen_ok]
        cases da <;> rfl
      simp [execOp, hxv, this]
  · rename_i s hx
    have hxv := denStr (A.L _ _ hx)
    split at hr
    · rename_i hs
      obtain ⟨d, hd, hm⟩ := A.T.und b (by rw [hs]; simp)
      rw [hs] at hm; simp only [ShM] at hm; subst hm
      refine A.val hr ⟨.string ⟨s.toArray⟩, .inl ?_, rfl⟩
      have : (convert a b (.string ⟨s.toArray⟩)).run M.P w = .ok (.string ⟨s.toArray⟩) w := by
        simp only [convert, Sem.run_bind, run_und hda, run_und hd, Result.andThen_ok]
        cases da <;> rfl
      simp [execOp, hxv, this]
    · split at hr
      case h_2 => exact hr.elim
      rename_i e he
      obtain ⟨hd, hd'⟩ := bytesd he
      split at hr
      case h_2 => exact hr.elim
      rename_i hsz
      have hsz := beq_eq hsz
      split at hr
      case h_2 => exact hr.elim
      rename_i hsrc
      obtain ⟨da', hda', hma'⟩ := A.T.und a (by rw [hsrc]; simp)
      rw [hsrc] at hma'; simp only [ShM] at hma'; subst hma'
      obtain ⟨hlen, rfl, rfl, rfl⟩ := hr
      have hrun := run_bytes_of_string (P := M.P) w a b e ⟨s.toArray⟩ hda' hd hd'
      rw [size_mk] at hrun
      have hge := grownCap_ge w s.length 0 e
      have hbs : (Go.bytesRow ⟨s.toArray⟩ (grownCap w s.length 0 e)).size = grownCap w s.length 0 e := by simp [Go.bytesRow, size_mk]; omega
      refine ⟨_, w.drew.alloc (.cells (Go.bytesRow ⟨s.toArray⟩ (grownCap w s.length 0 e)) e ((Go.bytesRow ⟨s.toArray⟩ (grownCap w s.length 0 e)).size, (Go.bytesRow ⟨s.toArray⟩ (grownCap w s.length 0 e)).size + 1)), η ++ [some ⟨w.heap.size, 0, grownCap w s.length 0 e⟩],
        .inl (by simp only [execOp, hxv, Sem.run_bind, hrun, Result.andThen_ok, Sem.run_pure]), List.prefix_append _ _, ?_, den_newsl A.H.len hge, fun _ h => absurd h (by simp)⟩
      refine HeapOK.alloc (w' := w.drew.alloc (.cells (Go.bytesRow ⟨s.toArray⟩ (grownCap w s.length 0 e)) e ((Go.bytesRow ⟨s.toArray⟩ (grownCap w s.length 0 e)).size, (Go.bytesRow ⟨s.toArray⟩ (grownCap w s.length 0 e)).size + 1))) A.H rfl rfl rfl rfl 0 _ ?_
      simp only [HpSat]
      right
      refine ⟨_, Go.bytesRow ⟨s.toArray⟩ (grownCap w s.length 0 e), e, ((Go.bytesRow ⟨s.toArray⟩ (grownCap w s.length 0 e)).size, (Go.bytesRow ⟨s.toArray⟩ (grownCap w s.length 0 e)).size + 1), get_new A.H.len _, heap_push_eq (w := w) (o := .cells (Go.bytesRow ⟨s.toArray⟩ (grownCap w s.length 0 e)) e ((Go.bytesRow ⟨s.toArray⟩ (grownCap w s.length 0 e)).size, (Go.bytesRow ⟨s.toArray⟩ (grownCap w s.length 0 e)).size + 1)) rfl, fun _ => ⟨?_, by rw [hbs, Nat.mul_one], by simpa using hge, rfl⟩, ?_⟩
      · intro o ho h; omega
      · intro k row hk
        rw [List.getElem?_map] at hk
        cases hq : s[k]? with
        | none => rw [hq] at hk; cases hk
        | some c =>
          rw [hq] at hk
          injection hk with hk
          subst hk
          refine ⟨rfl, fun j sv hj => ?_⟩
          cases j with
          | succ j => simp [bytesRow] at hj
          | zero =>
            simp [bytesRow] at hj
            subst hj
            have hkl := (List.getElem?_eq_some_iff.1 hq).1
            refine ⟨.int .u8 (c.toNat : Int), ?_, rfl, rfl⟩
            simp only [Go.bytesRow, Nat.zero_add, Nat.mul_one, Nat.add_zero]
            rw [Array.getElem?_append_left (by simpa using hkl)]
            simp [hq]
  · rename_i bb r es len lim hx
    split at hr
    case h_2 => exact hr.elim
    rename_i hs
    obtain ⟨d, hd, hm⟩ := A.T.und b (by rw [hs]; simp)
    rw [hs] at hm; simp only [ShM] at hm; subst hm
    split at hr
    case h_2 => exact hr.elim
    rename_i e he
    obtain ⟨hd1, hd2⟩ := bytesd he
    split at hr
    case h_2 => exact hr.elim
    rename_i xs m hrows
    obtain ⟨⟨hl, l, hxl⟩, hr⟩ := hr
    have hxd := A.L _ _ hx
    obtain ⟨news, N⟩ := rowsR_news A hxd hrows hl
    have hm : m = len := by
      unfold rowsR at hrows
      simp only at hrows
      split at hrows
      case h_2 => cases hrows
      split at hrows
      case h_2 => cases hrows
      split at hrows
      case h_2 => cases hrows
      simp only [Option.some.injEq, Prod.mk.injEq] at hrows
      exact hrows.2.symm
    subst hm
    subst hxl
    rw [rowByte_bytes] at hr
    refine A.val hr ⟨.string ⟨l.toArray⟩, .inl ?_, rfl⟩
    have hnews := news_bytes N.den
    have hf := N.first w rfl
    simp only [List.length_map] at hl
    simp only [Den] at hxd
    rcases hxd with ⟨_, hxv, h0⟩ | ⟨en, o, _, hxv, _⟩
    · subst h0
      have : l = [] := List.length_eq_zero_iff.1 hl
      subst this
      simp [execOp, hxv, convert, run_und hd1, run_und hd, run_und hd2, Conv.bytesToString]
      rfl
    · rw [hxv] at hf
      simp only [Builtin.firstCells, Nat.mul_one] at hf
      have hconv : (convert a b (.slice (some ⟨en.g, o, none⟩) m (lim.getD en.cap - r))).run M.P w = .ok (.string ⟨l.toArray⟩) w := by
        rw [run_convert_bytes_string w a b e _ m _ hd1 hd2 hd]
        have hf' : (loadCells ⟨en.g, o, none⟩ m).run M.P w = .ok ((l.map (fun c => (c.toNat : Int))).map (Value.int .u8)).toArray w := by
          rw [hf, hnews]; simp
        rw [run_bytesToString w _ m _ _ hf', foldl_push_byteCells]
        simp
      simp [execOp, hxv, hconv]
  · rename_i hx
    obtain ⟨hxv, _⟩ : ρ x = .slice none 0 0 ∧ True := ⟨And.left (A.L _ _ hx), trivial⟩
    split at hr
    case h_2 => exact hr.elim
    rename_i hs
    obtain ⟨d, hd, hm⟩ := A.T.und b (by rw [hs]; simp)
    rw [hs] at hm; simp only [ShM] at hm; subst hm
    split at hr
    case h_2 => exact hr.elim
    rename_i e he
    obtain ⟨hd1, hd2⟩ := bytesd he
    refine A.val hr ⟨.string ⟨[].toArray⟩, .inl ?_, rfl⟩
    simp [execOp, hxv, convert, run_und hd1, run_und hd, run_und hd2, Conv.bytesToString]
    rfl
  · exact hr.elim
theorem s_copy (A : At M η w O nx ρ lk) (args : Array Operand) (ts : Array TypeId) (hr : (opR M.C lk O nx (.call ⟨.builtin .copy, args, ts⟩)).ok O nx v O' nx') : Sound M η w ⟨dst, .call ⟨.builtin .copy, args, ts⟩, ty, pos, af, gd⟩ ρ v O' nx' := by
  simp only [opR, builtinR, copyR] at hr
  split at hr
  case h_2 => exact hr.elim
  rename_i dd x ha
  obtain rfl : args = #[dd, x] := by apply Array.ext'; simpa using ha
  split at hr
  case h_2 => exact hr.elim
  rename_i t u htu
  obtain rfl : ts = #[t, u] := by apply Array.ext'; simpa using htu
  split at hr
  case h_2 => exact hr.elim
  rename_i e hst
  obtain ⟨d, hd, hm⟩ := A.T.und t (by rw [hst]; simp)
  rw [hst] at hm; simp only [ShM] at hm; subst hm
  split at hr
  · exact hr.elim
  rename_i hok
  have hsh : M.C.T.sh e ≠ .other := by intro h; simp [okSh, h] at hok
  obtain ⟨ie, hie, hies, _⟩ := A.T.info e hsh
  split at hr
  case h_2 => exact hr.elim
  rename_i i r es n lim hdv
  have hdd := A.L _ _ hdv
  split at hr
  · exact hr.elim
  rename_i xsv hx
  have hxd := A.L _ _ hx
  split at hr
  · exact hr.elim
  rename_i xs m hrows
  split at hr
  case h_2 => exact hr.elim
  rename_i es' rs hh
  split at hr
  case h_2 => exact hr.elim
  rename_i h1
  have h1 := beq_eq h1
  subst h1
  split at hr
  case h_2 => exact hr.elim
  rename_i h2
  have h2 := beq_eq h2
  subst h2
  obtain ⟨⟨q1, q2, q3⟩, rfl, rfl, rfl⟩ := hr
  obtain ⟨news, N⟩ := rowsR_news A hxd hrows q1
  obtain ⟨hsat, _⟩ := A.H.own.1 i _ hh
  simp only [HpSat, Env.get] at hsat
  have hmin : Nat.min m n = m := Nat.min_eq_left q2
  have hd1 := N.first w rfl
  have fin : ∀ {w' : World}, (Builtin.copy_ #[t, u] ty #[ρ dd, ρ x]).run M.P w = .ok (.int .i64 m) w' → Yields M.P ⟨dst, .call ⟨.builtin .copy, #[dd, x], #[t, u]⟩, ty, pos, af, gd⟩ ρ w (.int .i64 m) w' := by
    intro w' h
    exact .inl (by simp [execOp, resolve, invoke, builtin, h])
  simp only [Den, Env.get] at hdd
  rcases hdd with ⟨p1, hdv', p3⟩ | ⟨en, o, p1, hdv', p3, p4, p5⟩
  · rcases hsat with ⟨p6, rfl⟩ | ⟨en', arr, T, fz, p6, _⟩
    case inr => rw [p1] at p6; cases p6
    subst p3
    have hm0 : m = 0 := by omega
    subst hm0
    have hx0 : xs = [] := List.length_eq_zero_iff.1 q1
    subst hx0
    refine ⟨_, w, η, fin ?_, List.prefix_rfl, ?_, rfl, fun h => by cases h⟩
    · simp [hdv', Builtin.copy_, run_und hd, N.lenOf, run_size hie, hies, hd1, goInt]
    · refine { pre := A.H.pre, len := A.H.len, fr := A.H.fr, sok := A.H.sok, own := ⟨fun j g hj => ?_, fun j k g g' m hj hk hne f f' => ?_⟩ }
      · rw [lkp_setK i _ O j (by rw [hh]; rfl)] at hj
        split at hj
        · rename_i e; subst e; injection hj with hj; subst hj
          exact ⟨Or.inl ⟨p1, by simp⟩, fun k f => (feet.none (b := .loc j) p1 f).elim⟩
        · exact A.H.own.1 j g hj
      · have aux : ∀ (j : Nat) (g : Hp) (m : Nat), feet η w (.loc j) g m → lkp j (setK i (.rows (M.C.T.size e) (List.take r [] ++ [] ++ List.drop (r + 0) [])) O) = some g → lkp j O = some g := by
          intro j g m f hj
          rw [lkp_setK i _ O j (by rw [hh]; rfl)] at hj
          split at hj
          · rename_i e; subst e; exact (feet.none (b := .loc j) p1 f).elim
          · exact hj
        exact A.H.own.2 j k g g' m (aux j g m f hj) (aux k g' m f' hk) hne f f'
  · rcases hsat with ⟨p6, _⟩ | ⟨en', arr, T, fz, p6, p7, p8, p9⟩
    · rw [p1] at p6; cases p6
    rw [p1] at p6; injection p6 with p6; injection p6 with p6; subst p6
    obtain ⟨p8u, p8s, p8c, p8b⟩ := p8 trivial
    rw [p8b] at p9
    obtain ⟨r1, r2⟩ := rows_over p8s (r := r) (xs := xs) (by omega) (by omega) p9 N.den N.one
    by_cases hm0 : m = 0
    · subst hm0
      have hx0 : xs = [] := List.length_eq_zero_iff.1 q1
      have hn0 : news = [] := by apply List.length_eq_zero_iff.1; rw [N.len]; omega
      subst hx0 hn0
      refine ⟨_, w, η, fin ?_, List.prefix_rfl, ?_, rfl, fun h => by cases h⟩
      · simp [hdv', Builtin.copy_, run_und hd, N.lenOf, run_size hie, hies, hd1, goInt, storeCells]
      · refine A.H.upd hh p1 (fun k _ => rfl) rfl rfl rfl rfl ?_
        simp only [HpSat, Env.get]
        right
        exact ⟨en, arr, T, fz, p1, p7, fun _ => ⟨p8u, p8s, by simpa using p8c, p8b⟩, by rw [p8b]; simpa using p9⟩
    · have ho := p5 (.inl (by omega))
      rw [p8b, Nat.zero_add] at ho
      subst ho
      have hst := storeCells_run (P := M.P) en.g (r * M.C.T.size e) T fz news 0 arr w p7 (by simpa using r1) p8u N.one
      simp only [Nat.add_zero] at hst
      have hsz' : (arr.toList.take (r * M.C.T.size e) ++ news ++ arr.toList.drop (r * M.C.T.size e + news.length)).toArray.size = arr.size := by
        simp only [List.size_toArray, List.length_append, List.length_take, List.length_drop, Array.length_toList]; omega
      refine ⟨_, w.setRow en.g (arr.toList.take (r * M.C.T.size e) ++ news ++ arr.toList.drop (r * M.C.T.size e + news.length)).toArray, η, fin ?_, List.prefix_rfl, A.H.upd hh p1 (fun k hk => setRow_other w en.g k _ hk) (setRow_size _ _ _) rfl rfl rfl ?_, rfl, fun h => by cases h⟩
      · simp [hdv', Builtin.copy_, run_und hd, N.lenOf, run_size hie, hies, hmin, hd1, hst, goInt]
      · simp only [HpSat, Env.get]
        right
        refine ⟨en, _, T, fz, p1, setRow_heap w en.g arr _ T fz p7, fun _ => ⟨by rw [hsz']; exact p8u, by rw [hsz']; exact p8s, ?_, p8b⟩, by rw [p8b, ← q1]; exact r2⟩
        simp only [List.length_append, List.length_take, List.length_drop]; omega
theorem op_sound (A : At M η w O nx ρ lk) (o : Oper) (hr : (opR M.C lk O nx o.op).ok O nx v O' nx') : Sound M η w o ρ v O' nx' := by
  obtain ⟨dst, op, ty, pos, af, gd⟩ := o
  cases op with
  | move x => exact s_move A x hr
  | assign x => exact s_assign A x hr
  | pick c a b => exact s_pick A c a b hr
  | alloc e => exact s_alloc A e hr
  | box e x => exact s_box A e x hr
  | build t ps => exact s_build A t ps hr
  | buildSlice t l ps => exact s_buildSlice A t l ps hr
  | load t x => exact s_load A t x hr
  | store t x y => exact s_store A t x y hr
  | nilCheck x => exact s_nilCheck A x hr
  | binOp op t x y u => exact s_binOp A op t u x y hr
  | unOp op t x => exact s_unOp A op t x hr
  | convert s d x => exact s_convert A s d x hr
  | makeInterface t x => exact s_makeInterface A t x hr
  | makeFunc f a b => exact s_makeFunc A f a b hr
  | makeSlice t l c => exact s_makeSlice A t l c hr
  | slice t x lo hi mx => exact s_slice A t x lo hi mx hr
  | fieldAddr s x f => exact s_fieldAddr A s x f hr
  | field t x f => exact s_field A t x f hr
  | indexAddr t x i => exact s_indexAddr A t x i hr
  | index t x i => exact s_index A t x i hr
  | range t x => exact s_range A t x hr
  | next x b => exact s_next A x b hr
  | extract x i => exact s_extract A x i hr
  | typeAssert x t u ok => exact s_assert A x t u ok hr
  | call c =>
    obtain ⟨callee, args, ts⟩ := c
    cases callee with
    | builtin b =>
      cases b with
      | len => exact s_len A args ts hr
      | append => exact s_append A args ts hr
      | min => exact s_min A args ts hr
      | max => exact s_max A args ts hr
      | copy => exact s_copy A args ts hr
      | _ => exact hr.elim
    | _ => exact hr.elim
  | _ => exact hr.elim
end
end Go.Sx
/- The engine's walk is sound: what it asks for suffices for the model's own run. Conditions: none. -/
set_option linter.unusedVariables false
set_option linter.unusedSimpArgs false
namespace Go.Sx
open Go
section
variable {M : Mx} {η : Env} {w : World} {O : Hps} {nx : Nat}
theorem FrOK.mono {η η' : Env} {a : Act} {fr : Fr} (h : η <+: η') (k : FrOK η a fr) : FrOK η' a fr := fun t sv ht => (k t sv ht).mono h
theorem put_same {a : Act} {d : Nat} {u : Value} (h : d < a.tmps.size) : (a.put (some d) u).tmps.getD d undef = u := by
  simp [Act.put, Array.getD, h]
theorem put_other {a : Act} {d t : Nat} {u : Value} (h : t ≠ d) : (a.put (some d) u).tmps.getD t undef = a.tmps.getD t undef := by
  simp only [Act.put, Array.getD_eq_getD_getElem?]
  rw [Array.getElem?_setIfInBounds, if_neg (Ne.symm h)]
theorem put_size {a : Act} {d : Option Tmp} {u : Value} : (a.put d u).tmps.size = a.tmps.size := by
  cases d <;> simp [Act.put]
theorem put_defers {a : Act} {d : Option Tmp} {u : Value} : (a.put d u).defers = a.defers := by
  cases d <;> simp [Act.put]
theorem FrOK.put {a : Act} {fr : Fr} {d : Nat} {u : Value} {v : SV} (k : FrOK η a fr) (hd : d < a.tmps.size) (hv : Den η v u) : FrOK η (a.put (some d) u) ((d, v) :: fr) := by
  intro t sv ht
  rw [lkp_cons] at ht
  split at ht
  · rename_i e; subst e; injection ht with ht; subst ht
    rw [put_same hd]; exact hv
  · rename_i e; rw [put_other e]; exact k t sv ht
theorem FrOK.know {a : Act} {fr : Fr} {d : Nat} {v : SV} (k : FrOK η a fr) (hv : Den η v (a.tmps.getD d undef)) : FrOK η a ((d, v) :: fr) := by
  intro t sv ht
  rw [lkp_cons] at ht
  split at ht
  · rename_i e; subst e; injection ht with ht; subst ht; exact hv
  · exact k t sv ht
theorem dstOk_lt {N : Nat} {d : Nat} (h : dstOk N (some d) = true) : d < N := by
  simpa [dstOk] using h
/-- The state, once a value has been put away. -/
theorem Models.put {fr : Fr} {a : Act} (K : Models M η fr O nx a w) {η' : Env} {O' : Hps} {nx' : Nat} {w' : World} {d : Option Tmp} {u : Value} {v : SV} (hd : dstOk M.C.N d = true) (hp : η <+: η') (hH : HeapOK M η' w' O' nx') (hv : Den η' v u) {Kp : Fr → Prop} (hk : putK d v fr Kp) :
    ∃ fr', Kp fr' ∧ Models M η' fr' O' nx' (a.put d u) w' := by
  cases d with
  | none => exact ⟨fr, hk, hH, by rw [put_size]; exact K.size, by rw [put_defers]; exact K.defers, K.frame.mono hp⟩
  | some d =>
    refine ⟨(d, v) :: fr, hk, hH, by rw [put_size]; exact K.size, by rw [put_defers]; exact K.defers, (K.frame.mono hp).put ?_ hv⟩
    rw [K.size]; exact dstOk_lt hd
theorem wp_yields {P : Program} {o : Oper} {a : Act} {w w' : World} {u : Value} {next : Act → World → Prop} {Q : Exit → Act → World → Prop} (h : Yields P o a.eval w u w') (hn : next (a.put o.dst u) w') : o.wp P a w next Q := by
  unfold Oper.wp
  rcases h with h | ⟨h, rfl⟩
  · rw [h]; exact hn
  · rw [h]; exact hn
theorem optAll_denL {lk : Operand → Option SV} {ρ : Operand → Value} {xs : List Operand} {svs : List SV} (hl : ∀ x sv, lk x = some sv → Den η sv (ρ x)) (h : optAll lk xs = some svs) : DenL η svs (xs.map ρ) := optAll_den hl h
/-- A call of a function. -/
theorem wp_call {o : Oper} {a : Act} {c : Call} {lk : Operand → Option SV} {f : FuncId} {args : List SV} {K : SV → Hps → Nat → Prop} {next : Act → World → Prop} {Q : Exit → Act → World → Prop} (ho : o.op = .call c) (H : HeapOK M η w O nx) (hl : ∀ x sv, lk x = some sv → Den η sv (a.eval x))
    (hc : callArgs lk c = some (f, args)) (hC : CALL M f args O nx K) (hn : ∀ v r O' nx' η' w', η <+: η' → HeapOK M η' w' O' nx' → Den η' r v → K r O' nx' → next (a.put o.dst v) w') : o.wp M.P a w next Q := by
  unfold callArgs at hc
  split at hc
  case h_2 => cases hc
  rename_i ff hcal
  split at hc
  case h_2 => cases hc
  rename_i f' first cap args' hf hargs
  simp only [Option.some.injEq, Prod.mk.injEq] at hc
  obtain ⟨rfl, rfl⟩ := hc
  have hfd := hl _ _ hf
  simp only [Den] at hfd
  obtain ⟨us, vs, hfv, h1, h2⟩ := hfd
  have hall := denL_append (denL_append h1 (optAll_denL hl hargs)) h2
  have hexec : (execOp a.eval o).run M.P w = (callFunc f' ⟨us ++ c.args.toList.map a.eval ++ vs⟩).run M.P w := by
    have : (⟨us⟩ ++ c.args.map a.eval ++ ⟨vs⟩ : Array Value) = ⟨us ++ c.args.toList.map a.eval ++ vs⟩ := by apply Array.ext'; simp
    rw [← this]
    simp [execOp, ho, resolve, hcal, hfv, Deferred.ofValue, invoke]
  unfold Oper.wp
  rw [hexec]
  rcases hC.out η w _ H hall with ⟨g, hg, hcalls⟩ | ⟨v, w', hv, r, O', nx', η', h3, h4, h5, h6⟩
  · rw [hg]
    refine hcalls.mono fun e w' he => ?_
    obtain ⟨v, rfl, r, O', nx', η', h3, h4, h5, h6⟩ := he
    exact hn v r O' nx' η' w' h3 h4 h5 h6
  · rw [hv]
    exact hn v r O' nx' η' w' h3 h4 h5 h6
/-- One operation that is carried out. -/
theorem stepO_wp (hT : TabOK M.P M.C.T) {fr : Fr} {a : Act} (K : Models M η fr O nx a w) {o : Oper} {lk : Operand → Option SV} (hl : ∀ x sv, lk x = some sv → Den η sv (a.eval x)) {K' : SV → Hps → Nat → Prop} (h : stepO M o lk O nx K') {next : Act → World → Prop} {Q : Exit → Act → World → Prop}
    (hn : ∀ u v O' nx' η' w', dstOk M.C.N o.dst = true → η <+: η' → HeapOK M η' w' O' nx' → Den η' v u → K' v O' nx' → next (a.put o.dst u) w') : o.wp M.P a w next Q := by
  unfold stepO at h
  split at h
  · exact h.out.elim
  rename_i hd
  have main : ∀ {op : Op}, o.op = op → (opR M.C lk O nx op).go O nx K' → o.wp M.P a w next Q := by
    intro op ho h
    subst ho
    obtain ⟨v, O', nx', h1, h2⟩ := Res.go_ok h
    obtain ⟨u, w', η', h3, h4, h5, h6, _⟩ := op_sound ⟨K.heap, hT, hl⟩ o h1
    exact wp_yields h3 (hn u v O' nx' η' w' hd h4 h5 h6 h2)
  split at h
  · rename_i c ho
    split at h
    · exact main ho h
    · split at h
      · rename_i f args hc
        rw [force1L_iff] at h
        refine wp_call ho K.heap hl hc h fun v r O' nx' η' w' h1 h2 h3 h4 => ?_
        rw [force_iff, forceO_iff] at h4
        exact hn v r O' nx' η' w' hd h1 h2 h3 h4
      · exact h.out.elim
  · exact main rfl h
theorem yielded_of {ops : Array Oper} {a : Act} {j s : Nat} (h : slotOf ops.toList j = some s) {b : Bool} (hb : a.tmps.getD s undef = .bool b) : yielded ops a.tmps j = some b := by
  unfold slotOf at h
  rw [nth_get] at h
  unfold yielded
  cases ho : ops.toList[j]? with
  | none => rw [ho] at h; cases h
  | some o =>
    rw [ho] at h
    simp only at h
    have ho' : ops[j]? = some o := by simpa using ho
    have hs : s < a.tmps.size := by
      rcases Nat.lt_or_ge s a.tmps.size with hlt | hge
      · exact hlt
      · rw [Array.getD_eq_getD_getElem?, Array.getElem?_eq_none hge] at hb; cases hb
    rw [Array.getD_eq_getD_getElem?, Array.getElem?_eq_getElem hs] at hb
    simp only [Option.getD_some] at hb
    simp [ho', h, Array.getElem?_eq_getElem hs, hb]
theorem yielded_not {ops : Array Oper} {a : Act} {j s : Nat} (h : slotOf ops.toList j = some s) {want : Bool} (hb : a.tmps.getD s undef ≠ .bool want) : yielded ops a.tmps j ≠ some want := by
  unfold slotOf at h
  rw [nth_get] at h
  unfold yielded
  cases ho : ops.toList[j]? with
  | none => rw [ho] at h; cases h
  | some o =>
    rw [ho] at h
    simp only at h
    have ho' : ops[j]? = some o := by simpa using ho
    simp only [ho', Option.bind_some, h]
    intro hy
    split at hy
    · rename_i b hq
      injection hy with hy
      subst hy
      apply hb
      rw [Array.getD_eq_getD_getElem?, hq]; rfl
    · cases hy
theorem wpList_want {P : Program} {ops : Array Oper} {Q : Exit → Act → World → Prop} {a : Act} {w : World} {rest : List Oper} {o : Oper} (hw : Region.wanted o (yielded ops a.tmps) = true) (h : o.wp P a w (wpList P ops Q rest) Q) : wpList P ops Q (o :: rest) a w := by
  unfold wpList; rw [if_pos hw]; exact .inl h
theorem wpList_skip' {P : Program} {ops : Array Oper} {Q : Exit → Act → World → Prop} {a : Act} {w : World} {rest : List Oper} {o : Oper} (hw : ¬ Region.wanted o (yielded ops a.tmps) = true) (h : wpList P ops Q rest (a.put o.dst undef) w) : wpList P ops Q (o :: rest) a w := by
  unfold wpList; rw [if_neg hw]; exact h
theorem wanted_none {o : Oper} {y : Nat → Option Bool} (h : o.guard = none) : Region.wanted o y = true := by simp [Region.wanted, h]
theorem wanted_some {o : Oper} {y : Nat → Option Bool} {j : Nat} {b : Bool} (h : o.guard = some (j, b)) : Region.wanted o y = true ↔ y j = some b := by simp [Region.wanted, h]
theorem runS_sound (hT : TabOK M.P M.C.T) {ops : Array Oper} {Q : Exit → Act → World → Prop} : ∀ (rest : List Oper) {fr : Fr} {O : Hps} {nx : Nat} {K : Fr → Hps → Nat → Prop}, runS M ops.toList rest fr O nx K →
    ∀ {η : Env} {a : Act} {w : World}, Models M η fr O nx a w → (∀ η fr O nx a w, Models M η fr O nx a w → K fr O nx → Q .normal a w) → wpList M.P ops Q rest a w
  | [], fr, O, nx, K, h, η, a, w, hm, hq => hq η fr O nx a w hm h
  | o :: rest, fr, O, nx, K, h, η, a, w, hm, hq => by
    unfold runS at h
    have step : ∀ {fr' : Fr}, Models M η fr' O nx a w → stepO M o (lookF fr') O nx (fun v O nx => putK o.dst v fr' fun fr => runS M ops.toList rest fr O nx K) → o.wp M.P a w (wpList M.P ops Q rest) Q := by
      intro fr' hm' h
      refine stepO_wp hT hm' (fun x sv hx => lookF_den hm'.frame hx) h fun u v O' nx' η' w' hd hp hH hv hk => ?_
      obtain ⟨fr2, h1, h2⟩ := hm'.put hd hp hH hv hk
      exact runS_sound hT rest h1 h2 hq
    have skip : ∀ {fr' : Fr}, Models M η fr' O nx a w → (match dstOk M.C.N o.dst with | true => putK o.dst undefS fr' fun fr => runS M ops.toList rest fr O nx K | false => STOP "slot") → wpList M.P ops Q rest (a.put o.dst undef) w := by
      intro fr' hm' h
      split at h
      · rename_i hd
        obtain ⟨fr2, h1, h2⟩ := hm'.put hd List.prefix_rfl hm'.heap (denNone η) h
        exact runS_sound hT rest h1 h2 hq
      · exact h.out.elim
    split at h
    · rename_i hg
      exact wpList_want (wanted_none hg) (step hm h)
    · rename_i j want hg
      split at h
      · exact h.out.elim
      rename_i s hs
      split at h
      · rename_i b hb
        have hbv := denBool (hm.frame s _ hb)
        have hy := yielded_of hs hbv
        cases b with
        | true =>
          have h := h.t rfl
          have hm' : Models M η ((s, .bool true) :: fr) O nx a w := ⟨hm.heap, hm.size, hm.defers, hm.frame.know hbv⟩
          cases want with
          | true => exact wpList_want ((wanted_some hg).2 hy) (step hm' h)
          | false => exact wpList_skip' (fun hw => by rw [wanted_some hg, hy] at hw; cases hw) (skip hm' h)
        | false =>
          have h := h.f rfl
          have hm' : Models M η ((s, .bool false) :: fr) O nx a w := ⟨hm.heap, hm.size, hm.defers, hm.frame.know hbv⟩
          cases want with
          | false => exact wpList_want ((wanted_some hg).2 hy) (step hm' h)
          | true => exact wpList_skip' (fun hw => by rw [wanted_some hg, hy] at hw; cases hw) (skip hm' h)
      · rename_i hb
        have hbv := hm.frame s _ hb
        simp only [Den, DenL] at hbv
        obtain ⟨vs, hbv, rfl⟩ := hbv
        exact wpList_skip' (fun hw => by rw [wanted_some hg] at hw; exact yielded_not hs (by rw [hbv]; simp) hw) (skip hm h)
      · exact h.out.elim
end
end Go.Sx
/- The engine's walk is sound: guarded operations that only compute; the code; loops, calls, the way into a function and out of it. Conditions: none. -/
set_option linter.unusedVariables false
set_option linter.unusedSimpArgs false
namespace Go.Sx
open Go
section
variable {M : Mx} {η : Env} {w : World} {O : Hps} {nx : Nat}
theorem PathOK.sub {a : Act} : ∀ {p q : List (Nat × Bool)}, subPath p q = true → PathOK a q → PathOK a p
  | [], q, _, _ => fun x hx => by cases hx
  | (s, b) :: p, q, h, hq => by
    simp only [subPath, Bool.and_eq_true, List.any_eq_true] at h
    obtain ⟨⟨x, hx, h1⟩, h2⟩ := h
    have h3 := beq_eq h1.1
    have h4 : x.2 = b := by simpa using h1.2
    intro y hy
    rcases List.mem_cons.1 hy with rfl | hy
    · have := hq x hx; rw [h3, h4] at this; exact this
    · exact PathOK.sub h2 hq y hy
theorem lookG_den {a : Act} {fr : Fr} {gs : Gs} {path : List (Nat × Bool)} (hf : FrOK η a fr) (hg : GsOK η a gs) (hp : PathOK a path) {x : Operand} {sv : SV} (hx : lookG fr gs path x = some sv) : Den η sv (a.eval x) := by
  cases x with
  | tmp t =>
    simp only [lookG] at hx
    split at hx
    · rename_i q v hq
      split at hx
      · rename_i hs
        injection hx with hx
        subst hx
        exact (hg t q v hq).1 (PathOK.sub hs hp)
      · cases hx
    · exact hf t sv hx
  | const v => exact lookF_den hf hx
  | global g => exact lookF_den hf hx
  | func f => exact lookF_den hf hx
theorem pathBool_true {a : Act} {fr : Fr} {gs : Gs} (hf : FrOK η a fr) (hg : GsOK η a gs) : ∀ {path : List (Nat × Bool)} {g : Bool}, pathBool fr gs path = some g → PathOK a path → g = true
  | [], g, h, _ => by simp only [pathBool, Option.some.injEq] at h; exact h.symm
  | (s, want) :: r, g, h, hp => by
    have hpr : PathOK a r := fun x hx => hp x (List.mem_cons_of_mem _ hx)
    simp only [pathBool] at h
    split at h
    case h_2 => cases h
    rename_i b hb
    have hbv := denBool (lookG_den hf hg hpr hb)
    have hsv := hp (s, want) (List.mem_cons_self ..)
    simp only [Act.eval] at hbv
    rw [hbv] at hsv
    injection hsv with hsv
    simp only at hsv
    split at h
    case h_2 => cases h
    rename_i x hx
    have hxt := pathBool_true hf hg hx hpr
    subst hxt hsv
    cases b <;> simp at h <;> exact h
theorem gPath_ok {a : Act} {gs : Gs} (hg : GsOK η a gs) {s : Nat} {want : Bool} (h : a.tmps.getD s undef = .bool want) : PathOK a (gPath gs s want) := by
  intro x hx
  unfold gPath at hx
  rcases List.mem_cons.1 hx with rfl | hx
  · exact h
  · split at hx
    · rename_i q v hq
      by_cases hp : PathOK a q
      · exact hp x hx
      · have := (hg s q v hq).2 hp
        rw [h] at this; cases this
    · cases hx
theorem PathOK.put {a : Act} {d : Nat} {u : Value} {p : List (Nat × Bool)} (h : notIn d p = true) : PathOK (a.put (some d) u) p ↔ PathOK a p := by
  unfold notIn at h
  have key : ∀ x ∈ p, (a.put (some d) u).tmps.getD x.1 undef = a.tmps.getD x.1 undef := by
    intro x hx
    have := (List.all_eq_true.1 h) x hx
    have hne : x.1 ≠ d := ne_of_beq (by simpa using this)
    exact put_other hne
  exact ⟨fun k x hx => by rw [← key x hx]; exact k x hx, fun k x hx => by rw [key x hx]; exact k x hx⟩
theorem lkp_mem {α : Type} : ∀ {l : List (Nat × α)} {t : Nat} {v : α}, lkp t l = some v → (t, v) ∈ l
  | [], t, v, h => by simp [lkp] at h
  | (d, u) :: r, t, v, h => by
    rw [lkp_cons] at h
    split at h
    · rename_i e; subst e; injection h with h; subst h; exact List.mem_cons_self ..
    · exact List.mem_cons_of_mem _ (lkp_mem h)
theorem GsOK.put {a : Act} {gs : Gs} (hg : GsOK η a gs) {η' : Env} (hp : η <+: η') {d : Option Tmp} {u : Value} (hd : freshG d gs = true) : GsOK η' (a.put d u) gs := by
  cases d with
  | none => exact fun t p sv h => ⟨fun k => ((hg t p sv h).1 k).mono hp, (hg t p sv h).2⟩
  | some d =>
    intro t p sv h
    have hm := lkp_mem h
    have := (List.all_eq_true.1 hd) _ hm
    simp only [Bool.and_eq_true] at this
    have hne : t ≠ d := ne_of_beq (by simpa using this.1)
    have hn : notIn d p = true := this.2
    rw [PathOK.put hn, put_other hne]
    exact ⟨fun k => ((hg t p sv h).1 k).mono hp, (hg t p sv h).2⟩
theorem Res.gg_ok {g : Prop} : ∀ {r : Res} {K : SV → Prop}, r.gg g K → ∃ v, (g → ∀ O nx, r.ok O nx v O nx) ∧ K v
  | .val v, K, h => by simp only [Res.gg, force_iff] at h; exact ⟨v, fun _ _ _ => ⟨rfl, rfl, rfl⟩, h⟩
  | .need p k, K, h => by
    simp only [Res.gg] at h
    obtain ⟨v, h1, h2⟩ := Res.gg_ok h.k
    exact ⟨v, fun hg O nx => ⟨h.p hg, h1 hg O nx⟩, h2⟩
  | .get rs i f, K, h => by
    simp only [Res.gg, forceL_iff] at h
    obtain ⟨row, hr, h⟩ := h.out
    obtain ⟨v, h1, h2⟩ := Res.gg_ok h
    exact ⟨v, fun hg O nx => ⟨row, hr hg, h1 hg O nx⟩, h2⟩
  | .new _ _, _, h => h.out.elim
  | .upd _ _ _, _, h => h.out.elim
  | .repl _ _ _, _, h => h.out.elim
  | .ite _ _ _, _, h => h.out.elim
  | .fail, _, h => h.out.elim
theorem opG_sound (hT : TabOK M.P M.C.T) {a : Act} {fr : Fr} {gs : Gs} {path : List (Nat × Bool)} (H : HeapOK M η w O nx) (hf : FrOK η a fr) (hg : GsOK η a gs) (hp : PathOK a path) (o : Oper) {v : SV} {O' : Hps} {nx' : Nat} (hr : (opG M.C fr gs path O nx o.op).ok O nx v O' nx') : Sound M η w o a.eval v O' nx' := by
  have A : At M η w O nx a.eval (lookG fr gs path) := ⟨H, hT, fun x sv hx => lookG_den hf hg hp hx⟩
  obtain ⟨dst, op, ty, pos, af, gd⟩ := o
  cases op with
  | pick c x y =>
    simp only [opG, pickR] at hr
    split at hr
    case h_2 => exact hr.elim
    rename_i s
    split at hr
    case h_2 => exact hr.elim
    rename_i b hb
    have hbv := denBool (A.L _ _ hb)
    split at hr
    case h_2 => exact hr.elim
    rename_i p q hx hy
    refine A.val hr ⟨.bool (bif b then p else q), .inl ?_, rfl⟩
    cases b with
    | true =>
      have h2 := denBool (lookG_den hf hg (path := (s, true) :: path) (fun z hz => by
        rcases List.mem_cons.1 hz with rfl | hz
        · exact hbv
        · exact hp z hz) hx)
      simp [execOp, hbv, h2, asBool]
    | false =>
      have h2 := denBool (lookG_den hf hg (path := (s, false) :: path) (fun z hz => by
        rcases List.mem_cons.1 hz with rfl | hz
        · exact hbv
        · exact hp z hz) hy)
      simp [execOp, hbv, h2, asBool]
  | _ => exact op_sound A _ hr
theorem runG_sound (hT : TabOK M.P M.C.T) {ops : Array Oper} {Q : Exit → Act → World → Prop} : ∀ (rest : List Oper) {fr : Fr} {gs : Gs} {O : Hps} {nx : Nat} {K : Fr → Hps → Nat → Prop}, runG M ops.toList rest fr gs O nx K →
    ∀ {η : Env} {a : Act} {w : World}, Models M η fr O nx a w → GsOK η a gs → (∀ η fr O nx a w, Models M η fr O nx a w → K fr O nx → Q .normal a w) → wpList M.P ops Q rest a w
  | [], fr, gs, O, nx, K, h, η, a, w, hm, hg, hq => hq η fr O nx a w hm h
  | o :: rest, fr, gs, O, nx, K, h, η, a, w, hm, hg, hq => by
    unfold runG at h
    split at h
    · exact h.out.elim
    rename_i hd
    split at h
    · exact h.out.elim
    rename_i hfresh
    split at h
    · rename_i hgu
      refine wpList_want (wanted_none hgu) ?_
      have main : ∀ {op : Op}, o.op = op → ((opG M.C fr gs [] O nx op).go O nx fun v O nx => putK o.dst v fr fun fr => runG M ops.toList rest fr gs O nx K) → o.wp M.P a w (wpList M.P ops Q rest) Q := by
        intro op ho h
        subst ho
        obtain ⟨v, O', nx', h1, h2⟩ := Res.go_ok h
        obtain ⟨u, w', η', h3, h4, h5, h6, _⟩ := opG_sound hT hm.heap hm.frame hg (fun x hx => by cases hx) o h1
        obtain ⟨fr2, h7, h8⟩ := hm.put hd h4 h5 h6 h2
        exact wp_yields h3 (runG_sound hT rest h7 h8 (hg.put h4 hfresh) hq)
      split at h
      · rename_i c ho
        split at h
        · exact main ho h
        · split at h
          · rename_i f args hc
            rw [force1L_iff] at h
            refine wp_call ho hm.heap (fun x sv hx => lookG_den hm.frame hg (fun x hx => by cases hx) hx) hc h fun v r O' nx' η' w' h1 h2 h3 h4 => ?_
            rw [force_iff, forceO_iff] at h4
            obtain ⟨fr2, h7, h8⟩ := hm.put hd h1 h2 h3 h4
            exact runG_sound hT rest h7 h8 (hg.put h1 hfresh) hq
          · exact h.out.elim
      · exact main rfl h
    · rename_i j want hgu
      split at h
      · exact h.out.elim
      rename_i s hs
      split at h
      · exact h.out.elim
      rename_i d hdd
      split at h
      · exact h.out.elim
      rename_i hnot
      split at h
      · exact h.out.elim
      rename_i g hgb
      obtain ⟨v, h1, h2⟩ := Res.gg_ok h
      rw [hdd] at hd hfresh
      have hlt : d < a.tmps.size := by rw [hm.size]; exact dstOk_lt hd
      -- the state behind it, whichever way
      have next : ∀ {η' : Env} {u : Value} {w' : World}, η <+: η' → HeapOK M η' w' O nx → (PathOK a (gPath gs s want) → Den η' v u) → (¬ PathOK a (gPath gs s want) → u = undef) → wpList M.P ops Q rest (a.put o.dst u) w' := by
        intro η' u w' hp hH hv hn
        rw [hdd]
        refine runG_sound hT rest h2 ⟨hH, by rw [put_size]; exact hm.size, by rw [put_defers]; exact hm.defers, (hm.frame.mono hp).put hlt (by simp only [Den])⟩ ?_ hq
        intro t p sv ht
        rw [lkp_cons] at ht
        split at ht
        · rename_i e
          subst e
          injection ht with ht
          injection ht with ht1 ht2
          subst ht1 ht2
          rw [PathOK.put hnot, put_same hlt]
          exact ⟨hv, hn⟩
        · exact (hg.put (u := u) hp hfresh) t p sv ht
      by_cases hw : a.tmps.getD s undef = .bool want
      · have hp := gPath_ok hg hw
        have hgt := pathBool_true hm.frame hg hgb hp
        obtain ⟨u, w', η', h3, h4, h5, h6, _⟩ := opG_sound hT hm.heap hm.frame hg hp o (h1 hgt O nx)
        exact wpList_want ((wanted_some hgu).2 (yielded_of hs hw)) (wp_yields h3 (next h4 h5 (fun _ => h6) (fun h => absurd hp h)))
      · have hnp : ¬ PathOK a (gPath gs s want) := fun hp => hw (hp (s, want) (List.mem_cons_self ..))
        exact wpList_skip' (fun hh => by rw [wanted_some hgu] at hh; exact yielded_not hs hw hh) (next List.prefix_rfl hm.heap (fun h => absurd h hnp) (fun _ => rfl))
theorem region_sound (hT : TabOK M.P M.C.T) {id : Nat} {ops : Array Oper} {fr : Fr} {K : Fr → Hps → Nat → Prop} {Q : Exit → Act → World → Prop}
    (h : match guarded ops.toList && !(loudly ops.toList) with | true => runG M ops.toList ops.toList fr [] O nx K | false => runS M ops.toList ops.toList fr O nx K) {a : Act} (hm : Models M η fr O nx a w) (hq : ∀ η fr O nx a w, Models M η fr O nx a w → K fr O nx → Q .normal a w) :
    (Code.region id ops false).wp M.P Q a w := by
  refine wp_region_list ?_
  split at h
  · exact runG_sound hT _ h hm (fun t p sv ht => by simp [lkp] at ht) hq
  · exact runS_sound hT _ h hm hq
/-- THE WALK IS SOUND. -/
theorem run_sound (hT : TabOK M.P M.C.T) : ∀ (c : Code) {fr : Fr} {O : Hps} {nx : Nat} {Q : Post}, run M c fr O nx Q → Walk M c fr O nx Q
  | .skip, fr, O, nx, Q, h => fun η a w hm => wp_skip ⟨η, fr, O, nx, hm, h⟩
  | .label l, fr, O, nx, Q, h => fun η a w hm => wp_label ⟨η, fr, O, nx, hm, h⟩
  | .ret, fr, O, nx, Q, h => fun η a w hm => wp_ret ⟨η, fr, O, nx, hm, h⟩
  | .exit id, fr, O, nx, Q, h => fun η a w hm => wp_exit ⟨η, fr, O, nx, hm, h⟩
  | .region id ops draw, fr, O, nx, Q, h => by
    simp only [run] at h
    cases draw with
    | true => exact h.out
    | false => exact fun η a w hm => region_sound hT h hm fun η fr O nx a w hm hk => ⟨η, fr, O, nx, hm, hk⟩
  | .seq x y, fr, O, nx, Q, h => fun η a w hm => by
    refine wp_seq (Code.wp_mono ?_ (run_sound hT x h η a w hm))
    intro e a w hq
    cases e with
    | normal => obtain ⟨η, fr, O, nx, hm, hq⟩ := hq; exact run_sound hT y hq η a w hm
    | exit id => exact hq
    | ret => exact hq
    | goto l => exact hq
    | panic ch => exact hq
    | outgrown => exact hq
  | .cond c x y, fr, O, nx, Q, h => fun η a w hm => by
    simp only [run] at h
    split at h
    case h_2 => exact h.out.elim
    rename_i b hb
    have hbv := denBool (lookF_den hm.frame hb)
    split at h
    · rename_i t
      refine wp_cond_split hbv (fun e => ?_) (fun e => ?_)
      · subst e
        exact run_sound hT x (h.t rfl) η a w ⟨hm.heap, hm.size, hm.defers, hm.frame.know hbv⟩
      · subst e
        exact run_sound hT y (h.f rfl) η a w ⟨hm.heap, hm.size, hm.defers, hm.frame.know hbv⟩
    · refine wp_cond_split hbv (fun e => ?_) (fun e => ?_)
      · subst e; exact run_sound hT x (h.t rfl) η a w hm
      · subst e; exact run_sound hT y (h.f rfl) η a w hm
  | .block id body, fr, O, nx, Q, h => fun η a w hm => by
    refine wp_block (Code.wp_mono ?_ (run_sound hT body h η a w hm))
    intro e a w hq
    cases e with
    | normal => exact hq
    | exit i =>
      obtain ⟨η, fr, O, nx, hm, hq⟩ := hq
      simp only [Exit.inBlock]
      simp only at hq
      split at hq
      · rename_i e
        have e := beq_eq e
        subst e
        rw [if_pos rfl]
        exact ⟨η, fr, O, nx, hm, hq⟩
      · rename_i e
        rw [if_neg (ne_of_beq e)]
        exact ⟨η, fr, O, nx, hm, hq⟩
    | ret => exact hq
    | goto l => exact hq
    | panic ch => exact hq
    | outgrown => exact hq
  | .loop body, fr, O, nx, Q, h => fun η a w hm b k cs =>
    let ⟨e, a', w', hq, harr⟩ := h.out η a w hm b k cs
    ⟨e, a', w', hq, .of_steps (.one step_loop) harr⟩
  | .scope body, fr, O, nx, Q, h => fun η a w hm => by
    refine wp_scope_straight (Code.wp_mono ?_ (run_sound hT body h η a w hm))
    intro e a w hq
    cases e <;> exact hq
  | .rangeFunc .., fr, O, nx, Q, h => h.out.elim
  | .goto _, fr, O, nx, Q, h => h.out.elim
  | .refuse _, fr, O, nx, Q, h => h.out.elim
/-- From one state to another that says less. -/
structure GOES (M : Mx) (fr : Fr) (O : Hps) (nx : Nat) (fr' : Fr) (O' : Hps) (nx' : Nat) : Prop where
  out : ∀ η a w, Models M η fr O nx a w → ∃ η', Models M η' fr' O' nx' a w
/-- A loop: what holds at each round's head, by a tale x of one's own; a measure that each round lowers. -/
theorem LOOP.inv {body : Code} {fr : Fr} {Q : Post} (hT : TabOK M.P M.C.T) {X : Type} (P : X → Prop) (I : X → Fr × Hps × Nat) (μ : X → Nat) (x0 : X) (hP : P x0) (h0 : GOES M fr O nx (I x0).1 (I x0).2.1 (I x0).2.2)
    (hr : ∀ x, P x → run M body (I x).1 (I x).2.1 (I x).2.2 fun e fr O nx => match e with
      | .normal => ∃ x', P x' ∧ μ x' < μ x ∧ GOES M fr O nx (I x').1 (I x').2.1 (I x').2.2
      | e => Q e fr O nx) : LOOP M body fr O nx Q := by
  refine ⟨fun η a w hm => ?_⟩
  obtain ⟨η', hm0⟩ := h0.out η a w hm
  intro b k cs
  have key : ∀ n x η a w, P x → μ x = n → Models M η (I x).1 (I x).2.1 (I x).2.2 a w →
      ∃ e a' w', liftQ M Q e a' w' ∧ Arrives M.P (lone (b.at a (.code body :: .inLoop body :: k)) cs w) b k cs e a' w' := by
    intro n
    induction n using Nat.strongRecOn with
    | _ n ih =>
      intro x η a w hx hn hm
      obtain ⟨e, a', w', hq, harr⟩ := run_sound hT body (hr x hx) η a w hm b (.inLoop body :: k) cs
      cases e with
      | normal =>
        obtain ⟨η1, fr1, O1, nx1, hm1, x', hx', hlt, hnext⟩ := hq
        obtain ⟨η2, hm2⟩ := hnext.out η1 a' w' hm1
        obtain ⟨e2, a2, w2, hq2, harr2⟩ := ih (μ x') (hn ▸ hlt) x' η2 a' w' hx' rfl hm2
        exact ⟨e2, a2, w2, hq2, .of_steps (Steps.trans harr (.one step_inLoop)) harr2⟩
      | exit id =>
        obtain ⟨η1, fr1, O1, nx1, hm1, hq⟩ := hq
        exact ⟨.exit id, a', w', ⟨η1, fr1, O1, nx1, hm1, hq⟩, .pass (x := .inLoop body) rfl (fun _ _ => .inl (by simp)) harr⟩
      | ret =>
        obtain ⟨η1, fr1, O1, nx1, hm1, hq⟩ := hq
        exact ⟨.ret, a', w', ⟨η1, fr1, O1, nx1, hm1, hq⟩, .pass (x := .inLoop body) rfl (fun _ _ => .inl (by simp)) harr⟩
      | goto l => exact hq.elim
      | panic ch => exact hq.elim
      | outgrown => exact hq.elim
  exact key _ x0 η' a w hP rfl hm0
/-- One round of a loop, and what is left of it. -/
theorem LOOP.once {body : Code} {fr : Fr} {Q : Post} (hT : TabOK M.P M.C.T)
    (hr : run M body fr O nx fun e fr O nx => match e with
      | .normal => LOOP M body fr O nx Q
      | e => Q e fr O nx) : LOOP M body fr O nx Q := by
  refine ⟨fun η a w hm => ?_⟩
  intro b k cs
  obtain ⟨e, a', w', hq, harr⟩ := run_sound hT body hr η a w hm b (.inLoop body :: k) cs
  cases e with
  | normal =>
    obtain ⟨η1, fr1, O1, nx1, hm1, hq⟩ := hq
    obtain ⟨e2, a2, w2, hq2, harr2⟩ := hq.out η1 a' w' hm1 b k cs
    exact ⟨e2, a2, w2, hq2, .of_steps (Steps.trans harr (.one step_inLoop)) harr2⟩
  | exit id =>
    obtain ⟨η1, fr1, O1, nx1, hm1, hq⟩ := hq
    exact ⟨.exit id, a', w', ⟨η1, fr1, O1, nx1, hm1, hq⟩, (.pass (x := .inLoop body) rfl (fun _ _ => .inl (by simp)) harr)⟩
  | ret =>
    obtain ⟨η1, fr1, O1, nx1, hm1, hq⟩ := hq
    exact ⟨.ret, a', w', ⟨η1, fr1, O1, nx1, hm1, hq⟩, (.pass (x := .inLoop body) rfl (fun _ _ => .inl (by simp)) harr)⟩
  | goto l => exact hq.elim
  | panic ch => exact hq.elim
  | outgrown => exact hq.elim
end
end Go.Sx
/- Contracts: what a function comes to, said in names of its own; how it is shown by the walk, and how it is used at a call. Conditions: none. -/
set_option linter.unusedVariables false
set_option linter.unusedSimpArgs false
namespace Go.Sx
open Go

/-! ### Other names for the same blocks -/
def renB (σ : Nat → Nat) : Blk → Blk
  | .glob g => .glob g
  | .loc i => .loc (σ i)
mutual
def ren (σ : Nat → Nat) : SV → SV
  | .bool b => .bool b
  | .int k n => .int k n
  | .str s => .str s
  | .ptr b r es c => .ptr (renB σ b) r es c
  | .sl b r es len lim => .sl (renB σ b) r es len lim
  | .val v => .val v
  | .agg cs => .agg (renL σ cs)
  | .arr es rs => .arr es (renLL σ rs)
  | .tup vs => .tup (renL σ vs)
  | .ifc t v => .ifc t (ren σ v)
  | .fn f a b => .fn f (renL σ a) (renL σ b)
  | .any => .any
def renL (σ : Nat → Nat) : List SV → List SV
  | [] => []
  | c :: cs => ren σ c :: renL σ cs
def renLL (σ : Nat → Nat) : List (List SV) → List (List SV)
  | [] => []
  | r :: rs => renL σ r :: renLL σ rs
end
def renH (σ : Nat → Nat) : Hp → Hp
  | .box row => .box (renL σ row)
  | .rows es rs => .rows es (renLL σ rs)
  | .siter s p => .siter s p
  | .bld T e l => .bld T e l
theorem plainLL_map {α : Type} (f : α → List SV) (h : ∀ x, plainL (f x) = true) : ∀ xs : List α, plainLL (xs.map f) = true
  | [] => rfl
  | x :: xs => by simp only [List.map_cons, plainLL, h x, plainLL_map f h xs, Bool.and_self]
theorem plainLL_append : ∀ {xs ys : List (List SV)}, plainLL xs = true → plainLL ys = true → plainLL (xs ++ ys) = true
  | [], ys, _, h => h
  | x :: xs, ys, h, k => by
    simp only [plainLL, Bool.and_eq_true] at h
    simp only [List.cons_append, plainLL, h.1, plainLL_append h.2 k, Bool.and_self]
mutual
theorem ren_plain (σ : Nat → Nat) : ∀ {v : SV}, plain v = true → ren σ v = v
  | .bool _, _ => rfl
  | .int _ _, _ => rfl
  | .str _, _ => rfl
  | .val _, _ => rfl
  | .any, _ => rfl
  | .ptr (.glob _) _ _ _, _ => rfl
  | .ptr (.loc _) _ _ _, h => by simp [plain] at h
  | .sl (.glob _) _ _ _ _, _ => rfl
  | .sl (.loc _) _ _ _ _, h => by simp [plain] at h
  | .agg cs, h => by simp only [plain] at h; simp only [ren, renL_plain σ h]
  | .arr _ rs, h => by simp only [plain] at h; simp only [ren, renLL_plain σ h]
  | .tup vs, h => by simp only [plain] at h; simp only [ren, renL_plain σ h]
  | .ifc _ v, h => by simp only [plain] at h; simp only [ren, ren_plain σ h]
  | .fn _ a b, h => by simp only [plain, Bool.and_eq_true] at h; simp only [ren, renL_plain σ h.1, renL_plain σ h.2]
theorem renL_plain (σ : Nat → Nat) : ∀ {vs : List SV}, plainL vs = true → renL σ vs = vs
  | [], _ => rfl
  | c :: cs, h => by simp only [plainL, Bool.and_eq_true] at h; simp only [renL, ren_plain σ h.1, renL_plain σ h.2]
theorem renLL_plain (σ : Nat → Nat) : ∀ {vs : List (List SV)}, plainLL vs = true → renLL σ vs = vs
  | [], _ => rfl
  | c :: cs, h => by simp only [plainLL, Bool.and_eq_true] at h; simp only [renLL, renL_plain σ h.1, renLL_plain σ h.2]
end
theorem renH_plain (σ : Nat → Nat) {h : Hp} (p : plainH h = true) : renH σ h = h := by
  cases h <;> simp only [plainH] at p <;> simp only [renH, renL_plain σ, renLL_plain σ, p]
section
variable {η η' : Env} {σ : Nat → Nat}
def Fwd (η η' : Env) (σ : Nat → Nat) : Prop := ∀ i x, η[i]? = some x → η'[σ i]? = some x
theorem Fwd.get (h : Fwd η η' σ) {b : Blk} {x : Option Ent} (hb : η.get b = some x) : η'.get (renB σ b) = some x := by
  cases b with
  | glob g => exact hb
  | loc i => exact h i x hb
mutual
theorem Den.ren (h : Fwd η η' σ) : ∀ {sv : SV} {v : Value}, Den η sv v → Den η' (ren σ sv) v
  | .bool _, _, d => d
  | .int _ _, _, d => d
  | .str _, _, d => d
  | .ptr b r es c, v, d => by
    simp only [Den, Go.Sx.ren] at d ⊢
    obtain ⟨e, h1, h2⟩ := d
    exact ⟨e, h.get h1, h2⟩
  | .sl b r es len lim, v, d => by
    simp only [Den, Go.Sx.ren] at d ⊢
    rcases d with ⟨h1, h2⟩ | ⟨e, o, h1, h2⟩
    · exact .inl ⟨h.get h1, h2⟩
    · exact .inr ⟨e, o, h.get h1, h2⟩
  | .val _, _, d => d
  | .agg cs, v, d => by
    simp only [Den, Go.Sx.ren] at d ⊢
    obtain ⟨vs, h1, h2, h3⟩ := d
    exact ⟨vs, h1, DenL.ren h h2, h3⟩
  | .arr es rs, v, d => by
    simp only [Den, Go.Sx.ren] at d ⊢
    obtain ⟨vs, h1, h2, h3⟩ := d
    exact ⟨vs, h1, DenLL.ren h h2, h3⟩
  | .tup ts, v, d => by
    simp only [Den, Go.Sx.ren] at d ⊢
    obtain ⟨vs, h1, h2⟩ := d
    exact ⟨vs, h1, DenL.ren h h2⟩
  | .ifc t x, v, d => by
    simp only [Den, Go.Sx.ren] at d ⊢
    obtain ⟨u, h1, h2⟩ := d
    exact ⟨u, h1, Den.ren h h2⟩
  | .fn f a b, v, d => by
    simp only [Den, Go.Sx.ren] at d ⊢
    obtain ⟨us, vs, h1, h2, h3⟩ := d
    exact ⟨us, vs, h1, DenL.ren h h2, DenL.ren h h3⟩
  | .any, _, d => d
theorem DenL.ren (h : Fwd η η' σ) : ∀ {cs : List SV} {vs : List Value}, DenL η cs vs → DenL η' (renL σ cs) vs
  | [], _, d => d
  | c :: cs, vs, d => by
    simp only [DenL, renL] at d ⊢
    obtain ⟨u, us, h1, h2, h3⟩ := d
    exact ⟨u, us, h1, Den.ren h h2, DenL.ren h h3⟩
theorem DenLL.ren {es : Nat} (h : Fwd η η' σ) : ∀ {rs : List (List SV)} {vs : List Value}, DenLL η es rs vs → DenLL η' es (renLL σ rs) vs
  | [], _, d => d
  | r :: rs, vs, d => by
    simp only [DenLL, renLL] at d ⊢
    obtain ⟨us, ws, h1, h2, h3, h4⟩ := d
    exact ⟨us, ws, h1, h2, DenL.ren h h3, DenLL.ren h h4⟩
end
def Bwd (η η' : Env) (σ : Nat → Nat) (k : Nat) : Prop := ∀ i x, i < k → η[σ i]? = some x → η'[i]? = some x
mutual
/-- All names lie below k. -/
def below (k : Nat) : SV → Bool
  | .bool _ | .int _ _ | .str _ | .val _ | .any => true
  | .ptr b _ _ _ => belowB k b
  | .sl b _ _ _ _ => belowB k b
  | .agg cs => belowL k cs
  | .arr _ rs => belowLL k rs
  | .tup vs => belowL k vs
  | .ifc _ v => below k v
  | .fn _ a b => belowL k a && belowL k b
def belowL (k : Nat) : List SV → Bool
  | [] => true
  | c :: cs => below k c && belowL k cs
def belowLL (k : Nat) : List (List SV) → Bool
  | [] => true
  | r :: rs => belowL k r && belowLL k rs
def belowB (k : Nat) : Blk → Bool
  | .glob _ => true
  | .loc i => Nat.blt i k
end
def belowH (k : Nat) : Hp → Bool
  | .box row => belowL k row
  | .rows _ rs => belowLL k rs
  | .siter _ _ => true
  | .bld _ _ _ => true
mutual
theorem plain_below (k : Nat) : ∀ {v : SV}, plain v = true → below k v = true
  | .bool _, _ => rfl
  | .int _ _, _ => rfl
  | .str _, _ => rfl
  | .val _, _ => rfl
  | .any, _ => rfl
  | .ptr (.glob _) _ _ _, _ => rfl
  | .ptr (.loc _) _ _ _, h => by simp [plain] at h
  | .sl (.glob _) _ _ _ _, _ => rfl
  | .sl (.loc _) _ _ _ _, h => by simp [plain] at h
  | .agg cs, h => by simp only [plain] at h; simp only [below, plainL_below k h]
  | .arr _ rs, h => by simp only [plain] at h; simp only [below, plainLL_below k h]
  | .tup vs, h => by simp only [plain] at h; simp only [below, plainL_below k h]
  | .ifc _ v, h => by simp only [plain] at h; simp only [below, plain_below k h]
  | .fn _ a b, h => by simp only [plain, Bool.and_eq_true] at h; simp only [below, plainL_below k h.1, plainL_below k h.2, Bool.and_self]
theorem plainL_below (k : Nat) : ∀ {vs : List SV}, plainL vs = true → belowL k vs = true
  | [], _ => rfl
  | c :: cs, h => by simp only [plainL, Bool.and_eq_true] at h; simp only [belowL, plain_below k h.1, plainL_below k h.2, Bool.and_self]
theorem plainLL_below (k : Nat) : ∀ {vs : List (List SV)}, plainLL vs = true → belowLL k vs = true
  | [], _ => rfl
  | c :: cs, h => by simp only [plainLL, Bool.and_eq_true] at h; simp only [belowLL, plainL_below k h.1, plainLL_below k h.2, Bool.and_self]
end
theorem plainH_below (k : Nat) {h : Hp} (p : plainH h = true) : belowH k h = true := by
  cases h <;> simp only [plainH] at p <;> simp only [belowH, plainL_below k, plainLL_below k, p]
variable {k : Nat}
theorem Bwd.get (h : Bwd η η' σ k) {b : Blk} {x : Option Ent} (hk : belowB k b = true) (hb : η.get (renB σ b) = some x) : η'.get b = some x := by
  cases b with
  | glob g => exact hb
  | loc i => exact h i x (by simpa [belowB] using hk) hb
mutual
theorem Den.unren (h : Bwd η η' σ k) : ∀ {sv : SV} {v : Value}, below k sv = true → Den η (ren σ sv) v → Den η' sv v
  | .bool _, _, _, d => d
  | .int _ _, _, _, d => d
  | .str _, _, _, d => d
  | .ptr b r es c, v, hk, d => by
    simp only [Den, Go.Sx.ren] at d ⊢
    obtain ⟨e, h1, h2⟩ := d
    exact ⟨e, h.get (by simpa [below] using hk) h1, h2⟩
  | .sl b r es len lim, v, hk, d => by
    simp only [Den, Go.Sx.ren] at d ⊢
    rcases d with ⟨h1, h2⟩ | ⟨e, o, h1, h2⟩
    · exact .inl ⟨h.get (by simpa [below] using hk) h1, h2⟩
    · exact .inr ⟨e, o, h.get (by simpa [below] using hk) h1, h2⟩
  | .val _, _, _, d => d
  | .agg cs, v, hk, d => by
    simp only [below] at hk
    simp only [Den, Go.Sx.ren] at d ⊢
    obtain ⟨vs, h1, h2, h3⟩ := d
    exact ⟨vs, h1, DenL.unren h hk h2, h3⟩
  | .arr es rs, v, hk, d => by
    simp only [below] at hk
    simp only [Den, Go.Sx.ren] at d ⊢
    obtain ⟨vs, h1, h2, h3⟩ := d
    exact ⟨vs, h1, DenLL.unren h hk h2, h3⟩
  | .tup ts, v, hk, d => by
    simp only [below] at hk
    simp only [Den, Go.Sx.ren] at d ⊢
    obtain ⟨vs, h1, h2⟩ := d
    exact ⟨vs, h1, DenL.unren h hk h2⟩
  | .ifc t x, v, hk, d => by
    simp only [below] at hk
    simp only [Den, Go.Sx.ren] at d ⊢
    obtain ⟨u, h1, h2⟩ := d
    exact ⟨u, h1, Den.unren h hk h2⟩
  | .fn f a b, v, hk, d => by
    simp only [below, Bool.and_eq_true] at hk
    simp only [Den, Go.Sx.ren] at d ⊢
    obtain ⟨us, vs, h1, h2, h3⟩ := d
    exact ⟨us, vs, h1, DenL.unren h hk.1 h2, DenL.unren h hk.2 h3⟩
  | .any, _, _, d => d
theorem DenL.unren (h : Bwd η η' σ k) : ∀ {cs : List SV} {vs : List Value}, belowL k cs = true → DenL η (renL σ cs) vs → DenL η' cs vs
  | [], _, _, d => d
  | c :: cs, vs, hk, d => by
    simp only [belowL, Bool.and_eq_true] at hk
    simp only [DenL, renL] at d ⊢
    obtain ⟨u, us, h1, h2, h3⟩ := d
    exact ⟨u, us, h1, Den.unren h hk.1 h2, DenL.unren h hk.2 h3⟩
theorem DenLL.unren {es : Nat} (h : Bwd η η' σ k) : ∀ {rs : List (List SV)} {vs : List Value}, belowLL k rs = true → DenLL η es (renLL σ rs) vs → DenLL η' es rs vs
  | [], _, _, d => d
  | r :: rs, vs, hk, d => by
    simp only [belowLL, Bool.and_eq_true] at hk
    simp only [DenLL, renLL] at d ⊢
    obtain ⟨us, ws, h1, h2, h3, h4⟩ := d
    exact ⟨us, ws, h1, h2, DenL.unren h hk.1 h3, DenLL.unren h hk.2 h4⟩
end
theorem renL_get : ∀ {row : List SV} {j : Nat}, (renL σ row)[j]? = (row[j]?).map (ren σ)
  | [], j => by simp [renL]
  | c :: cs, 0 => by simp [renL]
  | c :: cs, j + 1 => by simp [renL, renL_get (row := cs) (j := j)]
theorem renL_len : ∀ {row : List SV}, (renL σ row).length = row.length
  | [] => rfl
  | c :: cs => by simp [renL, renL_len (row := cs)]
theorem renLL_get : ∀ {rs : List (List SV)} {j : Nat}, (renLL σ rs)[j]? = (rs[j]?).map (renL σ)
  | [], j => by simp [renLL]
  | c :: cs, 0 => by simp [renLL]
  | c :: cs, j + 1 => by simp [renLL, renLL_get (rs := cs) (j := j)]
theorem renLL_len : ∀ {row : List (List SV)}, (renLL σ row).length = row.length
  | [] => rfl
  | c :: cs => by simp [renLL, renLL_len (row := cs)]
theorem belowL_get : ∀ {row : List SV} {j : Nat} {c : SV}, belowL k row = true → row[j]? = some c → below k c = true
  | [], j, c, _, h => by simp at h
  | d :: cs, 0, c, hk, h => by simp only [belowL, Bool.and_eq_true] at hk; simp at h; subst h; exact hk.1
  | d :: cs, j + 1, c, hk, h => by simp only [belowL, Bool.and_eq_true] at hk; simp at h; exact belowL_get hk.2 h
theorem belowLL_get : ∀ {rs : List (List SV)} {j : Nat} {c : List SV}, belowLL k rs = true → rs[j]? = some c → belowL k c = true
  | [], j, c, _, h => by simp at h
  | d :: cs, 0, c, hk, h => by simp only [belowLL, Bool.and_eq_true] at hk; simp at h; subst h; exact hk.1
  | d :: cs, j + 1, c, hk, h => by simp only [belowLL, Bool.and_eq_true] at hk; simp at h; exact belowLL_get hk.2 h
theorem CellsAt.ren (h : Fwd η η' σ) {arr : Array Value} {o : Nat} {row : List SV} (d : CellsAt η arr o row) : CellsAt η' arr o (renL σ row) := by
  intro j sv hj
  rw [renL_get] at hj
  cases hr : row[j]? with
  | none => rw [hr] at hj; cases hj
  | some c =>
    rw [hr] at hj
    simp only [Option.map_some, Option.some.injEq] at hj
    subst hj
    obtain ⟨v, h1, h2, h3⟩ := d j c hr
    exact ⟨v, h1, h2, h3.ren h⟩
theorem CellsAt.unren (h : Bwd η η' σ k) {arr : Array Value} {o : Nat} {row : List SV} (hk : belowL k row = true) (d : CellsAt η arr o (renL σ row)) : CellsAt η' arr o row := by
  intro j sv hj
  obtain ⟨v, h1, h2, h3⟩ := d j (Go.Sx.ren σ sv) (by rw [renL_get, hj]; rfl)
  exact ⟨v, h1, h2, h3.unren h (belowL_get hk hj)⟩
theorem HpSat.ren (h : Fwd η η' σ) {w : World} {own : Bool} {i : Nat} {hp : Hp} (d : HpSat η w own (.loc i) hp) : HpSat η' w own (.loc (σ i)) (renH σ hp) := by
  have hg : ∀ {x}, η.get (.loc i) = some x → η'.get (.loc (σ i)) = some x := fun hx => h.get (b := .loc i) hx
  cases hp with
  | box row =>
    simp only [HpSat, renH] at d ⊢
    obtain ⟨e, arr, T, fz, h1, h2, h3, h4⟩ := d
    exact ⟨e, arr, T, fz, hg h1, h2, h3, h4.ren h⟩
  | rows es rs =>
    simp only [HpSat, renH] at d ⊢
    rcases d with ⟨h1, rfl⟩ | ⟨e, arr, T, fz, h1, h2, h3, h4⟩
    · exact .inl ⟨hg h1, rfl⟩
    · refine .inr ⟨e, arr, T, fz, hg h1, h2, by rw [renLL_len]; exact h3, fun j row hr => ?_⟩
      rw [renLL_get] at hr
      cases hq : rs[j]? with
      | none => rw [hq] at hr; cases hr
      | some q =>
        rw [hq] at hr
        simp only [Option.map_some, Option.some.injEq] at hr
        subst hr
        rw [renL_len]
        exact ⟨(h4 j q hq).1, (h4 j q hq).2.ren h⟩
  | siter s p =>
    simp only [HpSat, renH] at d ⊢
    obtain ⟨e, h1, h2⟩ := d
    exact ⟨e, hg h1, h2⟩
  | bld T t l =>
    simp only [HpSat, renH] at d ⊢
    obtain ⟨e, h1, h2⟩ := d
    exact ⟨e, hg h1, h2⟩
theorem HpSat.unren (h : Bwd η η' σ k) {w : World} {own : Bool} {i : Nat} (hi : i < k) {hp : Hp} (hk : belowH k hp = true) (d : HpSat η w own (.loc (σ i)) (renH σ hp)) : HpSat η' w own (.loc i) hp := by
  have hg : ∀ {x}, η.get (.loc (σ i)) = some x → η'.get (.loc i) = some x := fun hx => h i _ hi hx
  cases hp with
  | box row =>
    simp only [HpSat, renH] at d ⊢
    obtain ⟨e, arr, T, fz, h1, h2, h3, h4⟩ := d
    exact ⟨e, arr, T, fz, hg h1, h2, h3, h4.unren h hk⟩
  | rows es rs =>
    simp only [HpSat, renH] at d ⊢
    rcases d with ⟨h1, h0⟩ | ⟨e, arr, T, fz, h1, h2, h3, h4⟩
    · refine .inl ⟨hg h1, ?_⟩
      have := congrArg List.length h0
      rw [renLL_len] at this
      exact List.length_eq_zero_iff.1 this
    · refine .inr ⟨e, arr, T, fz, hg h1, h2, by rw [renLL_len] at h3; exact h3, fun j row hr => ?_⟩
      obtain ⟨p1, p2⟩ := h4 j (renL σ row) (by rw [renLL_get, hr]; rfl)
      rw [renL_len] at p1
      exact ⟨p1, p2.unren h (belowLL_get hk hr)⟩
  | siter s p =>
    simp only [HpSat, renH] at d ⊢
    obtain ⟨e, h1, h2⟩ := d
    exact ⟨e, hg h1, h2⟩
  | bld T t l =>
    simp only [HpSat, renH] at d ⊢
    obtain ⟨e, h1, h2⟩ := d
    exact ⟨e, hg h1, h2⟩
end

theorem CellsAt.plain {η η' : Env} {arr : Array Value} {o : Nat} {row : List SV} (hp : plainL row = true) (d : CellsAt η arr o row) : CellsAt η' arr o row :=
  CellsAt.unren (σ := id) (k := 0) (fun i x hi => by omega) (plainL_below 0 hp) (by rw [renL_plain _ hp]; exact d)
theorem plainLL_get : ∀ {rs : List (List SV)} {i : Nat} {row : List SV}, plainLL rs = true → rs[i]? = some row → plainL row = true
  | [], i, row, _, h => by simp at h
  | r :: rs, 0, row, hp, h => by simp only [plainLL, Bool.and_eq_true] at hp; simp at h; subst h; exact hp.1
  | r :: rs, i + 1, row, hp, h => by simp only [plainLL, Bool.and_eq_true] at hp; simp at h; exact plainLL_get hp.2 h
/-- What a package variable plainly holds reads the same by any names. -/
theorem HpSat.plain {η η' : Env} {w : World} {own : Bool} {g : Nat} {h : Hp} (d : HpSat η w own (.glob g) h) (hp : plainH h = true) : HpSat η' w own (.glob g) h := by
  cases h with
  | box row =>
    simp only [plainH] at hp
    simp only [HpSat] at d ⊢
    obtain ⟨e, arr, T, fz, h1, h2, h3, h4⟩ := d
    exact ⟨e, arr, T, fz, h1, h2, h3, h4.plain hp⟩
  | rows es rs =>
    simp only [plainH] at hp
    simp only [HpSat] at d ⊢
    rcases d with ⟨h1, h2⟩ | ⟨e, arr, T, fz, h1, h2, h3, h4⟩
    · exact .inl ⟨h1, h2⟩
    · exact .inr ⟨e, arr, T, fz, h1, h2, h3, fun i row hr => ⟨(h4 i row hr).1, (h4 i row hr).2.plain (plainLL_get hp hr)⟩⟩
  | siter s p => exact d
  | bld T t l => exact d

/-! ### Contracts -/
/-- The blocks that a heap names. -/
def blocksOf (η : Env) (w : World) (O : Hps) : Nat → Prop := fun g => ∃ i h, lkp i O = some h ∧ feet η w (.loc i) h g
theorem kid_renH {σ : Nat → Nat} {w : World} {g k : Nat} {h : Hp} : kid w g (renH σ h) k ↔ kid w g h k := by cases h <;> exact Iff.rfl
theorem feet.ren {σ : Nat → Nat} {η η' : Env} {w : World} {i k : Nat} {h : Hp} (hg : ∀ x, η[i]? = some x → η'[σ i]? = some x) (f : feet η w (.loc i) h k) : feet η' w (.loc (σ i)) (renH σ h) k :=
  let ⟨e, h1, h2⟩ := f; ⟨e, hg _ h1, h2.imp id kid_renH.2⟩
theorem feet.unren {σ : Nat → Nat} {η η' : Env} {w : World} {i k : Nat} {h : Hp} (hg : ∀ x, η'[σ i]? = some x → η[i]? = some x) (f : feet η' w (.loc (σ i)) (renH σ h) k) : feet η w (.loc i) h k :=
  let ⟨e, h1, h2⟩ := f; ⟨e, hg _ h1, h2.imp id kid_renH.1⟩
/-- A function's contract, in names 0 .. k-1: from arguments, with what it may write (O) and what it only reads (S), to a result, what it then owns, and how many names there are. -/
def shB (S : Hps) : List (Blk × Hp) := S.map fun p => (Blk.loc p.1, p.2)
structure Does (P : Program) (T : Tab) (f : FuncId) (k : Nat) (args : List SV) (O S : Hps) (Q : SV → Hps → Nat → Prop) : Prop where
  out : ∀ (M : Mx) (vs : List Value), M.P = P → M.C.T = T → M.F = blocksOf M.η0 M.w0 O → M.C.S = shB S → HeapOK M M.η0 M.w0 O k → DenL M.η0 args vs →
    Invokes M.P f ⟨vs⟩ M.w0 fun v w' => ∃ r O' nx' η', Q r O' nx' ∧ M.η0 <+: η' ∧ HeapOK M η' w' O' nx' ∧ Den η' r v
end Go.Sx
/- Contracts: how one is shown by the walk, and how it is used at a call. Conditions: none. -/
set_option linter.unusedVariables false
set_option linter.unusedSimpArgs false
namespace Go.Sx
open Go

/-! ### The way in, and out -/
def argFr : Nat → List SV → Fr
  | _, [] => []
  | n, v :: vs => (n, v) :: argFr (n + 1) vs
def Res.gv : Res → (SV → Prop) → Prop
  | .val v, K => force v K
  | .need p k, K => NEED p (k.gv K)
  | .get rs i f, K => GET rs i fun row => forceL row fun row => (f row).gv K
  | _, _ => STOP "result"
def retGo (C : Cx) (fr : Fr) (O : Hps) : List ResultVar → (List SV → Prop) → Prop
  | [], K => K []
  | .tmp t :: r, K => match lkp t fr with
    | some v => retGo C fr O r fun vs => K (v :: vs)
    | none => STOP "result"
  | .cell a t :: r, K => match lkp a fr with
    | some p => (loadR C.T (hLook C O) t p).gv fun v => retGo C fr O r fun vs => K (v :: vs)
    | none => STOP "result"
def oneOf : List SV → SV
  | [v] => v
  | vs => .tup vs
structure FIN (M : Mx) (O : Hps) (nx : Nat) (r : SV) (Q : SV → Hps → Nat → Prop) : Prop where
  out : ∀ η w v, HeapOK M η w O nx → Den η r v → ∃ r' O' nx' η', Q r' O' nx' ∧ M.η0 <+: η' ∧ HeapOK M η' w O' nx' ∧ Den η' r' v
def finGo (M : Mx) (O : Hps) (nx : Nat) (Q : SV → Hps → Nat → Prop) : List SV → Prop
  | [v] => FIN M O nx v Q
  | vs => FIN M O nx (.tup vs) Q
theorem finGo_eq {M : Mx} {O : Hps} {nx : Nat} {Q : SV → Hps → Nat → Prop} : ∀ vs, finGo M O nx Q vs = FIN M O nx (oneOf vs) Q
  | [] => rfl
  | [_] => rfl
  | _ :: _ :: _ => rfl
/-- What stands at a function's end. -/
def endQ (M : Mx) (res : List ResultVar) (Q : SV → Hps → Nat → Prop) : Post
  | .normal, fr, O, nx => retGo M.C fr O res fun vs => finGo M O nx Q vs
  | .ret, fr, O, nx => retGo M.C fr O res fun vs => finGo M O nx Q vs
  | .exit _, _, _, _ => STOP "exit"
section
variable {M : Mx} {η : Env} {w : World} {O : Hps} {nx : Nat}
theorem Res.gv_ok : ∀ {r : Res} {K : SV → Prop}, r.gv K → ∃ v, (∀ O nx, r.ok O nx v O nx) ∧ K v
  | .val v, K, h => by simp only [Res.gv, force_iff] at h; exact ⟨v, fun _ _ => ⟨rfl, rfl, rfl⟩, h⟩
  | .need p k, K, h => by
    simp only [Res.gv] at h
    obtain ⟨v, h1, h2⟩ := Res.gv_ok h.k
    exact ⟨v, fun O nx => ⟨h.p, h1 O nx⟩, h2⟩
  | .get rs i f, K, h => by
    simp only [Res.gv, forceL_iff] at h
    obtain ⟨row, hr, h⟩ := h.out
    obtain ⟨v, h1, h2⟩ := Res.gv_ok h
    exact ⟨v, fun O nx => ⟨row, hr, h1 O nx⟩, h2⟩
  | .new _ _, _, h => h.out.elim
  | .upd _ _ _, _, h => h.out.elim
  | .repl _ _ _, _, h => h.out.elim
  | .ite _ _ _, _, h => h.out.elim
  | .fail, _, h => h.out.elim
def resOne (tmps : Array Value) : ResultVar → Sem Value
  | .tmp t => pure (tmps.getD t undef)
  | .cell c t => do loadVar t (← asAddr (tmps.getD c undef))
theorem results_eq (fn : Func) (tmps : Array Value) : results fn tmps = (do let vs ← fn.results.mapM (resOne tmps); pure (if h : vs.size = 1 then vs[0] else .tuple vs)) := by
  have : (fun x : ResultVar => match x with | ResultVar.tmp t => (pure (tmps.getD t undef) : Sem Value) | ResultVar.cell c t => do loadVar t (← asAddr (tmps.getD c undef))) = resOne tmps := by
    funext x; cases x <;> rfl
  rw [← this]
  rfl
theorem run_asAddr {P : Program} {w : World} {v : Value} {a : Addr} (h : v = .pointer (some a)) : (asAddr v).run P w = .ok a w := by subst h; rfl
theorem retGo_run (hT : TabOK M.P M.C.T) (H : HeapOK M η w O nx) {a : Act} {fr : Fr} (hf : FrOK η a fr) : ∀ {res : List ResultVar} {K : List SV → Prop}, retGo M.C fr O res K →
    ∃ svs vs, K svs ∧ DenL η svs vs ∧ (res.mapM (resOne a.tmps)).run M.P w = .ok vs w
  | [], K, h => ⟨[], [], h, by simp [DenL], rfl⟩
  | .tmp t :: r, K, h => by
    simp only [retGo] at h
    split at h
    case h_2 => exact h.out.elim
    rename_i v hv
    obtain ⟨svs, vs, h1, h2, h3⟩ := retGo_run hT H hf h
    refine ⟨_, a.tmps.getD t undef :: vs, h1, ?_, ?_⟩
    · simp only [DenL]; exact ⟨_, _, rfl, hf t v hv, h2⟩
    · simp only [List.mapM_cons, Sem.run_bind, resOne, Sem.run_pure, Result.andThen_ok, h3]
  | .cell c t :: r, K, h => by
    simp only [retGo] at h
    split at h
    case h_2 => exact h.out.elim
    rename_i p hp
    obtain ⟨v, hl, h⟩ := Res.gv_ok h
    obtain ⟨svs, vs, h1, h2, h3⟩ := retGo_run hT H hf h
    obtain ⟨_, _, ad, u, h4, h5, h6⟩ := loadR_sound hT H (hf c p hp) (hl O nx)
    refine ⟨_, u :: vs, h1, ?_, ?_⟩
    · simp only [DenL]; exact ⟨_, _, rfl, h6, h2⟩
    · simp only [List.mapM_cons, Sem.run_bind, resOne, run_asAddr h4, Result.andThen_ok, h5, h3, Sem.run_pure]
end
theorem argFr_ok {η : Env} : ∀ {n : Nat} {args : List SV} {vs : List Value} {t : Nat} {sv : SV}, DenL η args vs → lkp t (argFr n args) = some sv → ∃ v, n ≤ t ∧ vs[t - n]? = some v ∧ Den η sv v
  | n, [], vs, t, sv, _, h => by simp [argFr, lkp] at h
  | n, a :: args, vs, t, sv, hd, h => by
    simp only [DenL] at hd
    obtain ⟨u, us, rfl, h1, h2⟩ := hd
    simp only [argFr, lkp_cons] at h
    split at h
    · rename_i e; subst e; injection h with h; subst h
      exact ⟨u, Nat.le_refl _, by simp, h1⟩
    · obtain ⟨v, h3, h4, h5⟩ := argFr_ok h2 h
      refine ⟨v, by omega, ?_, h5⟩
      rw [show t - n = (t - (n + 1)) + 1 by omega]
      simpa using h4
/-- A contract, by the walk of the function's body. -/
theorem Does.enter {P : Program} {T : Tab} {f g : FuncId} {k : Nat} {args : List SV} {O S : Hps} {Q : SV → Hps → Nat → Prop} {fn : Func} {c : Code} (hT : TabOK P T) (hcall : ∀ args w, (callFunc f args).run P w = .ok (.enter g args) w)
    (hf : P.funcs[g]? = some fn) (hb : fn.body = some c) (N : Nat) (hN : fn.ntmps = N) (hlen : Nat.ble args.length N = true) (res : List ResultVar) (hres : fn.results = res.toArray)
    (h : ∀ w0 F η0, η0.length = k → run ⟨P, ⟨T, N, shB S⟩, w0, F, η0⟩ c (argFr 0 args) O k (endQ ⟨P, ⟨T, N, shB S⟩, w0, F, η0⟩ res Q)) : Does P T f k args O S Q := by
  refine ⟨fun M vs hP hT' hF hS H hd => .inl ⟨g, by rw [hP]; exact hcall _ _, ?_⟩⟩
  obtain ⟨P', ⟨T', N', S'⟩, w0, F, η0⟩ := M
  simp only at hP hT' hF hS H hd ⊢
  subst hP hT' hS
  have hk : η0.length = k := H.len
  have H' : HeapOK ⟨P', ⟨T', N, shB S⟩, w0, F, η0⟩ η0 w0 O k := ⟨H.pre, H.len, H.own, H.fr, H.sok⟩
  have hl := denL_len hd
  refine calls_of_wp hf hb ?_
  have hm : Models ⟨P', ⟨T', N, shB S⟩, w0, F, η0⟩ η0 (argFr 0 args) O k { tmps := ⟨vs⟩ ++ Array.replicate (fn.ntmps - (Array.mk vs).size) undef, defers := [] } w0 := by
    refine ⟨H', ?_, rfl, ?_⟩
    · have := Nat.le_of_ble_eq_true hlen
      simp only [Array.size_append, Array.size_replicate, hN, List.size_toArray]
      show vs.length + (N - vs.length) = N
      omega
    · intro t sv ht
      obtain ⟨v, _, h1, h2⟩ := argFr_ok hd ht
      have hlt := (List.getElem?_eq_some_iff.1 h1).1
      simp only [Nat.sub_zero] at h1 hlt
      rw [Array.getD_eq_getD_getElem?, Array.getElem?_append_left (by simpa using hlt)]
      have : (Array.mk vs)[t]? = some v := by simpa using h1
      rw [this]; exact h2
  refine Code.wp_mono ?_ (run_sound hT c (h w0 F η0 hk) η0 _ w0 hm)
  have fin : ∀ {η1 : Env} {fr1 : Fr} {O1 : Hps} {nx1 : Nat} {a : Act} {w1 : World}, Models ⟨P', ⟨T', N, shB S⟩, w0, F, η0⟩ η1 fr1 O1 nx1 a w1 → (retGo ⟨T', N, shB S⟩ fr1 O1 res fun vs => finGo ⟨P', ⟨T', N, shB S⟩, w0, F, η0⟩ O1 nx1 Q vs) →
      a.defers = [] ∧ ∃ v, (results fn a.tmps).run P' w1 = .ok v w1 ∧ ∃ v', Ending.returned v = .returned v' ∧ ∃ r O' nx' η', Q r O' nx' ∧ η0 <+: η' ∧ HeapOK ⟨P', ⟨T', N', shB S⟩, w0, F, η0⟩ η' w1 O' nx' ∧ Den η' r v' := by
    intro η1 fr1 O1 nx1 a w1 hm1 hr
    obtain ⟨svs, rvs, h1, h2, h3⟩ := retGo_run hT hm1.heap hm1.frame hr
    have hrun : (results fn a.tmps).run P' w1 = .ok (if h : rvs.length = 1 then rvs[0]'(by omega) else .tuple ⟨rvs⟩) w1 := by
      have hh : (res.toArray.mapM (resOne a.tmps)).run P' w1 = .ok ⟨rvs⟩ w1 := by
        rw [Array.mapM_eq_mapM_toList]
        simp only [Sem.run_map, h3, Result.andThen_ok]
      rw [results_eq, hres]
      simp only [Sem.run_bind, hh, Result.andThen_ok, Sem.run_pure]
      rfl
    have hden : Den η1 (oneOf svs) (if h : rvs.length = 1 then rvs[0]'(by omega) else .tuple ⟨rvs⟩) := by
      have hl := denL_len h2
      match svs, h2, hl with
      | [], h2, hl =>
        simp only [DenL] at h2; subst h2
        simp only [oneOf, Den, DenL]
        exact ⟨[], by simp, rfl⟩
      | [s], h2, hl =>
        simp only [DenL] at h2
        obtain ⟨u, us, rfl, h4, rfl⟩ := h2
        simpa [oneOf] using h4
      | s :: s' :: r, h2, hl =>
        simp only [List.length_cons] at hl
        rw [dif_neg (by omega)]
        simp only [oneOf, Den]
        exact ⟨rvs, rfl, h2⟩
    rw [finGo_eq] at h1
    obtain ⟨r', O', nx', η', h5, h6, h7, h8⟩ := h1.out η1 w1 _ hm1.heap hden
    exact ⟨hm1.defers, _, hrun, _, rfl, r', O', nx', η', h5, h6, ⟨h7.pre, h7.len, h7.own, h7.fr, h7.sok⟩, h8⟩
  intro e a w hq
  cases e with
  | normal => obtain ⟨η1, fr1, O1, nx1, hm1, hq⟩ := hq; exact fin hm1 hq
  | ret => obtain ⟨η1, fr1, O1, nx1, hm1, hq⟩ := hq; exact fin hm1 hq
  | exit id => obtain ⟨η1, fr1, O1, nx1, hm1, hq⟩ := hq; exact hq.out.elim
  | goto l => exact hq.elim
  | panic ch => exact hq.elim
  | outgrown => exact hq.elim
end Go.Sx
/- Contracts used at a call, and what may be left behind at a function's end; words for the walk's stops. Conditions: none. -/
set_option linter.unusedVariables false
set_option linter.unusedSimpArgs false
namespace Go.Sx
open Go

/-! ### The stops -/
theorem IF.tt {J : Type} {A B : J → Prop} {j : J} (h : A j) : IF true A B j := ⟨fun _ => h, fun e => by cases e⟩
theorem IF.ff {J : Type} {A B : J → Prop} {j : J} (h : B j) : IF false A B j := ⟨fun e => (by cases e), fun _ => h⟩
theorem IF.yes {J : Type} {b : Bool} {A B : J → Prop} {j : J} (e : b = true) (h : A j) : IF b A B j := ⟨fun _ => h, fun e' => by rw [e] at e'; cases e'⟩
theorem IF.no {J : Type} {b : Bool} {A B : J → Prop} {j : J} (e : b = false) (h : B j) : IF b A B j := ⟨fun e' => (by rw [e] at e'; cases e'), fun _ => h⟩
theorem GET.at {rs : List (List SV)} {i : Nat} {K : List SV → Prop} {row : List SV} (h : rs[i]? = some row) (k : K row) : GET rs i K := ⟨row, h, k⟩
theorem GET.map {α : Type} {f : α → List SV} {xs : List α} {i : Nat} {K : List SV → Prop} (h : i < xs.length) (k : K (f xs[i])) : GET (xs.map f) i K := ⟨f xs[i], by simp [List.getElem?_eq_getElem h], k⟩
theorem GETG.map {α : Type} [Inhabited α] {f : α → List SV} {xs : List α} {i : Nat} {g : Prop} {K : List SV → Prop} (h : g → i < xs.length) (k : K (f (xs.getD i default))) : GETG g (xs.map f) i K :=
  ⟨f (xs.getD i default), fun hg => by have := h hg; simp [List.getElem?_eq_getElem this, List.getD], k⟩

/-! ### A call -/
/-- The caller's name for a callee's. -/
def cname (L : List Nat) (nx : Nat) (j : Nat) : Nat := if j < L.length then L.getD j 0 else nx + (j - L.length)
/-- The caller's heap behind a call. -/
def outside (ks : List Nat) : Hps → Hps
  | [] => []
  | (i, h) :: r => match ks.any (Nat.beq i) with | true => outside ks r | false => (i, h) :: outside ks r
def renO (σ : Nat → Nat) : Hps → Hps
  | [] => []
  | (i, h) :: r => (σ i, renH σ h) :: renO σ r
def namesOf : Hps → List Nat
  | [] => []
  | (i, _) :: r => i :: namesOf r
theorem lkp_namesOf {O : Hps} {i : Nat} {h : Hp} (hi : lkp i O = some h) : i ∈ namesOf O := by
  induction O with
  | nil => simp [lkp] at hi
  | cons p O ih =>
    obtain ⟨j, g⟩ := p
    rw [lkp_cons] at hi
    split at hi
    · rename_i e; subst e; exact List.mem_cons_self ..
    · exact List.mem_cons_of_mem _ (ih hi)
theorem namesOf_lkp {O : Hps} {i : Nat} (hi : i ∈ namesOf O) : ∃ h, lkp i O = some h := by
  induction O with
  | nil => simp [namesOf] at hi
  | cons p O ih =>
    obtain ⟨j, g⟩ := p
    by_cases e : i = j
    · subst e; exact ⟨g, by rw [lkp_cons, if_pos rfl]⟩
    · rcases List.mem_cons.1 hi with h | h
      · exact (e h).elim
      · obtain ⟨h', hh⟩ := ih h; exact ⟨h', by rw [lkp_cons, if_neg e]; exact hh⟩
theorem lkp_outside {ks : List Nat} : ∀ {O : Hps} {i : Nat} {h : Hp}, lkp i (outside ks O) = some h → i ∉ ks ∧ lkp i O = some h
  | [], i, h, hi => by simp [outside, lkp] at hi
  | (j, g) :: O, i, h, hi => by
    unfold outside at hi
    have hany : ks.any (Nat.beq j) = true ↔ j ∈ ks := by
      rw [List.any_eq_true]
      exact ⟨fun ⟨x, hx, hb⟩ => by rw [beq_eq hb]; exact hx, fun h => ⟨j, h, beq_self j⟩⟩
    split at hi
    · rename_i hk
      obtain ⟨h1, h2⟩ := lkp_outside hi
      refine ⟨h1, ?_⟩
      rw [lkp_cons, if_neg ?_]
      · exact h2
      · intro e; subst e; exact h1 (hany.1 hk)
    · rename_i hk
      rw [lkp_cons] at hi
      split at hi
      · rename_i e
        subst e
        injection hi with hi; subst hi
        refine ⟨fun h => ?_, by rw [lkp_cons, if_pos rfl]⟩
        rw [hany.2 h] at hk; cases hk
      · rename_i e
        obtain ⟨h1, h2⟩ := lkp_outside hi
        exact ⟨h1, by rw [lkp_cons, if_neg e]; exact h2⟩
theorem lkp_renO {σ : Nat → Nat} : ∀ {O : Hps} {i : Nat} {h : Hp}, lkp i (renO σ O) = some h → ∃ j g, lkp j O = some g ∧ σ j = i ∧ h = renH σ g
  | [], i, h, hi => by simp [renO, lkp] at hi
  | (j, g) :: O, i, h, hi => by
    simp only [renO] at hi
    rw [lkp_cons] at hi
    split at hi
    · rename_i e
      injection hi with hi
      exact ⟨j, g, by rw [lkp_cons, if_pos rfl], e.symm, hi.symm⟩
    · rename_i e
      obtain ⟨j1, g1, h1, h2, h3⟩ := lkp_renO hi
      have hne : j1 ≠ j := by intro e'; subst e'; exact e h2.symm
      exact ⟨j1, g1, by rw [lkp_cons, if_neg hne]; exact h1, h2, h3⟩
theorem lkp_append {α : Type} {xs ys : List (Nat × α)} {i : Nat} {v : α} (h : lkp i (xs ++ ys) = some v) : lkp i xs = some v ∨ (lkp i xs = none ∧ lkp i ys = some v) := by
  induction xs with
  | nil => exact .inr ⟨rfl, h⟩
  | cons p xs ih =>
    obtain ⟨j, u⟩ := p
    rw [List.cons_append, lkp_cons] at h
    rw [lkp_cons]
    split at h
    · rename_i e; rw [if_pos e]; exact .inl h
    · rename_i e; rw [if_neg e]; exact ih h
theorem Invokes.mono {P : Program} {f : FuncId} {args : Array Value} {w : World} {R R' : Value → World → Prop} (h : Invokes P f args w R) (hr : ∀ v w', R v w' → R' v w') : Invokes P f args w R' := by
  rcases h with ⟨g, h1, h2⟩ | ⟨v, w', h1, h2⟩
  · exact .inl ⟨g, h1, h2.mono fun e w' ⟨v, h3, h4⟩ => ⟨v, h3, hr v w' h4⟩⟩
  · exact .inr ⟨v, w', h1, hr v w' h2⟩
theorem lkpB_shB {S : Hps} {b : Blk} {h : Hp} (hb : lkpB b (shB S) = some h) : ∃ j, b = .loc j ∧ (j, h) ∈ S := by
  induction S with
  | nil => simp [shB, lkpB] at hb
  | cons p S ih =>
    obtain ⟨j, g⟩ := p
    simp only [shB, List.map_cons, lkpB] at hb
    split at hb
    · rename_i e
      injection hb with hb; subst hb
      exact ⟨j, blkEq_iff.1 e, List.mem_cons_self ..⟩
    · obtain ⟨j', h1, h2⟩ := ih hb
      exact ⟨j', h1, List.mem_cons_of_mem _ h2⟩
/-- A contract serves at a call. L: the caller's names for the contract's first ones. -/
theorem CALL.of {M : Mx} {f : FuncId} {args : List SV} {O : Hps} {nx : Nat} {K : SV → Hps → Nat → Prop} {k : Nat} {argsc : List SV} {Oc Sc : Hps} {Q : SV → Hps → Nat → Prop} (L : List Nat) (sp : Does M.P M.C.T f k argsc Oc Sc Q)
    (hL : L.length = k) (hLn : ∀ i ∈ L, i < nx) (ha : args = renL (cname L nx) argsc) (hb : belowL k argsc = true)
    (hO : ∀ p ∈ Oc, p.1 < k ∧ lkp (cname L nx p.1) O = some (renH (cname L nx) p.2) ∧ belowH k p.2 = true)
    (hOn : ∀ j ∈ namesOf Oc, ∀ j' ∈ namesOf Oc, cname L nx j = cname L nx j' → j = j')
    (hS : ∀ p ∈ Sc, p.1 < k ∧ hLook M.C O (.loc (cname L nx p.1)) = some (renH (cname L nx) p.2) ∧ belowH k p.2 = true ∧ cname L nx p.1 ∉ (namesOf Oc).map (cname L nx))
    (hK : ∀ r O' nx', Q r O' nx' → K (ren (cname L nx) r) (renO (cname L nx) O' ++ outside ((namesOf Oc).map (cname L nx)) O) (nx + (nx' - k))) : CALL M f args O nx K := by
  refine ⟨fun η w vs H hd => ?_⟩
  generalize hσ : cname L nx = σ at *
  have hσlt : ∀ j, j < k → ∃ y, L[j]? = some (σ j) ∧ σ j < nx ∧ η[σ j]? = some y := by
    intro j hj
    have hj' : j < L.length := by omega
    have e : σ j = L[j] := by rw [← hσ]; simp [cname, hj', List.getD]
    have hlt : σ j < nx := by rw [e]; exact hLn _ (List.getElem_mem hj')
    refine ⟨η[σ j]'(by rw [H.len]; exact hlt), by rw [e]; exact List.getElem?_eq_getElem hj', hlt, List.getElem?_eq_getElem _⟩
  have hσge : ∀ j, k ≤ j → σ j = nx + (j - k) := by
    intro j hj; rw [← hσ]; simp only [cname, hL]; rw [if_neg (by omega)]
  obtain ⟨ηc, hηc⟩ : ∃ ηc : Env, ηc = L.map (fun i => (η[i]?).getD none) := ⟨_, rfl⟩
  have hclen : ηc.length = k := by rw [hηc]; simp [hL]
  have hcget : ∀ j, j < k → ηc[j]? = η[σ j]? := by
    intro j hj
    obtain ⟨y, h1, h2, h3⟩ := hσlt j hj
    rw [hηc, List.getElem?_map, h1]
    simp [h3]
  have hbwd : Bwd η ηc σ k := fun j x hj hx => by rw [hcget j hj]; exact hx
  have hdc : DenL ηc argsc vs := DenL.unren hbwd hb (by rw [← ha]; exact hd)
  have hOl : ∀ j h, lkp j Oc = some h → j < k ∧ lkp (σ j) O = some (renH σ h) ∧ belowH k h = true := fun j h hj => hO (j, h) (lkp_mem hj)
  have hto : ∀ {j : Nat}, j < k → ∀ {h : Hp} {w : World} {n : Nat}, feet ηc w (.loc j) h n → feet η w (.loc (σ j)) (renH σ h) n := fun {j} hj {h w n} f => f.ren fun x hx => by rw [← hcget j hj]; exact hx
  -- blocks that the callee may write are the caller's own
  have hF : ∀ n, blocksOf ηc w Oc n → ∃ j h, lkp j Oc = some h ∧ feet η w (.loc (σ j)) (renH σ h) n ∧ (M.F n ∨ M.w0.heap.size ≤ n) := by
    rintro n ⟨j, h, h1, f⟩
    obtain ⟨p1, p2, _⟩ := hOl j h h1
    exact ⟨j, h, h1, hto p1 f, (H.own.1 _ _ p2).2 n (hto p1 f)⟩
  have Hc : HeapOK { P := M.P, C := { M.C with S := shB Sc }, w0 := w, F := blocksOf ηc w Oc, η0 := ηc } ηc w Oc k := by
    refine ⟨List.prefix_rfl, hclen, ⟨?_, ?_⟩, FrW.refl _ _, ?_⟩
    · intro j h hj
      obtain ⟨p1, p2, p3⟩ := hOl j h hj
      exact ⟨(H.own.1 _ _ p2).1.unren hbwd p1 p3, fun n f => .inl ⟨j, h, hj, f⟩⟩
    · intro j j' h h' n hj hj' hne f f'
      obtain ⟨p1, p2, _⟩ := hOl j h hj
      obtain ⟨q1, q2, _⟩ := hOl j' h' hj'
      exact H.own.2 _ _ _ _ n p2 q2 (fun hh => hne (hOn j (lkp_namesOf hj) j' (lkp_namesOf hj') hh)) (hto p1 f) (hto q1 f')
    · intro b h hbl
      cases b with
      | glob g =>
        have hp : plainH h = true := List.all_eq_true.1 M.C.T.gplain (g, h) (lkp_mem hbl)
        obtain ⟨s1, s2⟩ := H.sok (.glob g) h hbl
        refine ⟨(H.shared (b := .glob g) hbl).plain hp, fun n f => ?_⟩
        obtain ⟨t1, t2⟩ := s2 g ⟨⟨g, 0, 0⟩, rfl, .inl rfl⟩
        have hw : w.heap[g]? = M.w0.heap[g]? := H.fr.block g t1 t2
        have f0 : feet M.η0 M.w0 (.glob g) h n := by
          obtain ⟨e, h1, h2⟩ := f
          cases h1
          exact ⟨⟨g, 0, 0⟩, rfl, h2.imp id fun h => h.keep hw⟩
        obtain ⟨t1, t2⟩ := s2 n f0
        refine ⟨Nat.lt_of_lt_of_le t1 H.fr.size, fun hbb => ?_⟩
        obtain ⟨_, _, _, _, q4⟩ := hF _ hbb
        rcases q4 with q4 | q4
        · exact t2 q4
        · omega
      | loc j0 =>
      obtain ⟨j, hj0, hm⟩ := lkpB_shB hbl
      injection hj0 with hj0
      subst j0
      obtain ⟨p1, p2, p3, p4⟩ := hS (j, h) hm
      simp only at p1 p2 p3 p4
      refine ⟨(H.look p2).unren hbwd p1 p3, fun n f => ?_⟩
      have f1 := hto p1 f
      refine ⟨(H.look p2).feet_lt f1, fun hbb => ?_⟩
      obtain ⟨j', h', q1, fq, q4⟩ := hF _ hbb
      obtain ⟨r1, r2, _⟩ := hOl j' h' q1
      simp only [hLook] at p2
      cases ho : lkp (σ j) O with
      | some g =>
        have hne : σ j' ≠ σ j := fun hh => p4 (by rw [← hh]; exact List.mem_map_of_mem (lkp_namesOf q1))
        rw [ho] at p2
        injection p2 with p2
        subst p2
        exact H.own.2 _ _ _ _ n r2 ho hne fq f1
      | none =>
        rw [ho] at p2
        obtain ⟨s1, s2⟩ := H.sok (.loc (σ j)) _ p2
        obtain ⟨x', hx', _⟩ := s1.lt
        have f2 : feet M.η0 M.w0 (.loc (σ j)) (renH σ h) n := (f1.less H.pre hx').keep fun e he => H.fr.block e.g (s2 e.g (feet.own he)).1 (s2 e.g (feet.own he)).2
        obtain ⟨t1, t2⟩ := s2 n f2
        rcases q4 with q4 | q4
        · exact t2 q4
        · omega
  refine (sp.out { P := M.P, C := { M.C with S := shB Sc }, w0 := w, F := blocksOf ηc w Oc, η0 := ηc } vs rfl rfl rfl rfl Hc hdc).mono ?_
  rintro v w' ⟨r, O', nx', η', hq, hpre, H', hdr⟩
  have hk' : k ≤ nx' := by rw [← H'.len, ← hclen]; exact hpre.length_le
  have hfwd : Fwd η' (η ++ η'.drop k) σ := by
    intro i x hx
    by_cases hi : i < k
    · obtain ⟨y, h1, h2, h3⟩ := hσlt i hi
      rw [List.getElem?_append_left (by rw [H.len]; exact h2)]
      have : η'[i]? = ηc[i]? := by
        obtain ⟨t, rfl⟩ := hpre
        rw [List.getElem?_append_left (by rw [hclen]; exact hi)]
      rw [← hcget i hi, ← this]; exact hx
    · rw [hσge i (by omega), List.getElem?_append_right (by rw [H.len]; omega), H.len, List.getElem?_drop]
      rw [show k + (nx + (i - k) - nx) = i by omega]; exact hx
  have hpre' : η <+: η ++ η'.drop k := List.prefix_append _ _
  have hfr : FrW w w' (blocksOf ηc w Oc) := H'.fr
  refine ⟨ren σ r, _, _, η ++ η'.drop k, hpre', ?_, hdr.ren hfwd, hK r O' nx' hq⟩
  -- entries of the callee's heap, in the caller's names
  have hin : ∀ {i h}, lkp i (renO σ O') = some h → ∃ j g, lkp j O' = some g ∧ σ j = i ∧ h = renH σ g ∧ HpSat (η ++ η'.drop k) w' true (.loc i) h ∧ ∀ n, feet (η ++ η'.drop k) w' (.loc i) h n → feet η' w' (.loc j) g n ∧ (blocksOf ηc w Oc n ∨ w.heap.size ≤ n) := by
    intro i h hi
    obtain ⟨j, g, h1, h2, h3⟩ := lkp_renO hi
    obtain ⟨p1, p2⟩ := H'.own.1 j g h1
    obtain ⟨x, hx, _⟩ := p1.lt
    have hx' : (η ++ η'.drop k)[σ j]? = some x := hfwd j x hx
    refine ⟨j, g, h1, h2, h3, ?_, ?_⟩
    · rw [h3, ← h2]; exact p1.ren hfwd
    · intro n f
      rw [h3, ← h2] at f
      have f' : feet η' w' (.loc j) g n := f.unren fun y hy => by rw [hx'] at hy; injection hy with hy; rw [← hy]; exact hx
      exact ⟨f', p2 n f'⟩
  have hout : ∀ {i h}, lkp i (outside ((namesOf Oc).map σ) O) = some h → lkp i O = some h ∧ ∀ n, feet η w (.loc i) h n → n < w.heap.size ∧ ¬ blocksOf ηc w Oc n := by
    intro i h hi
    obtain ⟨h1, h2⟩ := lkp_outside hi
    refine ⟨h2, fun n f => ⟨(H.own.1 i h h2).1.feet_lt f, fun hbb => ?_⟩⟩
    obtain ⟨j', h', q1, fq, q4⟩ := hF _ hbb
    obtain ⟨r1, r2, _⟩ := hOl j' h' q1
    have hne : σ j' ≠ i := fun hh => h1 (by rw [← hh]; exact List.mem_map_of_mem (lkp_namesOf q1))
    exact H.own.2 _ _ _ _ n r2 h2 hne fq f
  have hkeep : ∀ {i h}, lkp i (outside ((namesOf Oc).map σ) O) = some h → ∀ n, feet η w (.loc i) h n → w'.heap[n]? = w.heap[n]? := fun hi n f => hfr.block n ((hout hi).2 n f).1 ((hout hi).2 n f).2
  have hback : ∀ {i h}, lkp i (outside ((namesOf Oc).map σ) O) = some h → ∀ n, feet (η ++ η'.drop k) w' (.loc i) h n → feet η w (.loc i) h n := fun hi n f => H.stands hpre' (hout hi).1 (hkeep hi) f
  refine ⟨H.pre.trans hpre', ?_, ⟨?_, ?_⟩, H.fr.trans hfr (fun n hn => let ⟨_, _, _, _, h⟩ := hF n hn; h), H.sok⟩
  · rw [List.length_append, List.length_drop, H.len, H'.len]
  · intro i h hi
    rcases lkp_append hi with hi | ⟨_, hi⟩
    · obtain ⟨j, g, h1, h2, h3, h4, h5⟩ := hin hi
      refine ⟨h4, fun n f => ?_⟩
      rcases (h5 n f).2 with hb' | hb'
      · obtain ⟨_, _, _, _, hh⟩ := hF _ hb'; exact hh
      · exact .inr (Nat.le_trans H.fr.size hb')
    · have h3 := H.own.1 i h (hout hi).1
      exact ⟨(h3.1.keep (hkeep hi)).mono hpre', fun n f => h3.2 n (hback hi n f)⟩
  · intro i i' h h' n hi hi' hne f f'
    rcases lkp_append hi with hi | ⟨_, hi⟩ <;> rcases lkp_append hi' with hi' | ⟨_, hi'⟩
    · obtain ⟨j, g, h1, h2, h3, h4, h5⟩ := hin hi
      obtain ⟨j', g', h1', h2', h3', h4', h5'⟩ := hin hi'
      exact H'.own.2 j j' g g' n h1 h1' (fun hj => hne (by rw [← h2, ← h2', hj])) (h5 n f).1 (h5' n f').1
    · obtain ⟨j, g, h1, h2, h3, h4, h5⟩ := hin hi
      obtain ⟨h7, h8⟩ := (hout hi').2 n (hback hi' n f')
      rcases (h5 n f).2 with hb' | hb'
      · exact h8 hb'
      · omega
    · obtain ⟨j, g, h1, h2, h3, h4, h5⟩ := hin hi'
      obtain ⟨h7, h8⟩ := (hout hi).2 n (hback hi n f)
      rcases (h5 n f').2 with hb' | hb'
      · exact h8 hb'
      · omega
    · exact H.own.2 i i' h h' n (hout hi).1 (hout hi').1 hne (hback hi n f) (hback hi' n f')
/-- A contract about values alone: numbers, texts, truths, and what is made of them. -/
theorem CALL.val {M : Mx} {f : FuncId} {args : List SV} {O : Hps} {nx : Nat} {K : SV → Hps → Nat → Prop} {r : SV} (sp : Does M.P M.C.T f 0 args [] [] fun r' O' nx' => r' = r ∧ O' = [] ∧ nx' = 0) (hp : plainL args = true) (hr : plain r = true) (hK : K r O nx) : CALL M f args O nx K := by
  refine CALL.of [] sp rfl (fun i hi => by cases hi) (renL_plain _ hp).symm (plainL_below 0 hp) (fun p hp => by cases hp) (fun j hj => by cases hj) (fun p hp => by cases hp) ?_
  rintro r' O' nx' ⟨rfl, rfl, rfl⟩
  rw [ren_plain _ hr]
  have : outside ((namesOf []).map (cname [] nx)) O = O := by
    clear hK sp
    induction O with
    | nil => rfl
    | cons p O ih => obtain ⟨i, h⟩ := p; simp only [outside, namesOf, List.map_nil, List.any_nil] at ih ⊢; rw [ih]
  rw [this]
  simpa [renO] using hK

/-- The result is this value; nothing that is told of is left behind. -/
def Val (r0 : SV) : SV → Hps → Nat → Prop := fun r O nx => r = r0 ∧ O = [] ∧ nx = 0
theorem CALL.value {M : Mx} {f : FuncId} {args : List SV} {O : Hps} {nx : Nat} {K : SV → Hps → Nat → Prop} {r : SV} (sp : Does M.P M.C.T f 0 args [] [] (Val r)) (hp : plainL args = true) (hr : plain r = true) (hK : K r O nx) : CALL M f args O nx K := CALL.val sp hp hr hK
def SubS (C : Cx) (O : Hps) (σ : Nat → Nat) (k : Nat) : Hps → Prop
  | [] => True
  | (i, h) :: r => (Nat.blt i k = true ∧ hLook C O (.loc (σ i)) = some (renH σ h) ∧ belowH k h = true) ∧ SubS C O σ k r
theorem SubS.at {C : Cx} {O : Hps} {σ : Nat → Nat} {k : Nat} : ∀ {S : Hps}, SubS C O σ k S → ∀ p ∈ S, p.1 < k ∧ hLook C O (.loc (σ p.1)) = some (renH σ p.2) ∧ belowH k p.2 = true
  | [], _, p, hp => by cases hp
  | (i, h) :: r, hs, p, hp => by
    rcases List.mem_cons.1 hp with rfl | hp
    · exact ⟨by simpa [Nat.blt_eq] using hs.1.1, hs.1.2⟩
    · exact SubS.at hs.2 p hp
theorem outside_nil : ∀ O : Hps, outside [] O = O
  | [] => rfl
  | (i, h) :: O => by
    have ih := outside_nil O
    simp only [outside, List.any_nil] at ih ⊢
    rw [ih]
/-- A call of a function that only looks at what is known. -/
theorem CALL.look {M : Mx} {f : FuncId} {args : List SV} {O : Hps} {nx : Nat} {K : SV → Hps → Nat → Prop} {k : Nat} {argsc : List SV} {Sc : Hps} {Q : SV → Hps → Nat → Prop} (L : List Nat) (sp : Does M.P M.C.T f k argsc [] Sc Q)
    (hL : L.length = k) (hLn : L.all (fun i => Nat.blt i nx) = true) (ha : args = renL (cname L nx) argsc) (hb : belowL k argsc = true) (hS : SubS M.C O (cname L nx) k Sc)
    (hK : ∀ r O' nx', Q r O' nx' → K (ren (cname L nx) r) (renO (cname L nx) O' ++ O) (nx + (nx' - k))) : CALL M f args O nx K := by
  refine CALL.of L sp hL (fun i hi => by have := List.all_eq_true.1 hLn i hi; simpa [Nat.blt_eq] using this) ha hb (fun p hp => by cases hp) (fun j hj => by cases hj) (fun p hp => ?_) (fun r O' nx' h => ?_)
  · obtain ⟨h1, h2, h3⟩ := hS.at p hp
    exact ⟨h1, h2, h3, fun h => by cases h⟩
  · have := hK r O' nx' h
    simpa [namesOf, outside_nil] using this
/-- The result is this value, of names that came in. -/
def ValK (k : Nat) (r0 : SV) : SV → Hps → Nat → Prop := fun r O nx => r = r0 ∧ O = [] ∧ nx = k
theorem CALL.looks {M : Mx} {f : FuncId} {args : List SV} {O : Hps} {nx : Nat} {K : SV → Hps → Nat → Prop} {k : Nat} {argsc : List SV} {Sc : Hps} {r : SV} (L : List Nat) (sp : Does M.P M.C.T f k argsc [] Sc (ValK k r))
    (hL : L.length = k) (hLn : L.all (fun i => Nat.blt i nx) = true) (ha : args = renL (cname L nx) argsc) (hb : belowL k argsc = true) (hS : SubS M.C O (cname L nx) k Sc) (hK : K (ren (cname L nx) r) O nx) : CALL M f args O nx K := by
  refine CALL.look L sp hL hLn ha hb hS ?_
  rintro r' O' nx' ⟨rfl, rfl, rfl⟩
  simpa [renO] using hK
/-- A function that answers at once. -/
theorem Does.says {P : Program} {T : Tab} {f : FuncId} {args : List SV} {r : SV} (h : ∀ η w vs, DenL η args vs → ∃ v, (callFunc f ⟨vs⟩).run P w = .ok (.value v) w ∧ Den η r v) : Does P T f 0 args [] [] (Val r) := by
  refine ⟨fun M vs hP hT hF hS H hd => ?_⟩
  obtain ⟨v, h1, h2⟩ := h M.η0 M.w0 vs hd
  exact .inr ⟨v, M.w0, by rw [hP]; exact h1, r, [], 0, M.η0, ⟨rfl, rfl, rfl⟩, List.prefix_rfl, ⟨H.pre, H.len, ⟨fun i h hi => by simp [lkp] at hi, fun i j h h' n hi => by simp [lkp] at hi⟩, H.fr, H.sok⟩, h2⟩

/-! ### The end -/
theorem FIN.val {M : Mx} {O : Hps} {nx k : Nat} {r : SV} {Q : SV → Hps → Nat → Prop} (hk : M.η0.length = k) (hp : plain r = true) (hQ : Q r [] k) : FIN M O nx r Q := by
  refine ⟨fun η w v H hd => ⟨r, [], k, M.η0, hQ, List.prefix_rfl, ⟨List.prefix_rfl, hk, ⟨fun i h hi => by simp [lkp] at hi, fun i j h h' n hi => by simp [lkp] at hi⟩, H.fr, H.sok⟩, ?_⟩⟩
  have hb : Bwd η M.η0 (fun i => i) 0 := fun i x hi => by omega
  exact Den.unren hb (plain_below 0 hp) (by rw [ren_plain _ hp]; exact hd)
theorem FIN.value {M : Mx} {O : Hps} {nx : Nat} {r r0 : SV} (hk : M.η0.length = 0) (hp : plain r = true) (hQ : r = r0) : FIN M O nx r (Val r0) := FIN.val hk hp ⟨hQ, rfl, rfl⟩
theorem FIN.valueK {M : Mx} {O : Hps} {nx k : Nat} {r r0 : SV} (hk : M.η0.length = k) (hp : plain r = true) (hQ : r = r0) : FIN M O nx r (ValK k r0) := FIN.val hk hp ⟨hQ, rfl, rfl⟩
/-- The names at a function's end, in the contract's order: those that came in, and the ones of τ. -/
def fname (k : Nat) (τ : List Nat) (j : Nat) : Nat := if j < k then j else τ.getD (j - k) 0
theorem HeapOK.names {M : Mx} {η : Env} {w : World} {O : Hps} {nx k : Nat} (H : HeapOK M η w O nx) (hk : M.η0.length = k) (τ : List Nat) {Oc : Hps} (hτ : ∀ i ∈ τ, i < nx)
    (hO : ∀ p ∈ Oc, p.1 < k + τ.length ∧ lkp (fname k τ p.1) O = some (renH (fname k τ) p.2) ∧ belowH (k + τ.length) p.2 = true)
    (hn : ∀ j ∈ namesOf Oc, ∀ j' ∈ namesOf Oc, fname k τ j = fname k τ j' → j = j') : ∃ η', M.η0 <+: η' ∧ HeapOK M η' w Oc (k + τ.length) ∧ Bwd η η' (fname k τ) (k + τ.length) := by
  generalize hσ : fname k τ = σ at *
  obtain ⟨η', hη'⟩ : ∃ η' : Env, η' = M.η0 ++ τ.map (fun i => (η[i]?).getD none) := ⟨_, rfl⟩
  have hget : ∀ j, j < k + τ.length → η'[j]? = η[σ j]? := by
    intro j hj
    rw [hη', ← hσ]
    by_cases h : j < k
    · rw [List.getElem?_append_left (by omega)]
      simp only [fname, if_pos h]
      obtain ⟨t, ht⟩ := H.pre
      rw [← ht, List.getElem?_append_left (by omega)]
    · rw [List.getElem?_append_right (by omega), hk, List.getElem?_map]
      have hlt : j - k < τ.length := by omega
      simp only [fname, if_neg h, List.getElem?_eq_getElem hlt, Option.map_some, List.getD, Option.getD_some]
      have := hτ _ (List.getElem_mem hlt)
      rw [List.getElem?_eq_getElem (by rw [H.len]; exact this)]
      rfl
  have hbwd : Bwd η η' σ (k + τ.length) := fun j x hj hx => by rw [hget j hj]; exact hx
  have hOl : ∀ j h, lkp j Oc = some h → j < k + τ.length ∧ lkp (σ j) O = some (renH σ h) ∧ belowH (k + τ.length) h = true := fun j h hj => hO (j, h) (lkp_mem hj)
  refine ⟨η', by rw [hη']; exact List.prefix_append _ _, ⟨by rw [hη']; exact List.prefix_append _ _, by rw [hη']; simp [hk], ⟨?_, ?_⟩, H.fr, H.sok⟩, hbwd⟩
  · intro j h hj
    obtain ⟨p1, p2, p3⟩ := hOl j h hj
    exact ⟨(H.own.1 _ _ p2).1.unren hbwd p1 p3, fun n f => (H.own.1 _ _ p2).2 n (f.ren fun x hx => by rw [← hget j p1]; exact hx)⟩
  · intro j j' h h' n hj hj' hne f f'
    obtain ⟨p1, p2, _⟩ := hOl j h hj
    obtain ⟨q1, q2, _⟩ := hOl j' h' hj'
    exact H.own.2 _ _ _ _ n p2 q2 (fun hh => hne (hn j (lkp_namesOf hj) j' (lkp_namesOf hj') hh)) (f.ren fun x hx => by rw [← hget j p1]; exact hx) (f'.ren fun x hx => by rw [← hget j' q1]; exact hx)
theorem FIN.keep {M : Mx} {O : Hps} {nx k : Nat} {r : SV} {Q : SV → Hps → Nat → Prop} (hk : M.η0.length = k) (τ : List Nat) {rc : SV} {Oc : Hps} (hτ : ∀ i ∈ τ, i < nx) (hr : r = ren (fname k τ) rc) (hb : below (k + τ.length) rc = true)
    (hO : ∀ p ∈ Oc, p.1 < k + τ.length ∧ lkp (fname k τ p.1) O = some (renH (fname k τ) p.2) ∧ belowH (k + τ.length) p.2 = true)
    (hn : ∀ j ∈ namesOf Oc, ∀ j' ∈ namesOf Oc, fname k τ j = fname k τ j' → j = j') (hQ : Q rc Oc (k + τ.length)) : FIN M O nx r Q := by
  refine ⟨fun η w v H hd => ?_⟩
  obtain ⟨η', h1, h2, h3⟩ := H.names hk τ hτ hO hn
  exact ⟨rc, Oc, k + τ.length, η', hQ, h1, h2, Den.unren h3 hb (by rw [← hr]; exact hd)⟩

/-! ### From one state to another that says less -/
def SubFr (σ : Nat → Nat) (m : Nat) (fr : Fr) : Fr → Prop
  | [] => True
  | (t, v) :: r => (lkp t fr = some (ren σ v) ∧ below m v = true) ∧ SubFr σ m fr r
theorem SubFr.at {σ : Nat → Nat} {m : Nat} {fr : Fr} : ∀ {fr' : Fr}, SubFr σ m fr fr' → ∀ t v, lkp t fr' = some v → lkp t fr = some (ren σ v) ∧ below m v = true
  | [], _, t, v, h => by simp [lkp] at h
  | (d, u) :: r, hs, t, v, h => by
    rw [lkp_cons] at h
    split at h
    · rename_i e; subst e; injection h with h; subst h; exact hs.1
    · exact SubFr.at hs.2 t v h
def SubO (σ : Nat → Nat) (m : Nat) (O : Hps) : Hps → Prop
  | [] => True
  | (i, h) :: r => (Nat.blt i m = true ∧ lkp (σ i) O = some (renH σ h) ∧ belowH m h = true) ∧ SubO σ m O r
theorem SubO.at {σ : Nat → Nat} {m : Nat} {O : Hps} : ∀ {O' : Hps}, SubO σ m O O' → ∀ p ∈ O', p.1 < m ∧ lkp (σ p.1) O = some (renH σ p.2) ∧ belowH m p.2 = true
  | [], _, p, hp => by cases hp
  | (i, h) :: r, hs, p, hp => by
    rcases List.mem_cons.1 hp with rfl | hp
    · exact ⟨by simpa [Nat.blt_eq] using hs.1.1, hs.1.2⟩
    · exact SubO.at hs.2 p hp
theorem GOES.keep {M : Mx} {fr : Fr} {O : Hps} {nx k : Nat} {fr' : Fr} {O' : Hps} (hk : M.η0.length = k) (τ : List Nat) (hτ : τ.all (fun i => Nat.blt i nx) = true) (hf : SubFr (fname k τ) (k + τ.length) fr fr') (hO : SubO (fname k τ) (k + τ.length) O O')
    (hn : (namesOf O').all (fun j => (namesOf O').all fun j' => !(Nat.beq (fname k τ j) (fname k τ j')) || Nat.beq j j') = true) : GOES M fr O nx fr' O' (k + τ.length) := by
  refine ⟨fun η a w hm => ?_⟩
  obtain ⟨η', h1, h2, h3⟩ := hm.heap.names hk τ (fun i hi => by have := List.all_eq_true.1 hτ i hi; simpa [Nat.blt_eq] using this) hO.at (fun j hj j' hj' he => by
    have := List.all_eq_true.1 (List.all_eq_true.1 hn j hj) j' hj'
    simp only [he, beq_self, Bool.not_true, Bool.false_or] at this
    exact beq_eq this)
  refine ⟨η', h2, hm.size, hm.defers, fun t v ht => ?_⟩
  obtain ⟨h4, h5⟩ := hf.at t v ht
  exact Den.unren h3 h5 (hm.frame t _ h4)
end Go.Sx
/- From one state of a walk to another that says less; numbers within bounds; words for scripts. Conditions: none. -/
set_option linter.unusedVariables false
set_option linter.unusedSimpArgs false
namespace Go.Sx
open Go

/-! ### The same names -/
section
variable {σ : Nat → Nat}
theorem renB_id (h : ∀ j, σ j = j) : ∀ b, renB σ b = b
  | .glob g => rfl
  | .loc i => by simp only [renB, h]
mutual
theorem ren_id (h : ∀ j, σ j = j) : ∀ v, ren σ v = v
  | .bool _ => rfl
  | .int _ _ => rfl
  | .str _ => rfl
  | .val _ => rfl
  | .any => rfl
  | .ptr b _ _ _ => by simp only [ren, renB_id h]
  | .sl b _ _ _ _ => by simp only [ren, renB_id h]
  | .agg cs => by simp only [ren, renL_id h cs]
  | .arr _ rs => by simp only [ren, renLL_id h rs]
  | .tup vs => by simp only [ren, renL_id h vs]
  | .ifc _ v => by simp only [ren, ren_id h v]
  | .fn _ a b => by simp only [ren, renL_id h a, renL_id h b]
theorem renL_id (h : ∀ j, σ j = j) : ∀ vs, renL σ vs = vs
  | [] => rfl
  | c :: cs => by simp only [renL, ren_id h c, renL_id h cs]
theorem renLL_id (h : ∀ j, σ j = j) : ∀ vs, renLL σ vs = vs
  | [] => rfl
  | c :: cs => by simp only [renLL, renL_id h c, renLL_id h cs]
end
theorem renH_id (h : ∀ j, σ j = j) : ∀ hp, renH σ hp = hp
  | .box _ => by simp only [renH, renL_id h]
  | .rows _ _ => by simp only [renH, renLL_id h]
  | .siter _ _ => rfl
  | .bld _ _ _ => rfl
end

/-! ### A state cut down -/
def CutFr (m : Nat) (fr : Fr) : Fr → Prop
  | [] => True
  | (t, v) :: r => (lkp t fr = some v ∧ below m v = true) ∧ CutFr m fr r
def CutO (m : Nat) (O : Hps) : Hps → Prop
  | [] => True
  | (i, h) :: r => (lkp i O = some h ∧ Nat.blt i m = true ∧ belowH m h = true) ∧ CutO m O r
theorem CutFr.at {m : Nat} {fr : Fr} : ∀ {fr' : Fr}, CutFr m fr fr' → ∀ t v, lkp t fr' = some v → lkp t fr = some v ∧ below m v = true
  | [], _, t, v, h => by simp [lkp] at h
  | (d, u) :: r, hs, t, v, h => by
    rw [lkp_cons] at h
    split at h
    · rename_i e; subst e; injection h with h; subst h; exact hs.1
    · exact CutFr.at hs.2 t v h
theorem CutO.at {m : Nat} {O : Hps} : ∀ {O' : Hps}, CutO m O O' → ∀ i h, lkp i O' = some h → lkp i O = some h ∧ i < m ∧ belowH m h = true
  | [], _, t, v, h => by simp [lkp] at h
  | (d, u) :: r, hs, t, v, h => by
    rw [lkp_cons] at h
    split at h
    · rename_i e; subst e; injection h with h; subst h
      exact ⟨hs.1.1, by simpa [Nat.blt_eq] using hs.1.2.1, hs.1.2.2⟩
    · exact CutO.at hs.2 t v h
variable {M : Mx} {fr fr' : Fr} {O O' : Hps} {nx : Nat}
theorem GOES.cut {k : Nat} (m : Nat) (hk : M.η0.length = k) (hkm : Nat.ble k m = true) (hmn : Nat.ble m nx = true) (hf : CutFr m fr fr') (hO : CutO m O O') : GOES M fr O nx fr' O' m := by
  have hkm := Nat.le_of_ble_eq_true hkm
  have hmn := Nat.le_of_ble_eq_true hmn
  refine ⟨fun η a w hm => ?_⟩
  have hid : ∀ j : Nat, id j = j := fun _ => rfl
  have hbwd : Bwd η (η.take m) id m := fun i x hi hx => by
    simp only [id] at hx
    rw [List.getElem?_take, if_pos hi]; exact hx
  have hlen : (η.take m).length = m := by rw [List.length_take, hm.heap.len]; omega
  refine ⟨η.take m, ⟨?_, hlen, ⟨fun i h hi => ?_, fun i j h h' n hi hj hij f f' => ?_⟩, hm.heap.fr, hm.heap.sok⟩, hm.size, hm.defers, fun t v ht => ?_⟩
  · obtain ⟨t, ht⟩ := hm.heap.pre
    refine ⟨t.take (m - k), ?_⟩
    rw [← ht, List.take_append, hk, List.take_of_length_le (l := M.η0) (by omega)]
  · obtain ⟨h1, h2, h3⟩ := hO.at i h hi
    refine ⟨HpSat.unren hbwd h2 h3 ?_, fun n f => (hm.heap.own.1 i h h1).2 n (f.mono (List.take_prefix m η))⟩
    rw [renH_id hid]; exact (hm.heap.own.1 i h h1).1
  · obtain ⟨h1, h2, h3⟩ := hO.at i h hi
    obtain ⟨h4, h5, h6⟩ := hO.at j h' hj
    exact hm.heap.own.2 i j h h' n h1 h4 hij (f.mono (List.take_prefix m η)) (f'.mono (List.take_prefix m η))
  · obtain ⟨h1, h2⟩ := hf.at t v ht
    exact Den.unren hbwd h2 (by rw [ren_id hid]; exact hm.frame t v h1)
/-- The same, as a reduction lays it out. -/
def cutK (fr : Fr) : Fr → Prop
  | [] => True
  | (t, v) :: r => match lkp t fr with
    | some u => u = v ∧ cutK fr r
    | none => False
def cutOK (O : Hps) : Hps → Prop
  | [] => True
  | (i, h) :: r => match lkp i O with
    | some g => g = h ∧ cutOK O r
    | none => False
def belowFr (m : Nat) : Fr → Bool
  | [] => true
  | (_, v) :: r => below m v && belowFr m r
def belowO (m : Nat) : Hps → Bool
  | [] => true
  | (i, h) :: r => Nat.blt i m && (belowH m h && belowO m r)
theorem cutK_fr {m : Nat} {fr : Fr} : ∀ {fr' : Fr}, cutK fr fr' → belowFr m fr' = true → CutFr m fr fr'
  | [], _, _ => trivial
  | (t, v) :: r, h, b => by
    simp only [cutK] at h
    simp only [belowFr, Bool.and_eq_true] at b
    split at h
    · rename_i u hu
      obtain ⟨rfl, h⟩ := h
      exact ⟨⟨hu, b.1⟩, cutK_fr h b.2⟩
    · exact h.elim
theorem cutOK_o {m : Nat} {O : Hps} : ∀ {O' : Hps}, cutOK O O' → belowO m O' = true → CutO m O O'
  | [], _, _ => trivial
  | (t, v) :: r, h, b => by
    simp only [cutOK] at h
    simp only [belowO, Bool.and_eq_true] at b
    split at h
    · rename_i u hu
      obtain ⟨rfl, h⟩ := h
      exact ⟨⟨hu, b.1, b.2.1⟩, cutOK_o h b.2.2⟩
    · exact h.elim
theorem GOES.cutting {k m : Nat} (hk : M.η0.length = k) (hkm : Nat.ble k m = true) (hmn : Nat.ble m nx = true) (hbf : belowFr m fr' = true) (hbo : belowO m O' = true) (hf : cutK fr fr') (hO : cutOK O O') : GOES M fr O nx fr' O' m :=
  GOES.cut m hk hkm hmn (cutK_fr hf hbf) (cutOK_o hO hbo)
theorem GOES.trans {fr2 : Fr} {O2 : Hps} {n1 n2 : Nat} (h : GOES M fr O nx fr' O' n1) (k : GOES M fr' O' n1 fr2 O2 n2) : GOES M fr O nx fr2 O2 n2 :=
  ⟨fun η a w hm => let ⟨η1, h1⟩ := h.out η a w hm; k.out η1 a w h1⟩
/-- The empty slice, by a name of its own. -/
theorem GOES.nil (t es : Nat) (h0 : lkp t fr = some (.val (.slice none 0 0))) : GOES M fr O nx ((t, .sl (.loc nx) 0 es 0 none) :: fr) ((nx, .rows es []) :: O) (nx + 1) := by
  refine ⟨fun η a w hm => ?_⟩
  have hpre : η <+: η ++ [none] := List.prefix_append _ _
  have hnew : (η ++ [none])[nx]? = some none := by rw [List.getElem?_append_right (by rw [hm.heap.len]; omega), hm.heap.len]; simp
  refine ⟨η ++ [none], hm.heap.push none (fun _ _ => rfl) (Nat.le_refl _) rfl rfl rfl (Nat.le_refl _) (.inl ⟨hnew, rfl⟩) (fun k f => (feet.none (b := .loc nx) hnew f).elim) (fun k f => (feet.none (b := .loc nx) hnew f).elim), hm.size, hm.defers, fun u v hu => ?_⟩
  · rw [lkp_cons] at hu
    split at hu
    · rename_i e; subst e; injection hu with hu; subst hu
      have := hm.frame u _ h0
      simp only [Den] at this ⊢
      exact .inl ⟨hnew, this.1, trivial⟩
    · exact Den.mono hpre (hm.frame u v hu)
theorem LOOP.goes {body : Code} {Q : Post} {n1 : Nat} (h : GOES M fr O nx fr' O' n1) (k : LOOP M body fr' O' n1 Q) : LOOP M body fr O nx Q :=
  ⟨fun η a w hm => let ⟨η1, h1⟩ := h.out η a w hm; k.out η1 a w h1⟩
theorem LOOP.nil {body : Code} {Q : Post} (t es : Nat) (h0 : lkp t fr = some (.val (.slice none 0 0))) (k : LOOP M body ((t, .sl (.loc nx) 0 es 0 none) :: fr) ((nx, .rows es []) :: O) (nx + 1) Q) : LOOP M body fr O nx Q := LOOP.goes (GOES.nil t es h0) k

/-! ### Ends with a new slice -/
theorem FIN.rows {k : Nat} {r : SV} {Q : SV → Hps → Nat → Prop} (hk : M.η0.length = k) (i es len : Nat) {rs : List (List SV)} (hr : r = .sl (.loc i) 0 es len none) (hO : lkp i O = some (.rows es rs)) (hi : Nat.blt i nx = true) (hp : plainLL rs = true)
    (hQ : Q (.sl (.loc k) 0 es len none) [(k, .rows es rs)] (k + 1)) : FIN M O nx r Q := by
  have hi : i < nx := by simpa [Nat.blt_eq] using hi
  have hf : fname k [i] k = i := by simp [fname]
  refine FIN.keep hk [i] (rc := .sl (.loc k) 0 es len none) (Oc := [(k, .rows es rs)]) (fun j hj => by simp at hj; omega) (by rw [hr]; simp only [ren, renB, hf]) (by simp [below, belowB, Nat.blt_eq]) ?_ ?_ hQ
  · intro p hp'
    simp only [List.mem_singleton] at hp'
    subst hp'
    refine ⟨by simp, ?_, by simp only [belowH, plainLL_below _ hp]⟩
    simp only [renH, hf, renLL_plain _ hp, hO]
  · intro j hj j' hj' _
    simp [namesOf] at hj hj'
    omega

/-- A new slice of bytes, and nothing else. -/
def NewBytes (k : Nat) (l : List UInt8) : SV → Hps → Nat → Prop := fun r O nx => r = .sl (.loc k) 0 1 l.length none ∧ O = [(k, .rows 1 (l.map bytesRow))] ∧ nx = k + 1
theorem plainBytes (l : List UInt8) : plainLL (l.map bytesRow) = true := plainLL_map _ (fun _ => rfl) l
theorem cname_ge {L : List Nat} {nx k : Nat} (hL : L.length = k) : cname L nx k = nx := by simp [cname, hL]
theorem CALL.bytes {f : FuncId} {args : List SV} {K : SV → Hps → Nat → Prop} {l : List UInt8} (sp : Does M.P M.C.T f 0 args [] [] (NewBytes 0 l)) (hp : plainL args = true)
    (hK : K (.sl (.loc nx) 0 1 l.length none) ((nx, .rows 1 (l.map bytesRow)) :: O) (nx + 1)) : CALL M f args O nx K := by
  refine CALL.of [] sp rfl (fun i hi => by cases hi) (renL_plain _ hp).symm (plainL_below 0 hp) (fun p hp => by cases hp) (fun j hj => by cases hj) (fun p hp => by cases hp) ?_
  rintro r' O' nx' ⟨rfl, rfl, rfl⟩
  simp only [ren, renB, renO, renH, renLL_plain _ (plainBytes l), cname_ge (L := []) (nx := nx) (k := 0) rfl, namesOf, List.map_nil, outside_nil, List.cons_append, List.nil_append]
  exact hK
theorem rowsBytes (xs : List UInt8) (r n : Nat) : ((xs.map bytesRow).drop r).take n = ((xs.drop r).take n).map bytesRow := by rw [List.map_take, List.map_drop]
theorem unrow (xs : List UInt8) : (xs.map bytesRow).map rowByte = xs := rowByte_bytes xs
/-- The condition at a text made of bytes. -/
theorem needText {xs : List UInt8} {r n : Nat} (h : r + n ≤ xs.length) : (((xs.map bytesRow).drop r).take n).length = n ∧ ∃ l : List UInt8, ((xs.map bytesRow).drop r).take n = l.map bytesRow :=
  ⟨by simp; omega, _, rowsBytes xs r n⟩
/-- The text made of all the bytes. -/
theorem textAll (xs : List UInt8) : (((xs.map bytesRow).drop 0).take xs.length).map rowByte = xs := by rw [rowsBytes, unrow]; simp

/-- A call of a function that looks at one slice. -/
theorem CALL.look1 {f : FuncId} {args argsc : List SV} {K : SV → Hps → Nat → Prop} {es : Nat} {rs : List (List SV)} {r : SV} (i : Nat) (sp : Does M.P M.C.T f 1 argsc [] [(0, .rows es rs)] (ValK 1 r))
    (ha : args = renL (cname [i] nx) argsc) (hi : Nat.blt i nx = true) (hb : belowL 1 argsc = true) (hO : hLook M.C O (.loc i) = some (.rows es rs)) (hp : plainLL rs = true) (hr : plain r = true) (hK : K r O nx) : CALL M f args O nx K := by
  refine CALL.looks [i] sp rfl (by simp [hi]) ha hb ⟨⟨rfl, ?_, plainH_below _ hp⟩, trivial⟩ ?_
  · rw [show renH (cname [i] nx) (.rows es rs) = .rows es rs from renH_plain _ hp]
    exact hO
  · rw [ren_plain _ hr]; exact hK

/-! ### Loops, told by what changes -/
/-- What stays of a frame. -/
def keepK : List Nat → Fr → (Fr → Prop) → Prop
  | [], _, K => K []
  | t :: ts, fr, K => match lkp t fr with
    | some v => keepK ts fr fun r => K ((t, v) :: r)
    | none => STOP "kept"
def appK : Fr → Fr → (Fr → Prop) → Prop
  | [], r, K => K r
  | (t, v) :: l, r, K => appK l r fun r => K ((t, v) :: r)
def appO : Hps → (Hps → Prop) → Prop
  | [], K => K []
  | (t, v) :: l, K => appO l fun r => K ((t, v) :: r)
theorem keepK_iff : ∀ {ts : List Nat} {fr : Fr} {K : Fr → Prop}, keepK ts fr K → ∃ r, K r
  | [], _, _, h => ⟨_, h⟩
  | t :: ts, fr, K, h => by
    simp only [keepK] at h
    split at h
    · obtain ⟨r, hr⟩ := keepK_iff h; exact ⟨_, hr⟩
    · exact h.out.elim
theorem appK_iff : ∀ {l r : Fr} {K : Fr → Prop}, appK l r K ↔ K (l ++ r)
  | [], r, K => Iff.rfl
  | (t, v) :: l, r, K => by simp only [appK, List.cons_append, appK_iff]
theorem appO_iff : ∀ {l : Hps} {K : Hps → Prop}, appO l K ↔ K l
  | [], K => Iff.rfl
  | (t, v) :: l, K => by simp only [appO, appO_iff]
/-- A loop: of the frame stay the slots ks, and there is what chg tells of a tale x; the heap is Ox of it, by n0 names. -/
theorem LOOP.go {body : Code} {Q : Post} (hT : TabOK M.P M.C.T) (ks : List Nat) {X : Type} (P : X → Prop) (chg : X → Fr) (Ox : X → Hps) (n0 : Nat) (μ : X → Nat) (x0 : X) (hP : P x0)
    (h : keepK ks fr fun fr0 => (appK (chg x0) fr0 fun fr' => appO (Ox x0) fun O' => GOES M fr O nx fr' O' n0) ∧
      ∀ x, P x → appK (chg x) fr0 fun fr1 => appO (Ox x) fun O1 => run M body fr1 O1 n0 fun e fr O nx => match e with
        | .normal => ∃ x', P x' ∧ μ x' < μ x ∧ appK (chg x') fr0 fun fr' => appO (Ox x') fun O' => GOES M fr O nx fr' O' n0
        | e => Q e fr O nx) : LOOP M body fr O nx Q := by
  obtain ⟨fr0, h1, h2⟩ := keepK_iff h
  simp only [appK_iff, appO_iff] at h1 h2
  exact LOOP.inv hT P (fun x => (chg x ++ fr0, Ox x, n0)) μ x0 hP h1 h2

theorem GETG.at {rs : List (List SV)} {i : Nat} {g : Prop} {K : List SV → Prop} {row : List SV} (h : rs[i]? = some row) (k : K row) : GETG g rs i K := ⟨row, fun _ => h, k⟩

/-! ### Numbers within bounds -/
theorem wrap64 {a : Int} (h1 : -9223372036854775808 ≤ a) (h2 : a ≤ 9223372036854775807) : IntKind.i64.wrap a = a := IntWalk.i64_in _ ⟨by omega, by omega⟩
theorem some_int {k : IntKind} {a b : Int} (h : a = b) : some (SV.int k a) = some (SV.int k b) := by rw [h]
/-! ### What the walk's tests say in plain words: a row of rules under one name -/
theorem hsB : (∀ (p : Prop) [Decidable p], (decide p = true) = p) ∧ (∀ (p : Prop) [Decidable p], (decide p = false) ↔ ¬ p) ∧ (∀ b : Bool, (¬ b = true) = (b = false)) ∧ (∀ b : Bool, (¬ b = false) = (b = true)) ∧ (∀ a b : Bool, ((!a) = b) ↔ (a = !b)) ∧
    ((!true) = false) ∧ ((!false) = true) ∧ (∀ a b : Bool, ((a && b) = true) = (a = true ∧ b = true)) ∧ (∀ a b : Bool, ((a || b) = true) = (a = true ∨ b = true)) ∧ (∀ a b : Bool, ((a && b) = false) = (a = true → b = false)) ∧ (∀ a b : Bool, ((a || b) = false) = (a = false ∧ b = false)) ∧
    (∀ {α : Type} [BEq α] [LawfulBEq α] (a b : α), ((a != b) = true) ↔ a ≠ b) ∧ (∀ {α : Type} [BEq α] [LawfulBEq α] (a b : α), ((a != b) = false) ↔ a = b) ∧ (∀ {α : Type} [BEq α] [LawfulBEq α] (a b : α), ((a == b) = true) ↔ a = b) ∧ (∀ {α : Type} [BEq α] [LawfulBEq α] (a b : α), ((a == b) = false) ↔ a ≠ b) ∧
    (∀ {α : Type} (a b : α), (a ≠ b) = ¬ (a = b)) ∧ (∀ c : Bool, (bif c then c else false) = c) ∧ (∀ a b : Bool, (bif a then b else false) = (a && b)) ∧ (∀ a b : Bool, (bif a then true else b) = (a || b)) ∧ (∀ a b : Bool, (bif a then b else true) = (!a || b)) ∧ (∀ a b : Bool, (bif a then false else b) = (!a && b)) :=
  ⟨fun p _ => by simp, fun p _ => by simp, fun b => by simp, fun b => by simp, fun a b => by cases a <;> cases b <;> simp, rfl, rfl, fun a b => by simp, fun a b => by simp, fun a b => by simp, fun a b => by simp, fun a b => by simp, fun a b => by simp, fun a b => by simp, fun a b => by simp,
    fun a b => rfl, fun c => by cases c <;> rfl, fun a b => by cases a <;> rfl, fun a b => by cases a <;> rfl, fun a b => by cases a <;> rfl, fun a b => by cases a <;> rfl⟩
theorem hsC : (∀ a b : Int, (¬ a < b) ↔ b ≤ a) ∧ (∀ a b : Int, (¬ a ≤ b) ↔ b < a) ∧ (decide True = true) ∧ (decide False = false) ∧ (∀ {α : Type} (a b : α), (bif true then a else b) = a) ∧ (∀ {α : Type} (a b : α), (bif false then a else b) = b) ∧
    (∀ b : Bool, (true || b) = true) ∧ (∀ b : Bool, (b || true) = true) ∧ (∀ b : Bool, (false || b) = b) ∧ (∀ b : Bool, (b || false) = b) ∧ (∀ b : Bool, (true && b) = b) ∧ (∀ b : Bool, (b && true) = b) ∧ (∀ b : Bool, (false && b) = false) ∧ (∀ b : Bool, (b && false) = false) ∧
    (∀ p : Prop, (True ∨ p) = True) ∧ (∀ p : Prop, (p ∨ True) = True) ∧ (∀ p : Prop, (False ∨ p) = p) ∧ (∀ p : Prop, (p ∨ False) = p) ∧ (∀ p : Prop, (True ∧ p) = p) ∧ (∀ p : Prop, (p ∧ True) = p) ∧ (∀ p : Prop, (False ∧ p) = False) ∧ (∀ p : Prop, (p ∧ False) = False) ∧
    ((¬ True) = False) ∧ ((¬ False) = True) ∧ ((false = true) = False) ∧ ((true = false) = False) ∧ (∀ p q : Prop, (¬ (p ∨ q)) ↔ (¬ p ∧ ¬ q)) ∧ (∀ p q : Prop, (¬ (p ∧ q)) ↔ (p → ¬ q)) ∧ (∀ p : Prop, (¬ ¬ p) ↔ p) :=
  ⟨fun a b => Int.not_lt, fun a b => Int.not_le, by simp, by simp, fun a b => rfl, fun a b => rfl, fun b => by simp, fun b => by simp, fun b => by simp, fun b => by simp, fun b => by simp, fun b => by simp, fun b => by simp, fun b => by simp, fun p => by simp, fun p => by simp, fun p => by simp, fun p => by simp, fun p => by simp, fun p => by simp, fun p => by simp, fun p => by simp,
    by simp, by simp, by simp, by simp, fun p q => by simp, fun p q => by simp, fun p => Classical.not_not⟩
theorem lnB : (∀ {α : Type} (a : α) (l : List α), (a :: l).length = l.length + 1) ∧ (∀ {α : Type}, ([] : List α).length = 0) ∧ (∀ {α : Type} (a b : List α), (a ++ b).length = a.length + b.length) ∧ (∀ p : Prop, (True ∧ p) = p) ∧ (∀ p : Prop, (p ∧ True) = p) :=
  ⟨fun a l => rfl, rfl, fun a b => List.length_append, fun p => by simp, fun p => by simp⟩
end Go.Sx
/- UTF-8 in plain words: what stands at a place of a text. No program in sight. -/
set_option linter.unusedVariables false
namespace Go.Our
open Go.Sx

/-- Texts that fit into memory. -/
abbrev Sm (s : List UInt8) : Prop := s.length ≤ 1152921504606846976
/-- A byte as a number. -/
abbrev bn (c : UInt8) : Int := (c.toNat : Int)
theorem bn_lt (c : UInt8) : 0 ≤ bn c ∧ bn c < 256 := by
  have := c.toNat_lt
  unfold bn; omega
theorem byteAt_lt (s : List UInt8) (i : Int) : 0 ≤ byteAt s i ∧ byteAt s i < 256 := bn_lt _

def Scalar (r : Int) : Prop := 0 ≤ r ∧ r ≤ 1114111 ∧ (r < 55296 ∨ 57343 < r)
instance (r : Int) : Decidable (Scalar r) := by unfold Scalar; infer_instance
def scalarM (r : Int) : Bool := decide (Scalar r)
theorem scalarM_true {r : Int} : scalarM r = true ↔ 0 ≤ r ∧ r ≤ 1114111 ∧ (r < 55296 ∨ 57343 < r) := decide_eq_true_iff
theorem scalarM_false {r : Int} : scalarM r = false ↔ ¬ (0 ≤ r ∧ r ≤ 1114111 ∧ (r < 55296 ∨ 57343 < r)) := decide_eq_false_iff_not
def leadM (c : Int) : Int × Int :=
  if c < 128 then (1, c) else if c < 192 then (0, 0) else if c < 224 then (2, c % 32) else if c < 240 then (3, c % 16) else if c < 248 then (4, c % 8) else (0, 0)
def leastM (n : Int) : Int := if n = 2 then 128 else if n = 3 then 2048 else if n = 4 then 65536 else 0
theorem leastM1 : leastM 1 = 0 := rfl
theorem leastM2 : leastM 2 = 128 := rfl
theorem leastM3 : leastM 3 = 2048 := rfl
theorem leastM4 : leastM 4 = 65536 := rfl
def Cont (c : Int) : Prop := 128 ≤ c ∧ c < 192
def r2 (a b : Int) : Int := a % 32 * 64 + b % 64
def r3 (a b c : Int) : Int := (a % 16 * 64 + b % 64) * 64 + c % 64
def r4 (a b c d : Int) : Int := ((a % 8 * 64 + b % 64) * 64 + c % 64) * 64 + d % 64
/-- Out of up to four bytes, of m that there are: the scalar at the front, and how many bytes it has; (0, 0): there is none. -/
def decB (m a b c d : Int) : Int × Int :=
  if a < 128 then (a, 1)
  else if a < 192 then (0, 0)
  else if a < 224 then
    if 2 ≤ m ∧ (128 ≤ b ∧ b < 192) ∧ 128 ≤ r2 a b then (r2 a b, 2) else (0, 0)
  else if a < 240 then
    if 3 ≤ m ∧ (128 ≤ b ∧ b < 192) ∧ (128 ≤ c ∧ c < 192) ∧ 2048 ≤ r3 a b c ∧ (r3 a b c < 55296 ∨ 57343 < r3 a b c) then (r3 a b c, 3) else (0, 0)
  else if a < 248 then
    if 4 ≤ m ∧ (128 ≤ b ∧ b < 192) ∧ (128 ≤ c ∧ c < 192) ∧ (128 ≤ d ∧ d < 192) ∧ 65536 ≤ r4 a b c d ∧ r4 a b c d ≤ 1114111 then (r4 a b c d, 4) else (0, 0)
  else (0, 0)
/-- The scalar at the front of a text, and how many bytes it has; (0, 0): there is none. -/
def dec (l : List UInt8) : Int × Int :=
  if l = [] then (0, 0) else decB l.length (bn (l.getD 0 0)) (bn (l.getD 1 0)) (bn (l.getD 2 0)) (bn (l.getD 3 0))
/-- The scalar at a place. -/
def nextAt (s : List UInt8) (i : Int) : Int × Int := if i < 0 ∨ (s.length : Int) ≤ i then (0, 0) else decB (s.length - i) (byteAt s i) (byteAt s (i + 1)) (byteAt s (i + 2)) (byteAt s (i + 3))
theorem getD_drop (s : List UInt8) (n k : Nat) : (s.drop n).getD k 0 = s.getD (n + k) 0 := by
  simp [List.getD, List.getElem?_drop]
theorem nextAt_drop {s : List UInt8} {i : Int} (h : 0 ≤ i ∧ i < s.length) : nextAt s i = dec (s.drop i.toNat) := by
  unfold nextAt dec
  rw [if_neg (by omega), if_neg (by intro h'; have := congrArg List.length h'; simp at this; omega)]
  simp only [getD_drop, byteAt, List.length_drop, bn]
  rw [show (i + 1).toNat = i.toNat + 1 by omega, show (i + 2).toNat = i.toNat + 2 by omega, show (i + 3).toNat = i.toNat + 3 by omega, show ((s.length - i.toNat : Nat) : Int) = s.length - i by omega]
  rfl
theorem decB_n (m a b c d : Int) (h : 1 ≤ m) : (decB m a b c d).2 = 0 ∨ 1 ≤ (decB m a b c d).2 ∧ (decB m a b c d).2 ≤ 4 ∧ (decB m a b c d).2 ≤ m := by
  unfold decB
  (repeat' split) <;> simp <;> omega
theorem nextAt_n (s : List UInt8) (i : Int) : (nextAt s i).2 = 0 ∨ 1 ≤ (nextAt s i).2 ∧ (nextAt s i).2 ≤ 4 ∧ (nextAt s i).2 ≤ s.length - i := by
  unfold nextAt
  split
  · simp
  · exact decB_n _ _ _ _ _ (by omega)
/-- The first place, from one on, at which no scalar stands; -1: there is none. -/
def chk (s : List UInt8) (i : Nat) : Int :=
  if h : i < s.length ∧ (nextAt s i).2 ≠ 0 then chk s (i + (nextAt s i).2.toNat) else if i < s.length then i else -1
termination_by s.length - i
decreasing_by have := nextAt_n s i; omega
theorem chk_end {s : List UInt8} {i : Nat} (h : s.length ≤ i) : chk s i = -1 := by
  rw [chk, dif_neg (by omega), if_neg (by omega)]
theorem chk_bad {s : List UInt8} {i : Nat} (h : i < s.length) (h0 : (nextAt s i).2 = 0) : chk s i = i := by
  rw [chk, dif_neg (by simp [h0]), if_pos h]
theorem chk_step {s : List UInt8} {i : Nat} (h : i < s.length) (h0 : (nextAt s i).2 ≠ 0) : chk s i = chk s (i + (nextAt s i).2.toNat) := by
  rw [chk, dif_pos ⟨h, h0⟩]
theorem chk_ge (s : List UInt8) (i : Nat) : -1 ≤ chk s i := by
  induction i using chk.induct s with
  | case1 i h ih => rw [chk_step h.1 h.2]; exact ih
  | case2 i h hlt =>
    have : (nextAt s i).2 = 0 := by
      apply Classical.byContradiction; intro hh; exact h ⟨hlt, hh⟩
    rw [chk_bad hlt this]; omega
  | case3 i h hlt => rw [chk_end (by omega)]; omega
theorem leadM_cases (c : Int) : (c < 128 ∧ leadM c = (1, c)) ∨ ((128 ≤ c ∧ c < 192 ∨ 248 ≤ c) ∧ leadM c = (0, 0)) ∨ ((192 ≤ c ∧ c < 224) ∧ leadM c = (2, c % 32)) ∨ ((224 ≤ c ∧ c < 240) ∧ leadM c = (3, c % 16)) ∨ ((240 ≤ c ∧ c < 248) ∧ leadM c = (4, c % 8)) := by
  unfold leadM
  (repeat' split) <;> simp <;> omega
/-! ### Bits of bytes -/
theorem byte_all {p : Nat → Bool} (h : (List.range 256).all p = true) (c : UInt8) : p c.toNat = true :=
  List.all_eq_true.1 h c.toNat (List.mem_range.2 c.toNat_lt)
theorem int_all {p : Int → Bool} (h : (List.range 256).all (fun n => p (n : Int)) = true) {c : Int} (h0 : 0 ≤ c ∧ c < 256) : p c = true := by
  have := List.all_eq_true.1 h c.toNat (List.mem_range.2 (by omega))
  rwa [show ((c.toNat : Nat) : Int) = c by omega] at this
theorem and31 {c : Int} (h : 0 ≤ c ∧ c < 256) : iAnd .u8 c 31 = c % 32 := by
  have := int_all (p := fun n => iAnd .u8 n 31 == n % 32) (by decide +kernel) h
  simpa using this
theorem and15 {c : Int} (h : 0 ≤ c ∧ c < 256) : iAnd .u8 c 15 = c % 16 := by
  have := int_all (p := fun n => iAnd .u8 n 15 == n % 16) (by decide +kernel) h
  simpa using this
theorem and7 {c : Int} (h : 0 ≤ c ∧ c < 256) : iAnd .u8 c 7 = c % 8 := by
  have := int_all (p := fun n => iAnd .u8 n 7 == n % 8) (by decide +kernel) h
  simpa using this
theorem and63 {c : Int} (h : 0 ≤ c ∧ c < 256) : iAnd .u8 c 63 = c % 64 := by
  have := int_all (p := fun n => iAnd .u8 n 63 == n % 64) (by decide +kernel) h
  simpa using this
theorem and192 {c : Int} (h : 0 ≤ c ∧ c < 256) : iAnd .u8 c 192 = c / 64 * 64 := by
  have := int_all (p := fun n => iAnd .u8 n 192 == n / 64 * 64) (by decide +kernel) h
  simpa using this
theorem wrap32 {a : Int} (h1 : -2147483648 ≤ a) (h2 : a ≤ 2147483647) : IntKind.i32.wrap a = a := IntWalk.i32_in _ ⟨by omega, by omega⟩
theorem ofInt_nat (w n : Nat) : (BitVec.ofInt w (n : Int)).toNat = n % 2 ^ w := by
  rw [BitVec.toNat_ofInt]; norm_cast
theorem or_nat {k : IntKind} {a b i : Nat} (hb : b < 2 ^ i) (h : a * 2 ^ i + b < 2 ^ k.bits) : iOr k ((a * 2 ^ i : Nat) : Int) (b : Int) = k.wrap ((a * 2 ^ i + b : Nat) : Int) := by
  unfold iOr
  have h1 : (BitVec.ofInt k.bits ((a * 2 ^ i : Nat) : Int) ||| BitVec.ofInt k.bits (b : Int)).toNat = a * 2 ^ i + b := by
    rw [BitVec.toNat_or, ofInt_nat, ofInt_nat, Nat.mod_eq_of_lt (by omega), Nat.mod_eq_of_lt (by omega)]
    rw [← Nat.shiftLeft_eq, Nat.shiftLeft_add_eq_or_of_lt hb]
  rw [h1]
/-- Six more bits. -/
theorem or6 {x c : Int} (hx : 0 ≤ x ∧ x < 16777216) (hc : 0 ≤ c ∧ c < 256) : iOr .i32 (iShl .i32 x 6) (IntKind.i32.wrap (iAnd .u8 c 63)) = x * 64 + c % 64 := by
  rw [and63 hc, wrap32 (by omega) (by omega)]
  have h1 : iShl .i32 x 6 = ((x.toNat * 2 ^ 6 : Nat) : Int) := by
    unfold iShl
    rw [show (min (Int.toNat 6) (IntKind.i32.bits)) = 6 by decide, show x * 2 ^ 6 = x * 64 by rfl, wrap32 (by omega) (by omega)]
    omega
  have h2 : c % 64 = (((c % 64).toNat : Nat) : Int) := by omega
  rw [h1, h2, or_nat (by omega) (by show _ < 2 ^ 32; omega), wrap32 (by omega) (by omega)]
  omega
end Go.Our
/- UTF-8 in plain words: a scalar's bytes; the scalar that bytes would be. No program in sight. -/
set_option linter.unusedVariables false
set_option linter.unusedSimpArgs false
namespace Go.Our
open Go.Sx
def encI (r : Int) : List Int :=
  if r < 128 then [r] else if r < 2048 then [192 + r / 64, 128 + r % 64] else if r < 65536 then [224 + r / 4096, 128 + r / 64 % 64, 128 + r % 64]
  else [240 + r / 262144, 128 + r / 4096 % 64, 128 + r / 64 % 64, 128 + r % 64]
def byteOf (x : Int) : UInt8 := UInt8.ofNat x.toNat
def encM (r : Int) : List UInt8 := (encI r).map byteOf
/-- The scalar that bytes would be. -/
def rawM : List UInt8 → Int
  | [a] => bn a
  | [a, b] => (bn a - 192) * 64 + bn b - 128
  | [a, b, c] => ((bn a - 224) * 64 + bn b - 128) * 64 + bn c - 128
  | [a, b, c, d] => (((bn a - 240) * 64 + bn b - 128) * 64 + bn c - 128) * 64 + bn d - 128
  | _ => -1
def guessM (l : List UInt8) : Int := if Scalar (rawM l) ∧ encM (rawM l) = l then rawM l else -1
theorem tdivp {a b : Int} (h : 0 ≤ a) : a.tdiv b = a / b := Int.tdiv_eq_ediv_of_nonneg h
theorem tmodp {a b : Int} (h : 0 ≤ a) : a.tmod b = a % b := Int.tmod_eq_emod_of_nonneg h
theorem wrapu8 {a : Int} (h1 : 0 ≤ a) (h2 : a ≤ 255) : IntKind.u8.wrap a = a := IntWalk.u8_in _ ⟨h1, h2⟩
theorem byteOf_bn {x : Int} (h : 0 ≤ x ∧ x < 256) : ((byteOf x).toNat : Int) = x := by
  unfold byteOf
  rw [UInt8.toNat_ofNat_of_lt' (by show x.toNat < 256; omega)]; omega
theorem bytesRow_of {x : Int} (h : 0 ≤ x ∧ x < 256) : [SV.int .u8 x] = Sx.bytesRow (byteOf x) := by
  unfold Sx.bytesRow; rw [byteOf_bn h]
theorem byteOf_of (a : UInt8) : byteOf (bn a) = a := by unfold byteOf bn; simp
theorem encI_lt {r : Int} (h : 0 ≤ r ∧ r ≤ 1114111) : ∀ x ∈ encI r, 0 ≤ x ∧ x < 256 := by
  unfold encI
  (repeat' split) <;> simp <;> omega
theorem map_byteOf : ∀ {l : List Int}, (∀ x ∈ l, 0 ≤ x ∧ x < 256) → (l.map byteOf).map bn = l
  | [], _ => rfl
  | x :: l, h => by
    simp only [List.map_cons]
    rw [map_byteOf (fun y hy => h y (List.mem_cons_of_mem _ hy))]
    unfold bn; rw [byteOf_bn (h x (List.mem_cons_self ..))]
theorem map_bn : ∀ l : List UInt8, (l.map bn).map byteOf = l
  | [] => rfl
  | x :: l => by simp only [List.map_cons, byteOf_of, map_bn l]
theorem encM_iff {r : Int} (h : 0 ≤ r ∧ r ≤ 1114111) (l : List UInt8) : encM r = l ↔ encI r = l.map bn := by
  unfold encM
  constructor
  · rintro rfl; rw [map_byteOf (encI_lt h)]
  · intro e; rw [e, map_bn]
theorem guessM_pos {l : List UInt8} (h : Scalar (rawM l)) (e : encI (rawM l) = l.map bn) : guessM l = rawM l := by
  unfold guessM; exact if_pos ⟨h, (encM_iff ⟨h.1, h.2.1⟩ l).2 e⟩
theorem guessM_neg {l : List UInt8} (h : Scalar (rawM l) → encI (rawM l) = l.map bn → False) : guessM l = -1 := by
  unfold guessM; exact if_neg fun ⟨h1, h2⟩ => h h1 ((encM_iff ⟨h1.1, h1.2.1⟩ l).1 h2)
theorem guess1 (a : UInt8) : guessM [a] = if bn a < 128 then bn a else -1 := by
  have ha := bn_lt a
  have hw : rawM [a] = bn a := rfl
  by_cases h : bn a < 128
  · rw [if_pos h, guessM_pos]
    · omega
    · unfold Scalar; omega
    · rw [hw]
      unfold encI
      simp (disch := omega) only [↓if_pos, ↓if_neg, List.map_cons, List.map_nil, List.cons.injEq, and_true]
      try omega
  · rw [if_neg h, guessM_neg]
    intro h1 h2
    unfold Scalar at h1
    rw [hw] at h2
    unfold encI at h2
    apply h
    (repeat' (split at h2)) <;> simp at h2 <;> omega
theorem guess2 (a b : UInt8) : guessM [a, b] = if (192 ≤ bn a ∧ bn a < 224) ∧ (128 ≤ bn b ∧ bn b < 192) ∧ 128 ≤ r2 (bn a) (bn b) then r2 (bn a) (bn b) else -1 := by
  have ha := bn_lt a
  have hb := bn_lt b
  have hw : rawM [a, b] = (bn a - 192) * 64 + bn b - 128 := rfl
  have hr : r2 (bn a) (bn b) = bn a % 32 * 64 + bn b % 64 := rfl
  by_cases h : (192 ≤ bn a ∧ bn a < 224) ∧ (128 ≤ bn b ∧ bn b < 192) ∧ 128 ≤ r2 (bn a) (bn b)
  · rw [if_pos h, guessM_pos]
    · omega
    · unfold Scalar; omega
    · rw [hw]
      unfold encI
      simp (disch := omega) only [↓if_pos, ↓if_neg, List.map_cons, List.map_nil, List.cons.injEq, and_true]
      try omega
  · rw [if_neg h, guessM_neg]
    intro h1 h2
    unfold Scalar at h1
    rw [hw] at h2
    unfold encI at h2
    apply h
    (repeat' (split at h2)) <;> simp at h2 <;> omega
theorem guess3 (a b c : UInt8) : guessM [a, b, c] = if (224 ≤ bn a ∧ bn a < 240) ∧ (128 ≤ bn b ∧ bn b < 192) ∧ (128 ≤ bn c ∧ bn c < 192) ∧ 2048 ≤ r3 (bn a) (bn b) (bn c) ∧ (r3 (bn a) (bn b) (bn c) < 55296 ∨ 57343 < r3 (bn a) (bn b) (bn c)) then r3 (bn a) (bn b) (bn c) else -1 := by
  have ha := bn_lt a
  have hb := bn_lt b
  have hc := bn_lt c
  have hw : rawM [a, b, c] = ((bn a - 224) * 64 + bn b - 128) * 64 + bn c - 128 := rfl
  have hr : r3 (bn a) (bn b) (bn c) = (bn a % 16 * 64 + bn b % 64) * 64 + bn c % 64 := rfl
  by_cases h : (224 ≤ bn a ∧ bn a < 240) ∧ (128 ≤ bn b ∧ bn b < 192) ∧ (128 ≤ bn c ∧ bn c < 192) ∧ 2048 ≤ r3 (bn a) (bn b) (bn c) ∧ (r3 (bn a) (bn b) (bn c) < 55296 ∨ 57343 < r3 (bn a) (bn b) (bn c))
  · rw [if_pos h, guessM_pos]
    · omega
    · unfold Scalar; omega
    · rw [hw]
      unfold encI
      simp (disch := omega) only [↓if_pos, ↓if_neg, List.map_cons, List.map_nil, List.cons.injEq, and_true]
      try omega
  · rw [if_neg h, guessM_neg]
    intro h1 h2
    unfold Scalar at h1
    rw [hw] at h2
    unfold encI at h2
    apply h
    (repeat' (split at h2)) <;> simp at h2 <;> omega
theorem guess4 (a b c d : UInt8) : guessM [a, b, c, d] = if (240 ≤ bn a ∧ bn a < 248) ∧ (128 ≤ bn b ∧ bn b < 192) ∧ (128 ≤ bn c ∧ bn c < 192) ∧ (128 ≤ bn d ∧ bn d < 192) ∧ 65536 ≤ r4 (bn a) (bn b) (bn c) (bn d) ∧ r4 (bn a) (bn b) (bn c) (bn d) ≤ 1114111 then r4 (bn a) (bn b) (bn c) (bn d) else -1 := by
  have ha := bn_lt a
  have hb := bn_lt b
  have hc := bn_lt c
  have hd := bn_lt d
  have hw : rawM [a, b, c, d] = (((bn a - 240) * 64 + bn b - 128) * 64 + bn c - 128) * 64 + bn d - 128 := rfl
  have hr : r4 (bn a) (bn b) (bn c) (bn d) = ((bn a % 8 * 64 + bn b % 64) * 64 + bn c % 64) * 64 + bn d % 64 := rfl
  by_cases h : (240 ≤ bn a ∧ bn a < 248) ∧ (128 ≤ bn b ∧ bn b < 192) ∧ (128 ≤ bn c ∧ bn c < 192) ∧ (128 ≤ bn d ∧ bn d < 192) ∧ 65536 ≤ r4 (bn a) (bn b) (bn c) (bn d) ∧ r4 (bn a) (bn b) (bn c) (bn d) ≤ 1114111
  · rw [if_pos h, guessM_pos]
    · omega
    · unfold Scalar; omega
    · rw [hw]
      unfold encI
      simp (disch := omega) only [↓if_pos, ↓if_neg, List.map_cons, List.map_nil, List.cons.injEq, and_true]
      try omega
  · rw [if_neg h, guessM_neg]
    intro h1 h2
    unfold Scalar at h1
    rw [hw] at h2
    unfold encI at h2
    apply h
    (repeat' (split at h2)) <;> simp at h2 <;> omega
theorem drop_cons {s : List UInt8} {n : Nat} (h : n < s.length) : s.drop n = s.getD n 0 :: s.drop (n + 1) := by
  rw [List.drop_eq_getElem_cons h]; simp [List.getD, h]
theorem bn_byteAt (s : List UInt8) (i : Int) (k : Nat) (hi : 0 ≤ i) : bn (s.getD (i.toNat + k) 0) = byteAt s (i + k) := by
  unfold byteAt bn
  rw [show (i + (k : Int)).toNat = i.toNat + k by omega]
section
variable {s : List UInt8} {i : Int}
theorem guess_1 (h : 0 ≤ i ∧ i + 1 ≤ s.length) : guessM ((s.drop i.toNat).take ((i + 1).toNat - i.toNat)) = if byteAt s i < 128 then byteAt s i else -1 := by
  rw [show (i + 1).toNat - i.toNat = 1 by omega, drop_cons (by omega)]
  simp only [List.take_succ_cons, List.take_zero, guess1]
  have e0 := bn_byteAt s i 0 h.1
  simp only [Nat.add_zero, Int.natCast_zero, Int.add_zero] at e0
  rw [e0]
theorem guess_2 (h : 0 ≤ i ∧ i + 2 ≤ s.length) : guessM ((s.drop i.toNat).take ((i + 2).toNat - i.toNat)) = if (192 ≤ byteAt s i ∧ byteAt s i < 224) ∧ (128 ≤ byteAt s (i + 1) ∧ byteAt s (i + 1) < 192) ∧ 128 ≤ r2 (byteAt s i) (byteAt s (i + 1)) then r2 (byteAt s i) (byteAt s (i + 1)) else -1 := by
  rw [show (i + 2).toNat - i.toNat = 2 by omega, drop_cons (by omega), drop_cons (n := i.toNat + 1) (by omega)]
  simp only [List.take_succ_cons, List.take_zero, guess2]
  have e0 := bn_byteAt s i 0 h.1
  have e1 : bn (s.getD (i.toNat + 1) 0) = byteAt s (i + 1) := bn_byteAt s i 1 h.1
  simp only [Nat.add_zero, Int.natCast_zero, Int.add_zero] at e0
  rw [e0, e1]
theorem guess_3 (h : 0 ≤ i ∧ i + 3 ≤ s.length) : guessM ((s.drop i.toNat).take ((i + 3).toNat - i.toNat)) = if (224 ≤ byteAt s i ∧ byteAt s i < 240) ∧ (128 ≤ byteAt s (i + 1) ∧ byteAt s (i + 1) < 192) ∧ (128 ≤ byteAt s (i + 2) ∧ byteAt s (i + 2) < 192) ∧ 2048 ≤ r3 (byteAt s i) (byteAt s (i + 1)) (byteAt s (i + 2)) ∧ (r3 (byteAt s i) (byteAt s (i + 1)) (byteAt s (i + 2)) < 55296 ∨ 57343 < r3 (byteAt s i) (byteAt s (i + 1)) (byteAt s (i + 2))) then r3 (byteAt s i) (byteAt s (i + 1)) (byteAt s (i + 2)) else -1 := by
  rw [show (i + 3).toNat - i.toNat = 3 by omega, drop_cons (by omega), drop_cons (n := i.toNat + 1) (by omega), drop_cons (n := i.toNat + 1 + 1) (by omega)]
  simp only [List.take_succ_cons, List.take_zero, guess3]
  have e0 := bn_byteAt s i 0 h.1
  have e1 : bn (s.getD (i.toNat + 1) 0) = byteAt s (i + 1) := bn_byteAt s i 1 h.1
  have e2 : bn (s.getD (i.toNat + 1 + 1) 0) = byteAt s (i + 2) := bn_byteAt s i 2 h.1
  simp only [Nat.add_zero, Int.natCast_zero, Int.add_zero] at e0
  rw [e0, e1, e2]
theorem guess_4 (h : 0 ≤ i ∧ i + 4 ≤ s.length) : guessM ((s.drop i.toNat).take ((i + 4).toNat - i.toNat)) = if (240 ≤ byteAt s i ∧ byteAt s i < 248) ∧ (128 ≤ byteAt s (i + 1) ∧ byteAt s (i + 1) < 192) ∧ (128 ≤ byteAt s (i + 2) ∧ byteAt s (i + 2) < 192) ∧ (128 ≤ byteAt s (i + 3) ∧ byteAt s (i + 3) < 192) ∧ 65536 ≤ r4 (byteAt s i) (byteAt s (i + 1)) (byteAt s (i + 2)) (byteAt s (i + 3)) ∧ r4 (byteAt s i) (byteAt s (i + 1)) (byteAt s (i + 2)) (byteAt s (i + 3)) ≤ 1114111 then r4 (byteAt s i) (byteAt s (i + 1)) (byteAt s (i + 2)) (byteAt s (i + 3)) else -1 := by
  rw [show (i + 4).toNat - i.toNat = 4 by omega, drop_cons (by omega), drop_cons (n := i.toNat + 1) (by omega), drop_cons (n := i.toNat + 1 + 1) (by omega), drop_cons (n := i.toNat + 1 + 1 + 1) (by omega)]
  simp only [List.take_succ_cons, List.take_zero, guess4]
  have e0 := bn_byteAt s i 0 h.1
  have e1 : bn (s.getD (i.toNat + 1) 0) = byteAt s (i + 1) := bn_byteAt s i 1 h.1
  have e2 : bn (s.getD (i.toNat + 1 + 1) 0) = byteAt s (i + 2) := bn_byteAt s i 2 h.1
  have e3 : bn (s.getD (i.toNat + 1 + 1 + 1) 0) = byteAt s (i + 3) := bn_byteAt s i 3 h.1
  simp only [Nat.add_zero, Int.natCast_zero, Int.add_zero] at e0
  rw [e0, e1, e2, e3]
theorem nextAt_guess (h : 0 ≤ i ∧ i < s.length) : nextAt s i = if 0 ≤ guessM ((s.drop i.toNat).take ((i + 1).toNat - i.toNat)) then (guessM ((s.drop i.toNat).take ((i + 1).toNat - i.toNat)), 1) else if 2 ≤ s.length - i ∧ 0 ≤ guessM ((s.drop i.toNat).take ((i + 2).toNat - i.toNat)) then (guessM ((s.drop i.toNat).take ((i + 2).toNat - i.toNat)), 2) else if 3 ≤ s.length - i ∧ 0 ≤ guessM ((s.drop i.toNat).take ((i + 3).toNat - i.toNat)) then (guessM ((s.drop i.toNat).take ((i + 3).toNat - i.toNat)), 3) else if 4 ≤ s.length - i ∧ 0 ≤ guessM ((s.drop i.toNat).take ((i + 4).toNat - i.toNat)) then (guessM ((s.drop i.toNat).take ((i + 4).toNat - i.toNat)), 4) else (0, 0) := by
  have e0 := byteAt_lt s i; have e1 := byteAt_lt s (i + 1); have e2 := byteAt_lt s (i + 2); have e3 := byteAt_lt s (i + 3)
  have q2 : r2 (byteAt s i) (byteAt s (i + 1)) = byteAt s i % 32 * 64 + byteAt s (i + 1) % 64 := rfl
  have q3 : r3 (byteAt s i) (byteAt s (i + 1)) (byteAt s (i + 2)) = (byteAt s i % 16 * 64 + byteAt s (i + 1) % 64) * 64 + byteAt s (i + 2) % 64 := rfl
  have q4 : r4 (byteAt s i) (byteAt s (i + 1)) (byteAt s (i + 2)) (byteAt s (i + 3)) = ((byteAt s i % 8 * 64 + byteAt s (i + 1) % 64) * 64 + byteAt s (i + 2) % 64) * 64 + byteAt s (i + 3) % 64 := rfl
  have g1 := guess_1 (s := s) (i := i) (by omega)
  have g2 := fun h2 : i + 2 ≤ s.length => guess_2 (s := s) (i := i) ⟨h.1, h2⟩
  have g3 := fun h3 : i + 3 ≤ s.length => guess_3 (s := s) (i := i) ⟨h.1, h3⟩
  have g4 := fun h4 : i + 4 ≤ s.length => guess_4 (s := s) (i := i) ⟨h.1, h4⟩
  generalize guessM ((s.drop i.toNat).take ((i + 1).toNat - i.toNat)) = x1 at *
  generalize guessM ((s.drop i.toNat).take ((i + 2).toNat - i.toNat)) = x2 at *
  generalize guessM ((s.drop i.toNat).take ((i + 3).toNat - i.toNat)) = x3 at *
  generalize guessM ((s.drop i.toNat).take ((i + 4).toNat - i.toNat)) = x4 at *
  unfold nextAt decB
  rw [if_neg (by omega)]
  generalize r2 (byteAt s i) (byteAt s (i + 1)) = y2 at *
  generalize r3 (byteAt s i) (byteAt s (i + 1)) (byteAt s (i + 2)) = y3 at *
  generalize r4 (byteAt s i) (byteAt s (i + 1)) (byteAt s (i + 2)) (byteAt s (i + 3)) = y4 at *
  generalize byteAt s i = a at *
  generalize byteAt s (i + 1) = b at *
  generalize byteAt s (i + 2) = c at *
  generalize byteAt s (i + 3) = d at *
  by_cases c1 : a < 128
  · rw [if_pos c1] at g1 ⊢
    rw [if_pos (show 0 ≤ x1 by omega), g1]
  rw [if_neg c1] at g1 ⊢
  rw [if_neg (show ¬ 0 ≤ x1 by omega)]
  have key : a < 192 ∨ (192 ≤ a ∧ a < 224) ∨ (224 ≤ a ∧ a < 240) ∨ (240 ≤ a ∧ a < 248) ∨ 248 ≤ a := by omega
  rcases key with ha | ha | ha | ha | ha
  · simp (disch := omega) only [↓if_neg] at g2 g3 g4
    simp (disch := omega) only [↓if_pos, ↓if_neg]
  · by_cases hq : (128 ≤ b ∧ b < 192) ∧ 128 ≤ y2
    all_goals simp (disch := omega) only [↓if_neg, ↓if_pos] at g2 g3 g4
    all_goals by_cases hm : 2 ≤ (s.length : Int) - i
    all_goals simp (disch := omega) only [↓if_pos, ↓if_neg]
    rw [g2 (by omega)]
  · by_cases hq : (128 ≤ b ∧ b < 192) ∧ (128 ≤ c ∧ c < 192) ∧ 2048 ≤ y3 ∧ (y3 < 55296 ∨ 57343 < y3)
    all_goals simp (disch := omega) only [↓if_neg, ↓if_pos] at g2 g3 g4
    all_goals by_cases hm : 3 ≤ (s.length : Int) - i
    all_goals simp (disch := omega) only [↓if_pos, ↓if_neg]
    rw [g3 (by omega)]
  · by_cases hq : (128 ≤ b ∧ b < 192) ∧ (128 ≤ c ∧ c < 192) ∧ (128 ≤ d ∧ d < 192) ∧ 65536 ≤ y4 ∧ y4 ≤ 1114111
    all_goals simp (disch := omega) only [↓if_neg, ↓if_pos] at g2 g3 g4
    all_goals by_cases hm : 4 ≤ (s.length : Int) - i
    all_goals simp (disch := omega) only [↓if_pos, ↓if_neg]
    rw [g4 (by omega)]
  · simp (disch := omega) only [↓if_neg] at g2 g3 g4
    simp (disch := omega) only [↓if_pos, ↓if_neg]
end
end Go.Our
/- Ranging over a text: what comes of it where it is UTF-8, and at its ASCII bytes. No program in sight. -/
set_option linter.unusedVariables false
set_option linter.unusedSimpArgs false
namespace Go.Our
open Go.Sx
abbrev deco (s : List UInt8) (i : Nat) : Nat × Nat := Utf8.decode ⟨s.toArray⟩ i
theorem get_bang (s : List UInt8) (j : Nat) : ((ByteArray.mk s.toArray).get! j).toNat = (s.getD j 0).toNat := by
  unfold ByteArray.get!
  simp [List.getD, Array.getElem!_eq_getD]
  rfl
/-- decode, on numbers. -/
def decN (m b0 b1 b2 b3 : Nat) : Nat × Nat :=
  if b0 < 128 then (b0, 1)
  else if b0 / 32 = 6 ∧ 1 < m ∧ b1 / 64 = 2 then if 128 ≤ b0 % 32 * 64 + b1 % 64 then (b0 % 32 * 64 + b1 % 64, 2) else (65533, 1)
  else if b0 / 16 = 14 ∧ (1 < m ∧ b1 / 64 = 2) ∧ (2 < m ∧ b2 / 64 = 2) then
    if 2048 ≤ b0 % 16 * 4096 + b1 % 64 * 64 + b2 % 64 ∧ (b0 % 16 * 4096 + b1 % 64 * 64 + b2 % 64 < 55296 ∨ 57344 ≤ b0 % 16 * 4096 + b1 % 64 * 64 + b2 % 64) then (b0 % 16 * 4096 + b1 % 64 * 64 + b2 % 64, 3) else (65533, 1)
  else if b0 / 8 = 30 ∧ (1 < m ∧ b1 / 64 = 2) ∧ (2 < m ∧ b2 / 64 = 2) ∧ (3 < m ∧ b3 / 64 = 2) then
    if 65536 ≤ b0 % 8 * 262144 + b1 % 64 * 4096 + b2 % 64 * 64 + b3 % 64 ∧ b0 % 8 * 262144 + b1 % 64 * 4096 + b2 % 64 * 64 + b3 % 64 ≤ 1114111 then (b0 % 8 * 262144 + b1 % 64 * 4096 + b2 % 64 * 64 + b3 % 64, 4) else (65533, 1)
  else (65533, 1)
theorem decode_eq (s : List UInt8) (i : Nat) : deco s i = decN (s.length - i) (s.getD i 0).toNat (s.getD (i + 1) 0).toNat (s.getD (i + 2) 0).toNat (s.getD (i + 3) 0).toNat := by
  unfold deco Utf8.decode decN
  simp only [get_bang, Nat.add_zero]
  have hsz : (ByteArray.mk s.toArray).size = s.length := by simp [ByteArray.size]
  rw [hsz]
  generalize (s.getD i 0).toNat = b0
  generalize (s.getD (i + 1) 0).toNat = b1
  generalize (s.getD (i + 2) 0).toNat = b2
  generalize (s.getD (i + 3) 0).toNat = b3
  have e : ∀ k, (i + k < s.length) = (k < s.length - i) := fun k => by simp; omega
  simp only [Bool.and_eq_true, beq_iff_eq, decide_eq_true_eq, e, Utf8.valid, Utf8.runeError, Bool.or_eq_true, ge_iff_le]
  by_cases c1 : b0 < 128
  · simp [c1]
  by_cases c2 : b0 / 32 = 6 ∧ 1 < s.length - i ∧ b1 / 64 = 2
  · simp [c1, c2]
  by_cases c3 : b0 / 16 = 14 ∧ (1 < s.length - i ∧ b1 / 64 = 2) ∧ (2 < s.length - i ∧ b2 / 64 = 2)
  · have c3' : (b0 / 16 = 14 ∧ (1 < s.length - i ∧ b1 / 64 = 2)) ∧ (2 < s.length - i ∧ b2 / 64 = 2) := ⟨⟨c3.1, c3.2.1⟩, c3.2.2⟩
    rw [if_neg c1, if_neg c2, if_pos c3', if_neg c1, if_neg c2, if_pos c3]
    congr 1
    simp
    omega
  by_cases c4 : b0 / 8 = 30 ∧ (1 < s.length - i ∧ b1 / 64 = 2) ∧ (2 < s.length - i ∧ b2 / 64 = 2) ∧ (3 < s.length - i ∧ b3 / 64 = 2)
  · have c4' : ((b0 / 8 = 30 ∧ (1 < s.length - i ∧ b1 / 64 = 2)) ∧ (2 < s.length - i ∧ b2 / 64 = 2)) ∧ (3 < s.length - i ∧ b3 / 64 = 2) := ⟨⟨⟨c4.1, c4.2.1⟩, c4.2.2.1⟩, c4.2.2.2⟩
    have c3' : ¬ ((b0 / 16 = 14 ∧ (1 < s.length - i ∧ b1 / 64 = 2)) ∧ (2 < s.length - i ∧ b2 / 64 = 2)) := fun h => c3 ⟨h.1.1, h.1.2, h.2⟩
    rw [if_neg c1, if_neg c2, if_neg c3', if_pos c4', if_neg c1, if_neg c2, if_neg c3, if_pos c4]
    congr 1
    simp
    omega
  · have c4' : ¬ (((b0 / 8 = 30 ∧ (1 < s.length - i ∧ b1 / 64 = 2)) ∧ (2 < s.length - i ∧ b2 / 64 = 2)) ∧ (3 < s.length - i ∧ b3 / 64 = 2)) := fun h => c4 ⟨h.1.1.1, h.1.1.2, h.1.2, h.2⟩
    have c3' : ¬ ((b0 / 16 = 14 ∧ (1 < s.length - i ∧ b1 / 64 = 2)) ∧ (2 < s.length - i ∧ b2 / 64 = 2)) := fun h => c3 ⟨h.1.1, h.1.2, h.2⟩
    rw [if_neg c1, if_neg c2, if_neg c3', if_neg c4', if_neg c1, if_neg c2, if_neg c3, if_neg c4]
theorem deco_pos (s : List UInt8) (i : Nat) : 1 ≤ (deco s i).2 := by
  rw [decode_eq]; unfold decN
  (repeat' split) <;> simp
theorem deco_fits (s : List UInt8) (i : Nat) (h : i < s.length) : i + (deco s i).2 ≤ s.length := by
  rw [decode_eq]; unfold decN
  (repeat' split) <;> simp <;> omega
theorem deco_scalar (s : List UInt8) (i : Nat) : Scalar ((deco s i).1 : Int) := by
  have h := (s.getD i 0).toNat_lt
  rw [decode_eq]; unfold decN Scalar
  generalize (s.getD i 0).toNat = b0 at *
  generalize (s.getD (i + 1) 0).toNat = b1 at *
  generalize (s.getD (i + 2) 0).toNat = b2 at *
  generalize (s.getD (i + 3) 0).toNat = b3 at *
  (repeat' split) <;> simp <;> omega
theorem deco_ascii {s : List UInt8} {i : Nat} (h : byteAt s i < 128) : deco s i = ((byteAt s i).toNat, 1) := by
  have e : byteAt s i = ((s.getD i 0).toNat : Int) := rfl
  rw [decode_eq]; unfold decN
  rw [e] at h ⊢
  clear e
  generalize (s.getD i 0).toNat = b0 at *
  generalize (s.getD (i + 1) 0).toNat = b1 at *
  generalize (s.getD (i + 2) 0).toNat = b2 at *
  generalize (s.getD (i + 3) 0).toNat = b3 at *
  rw [if_pos (by omega)]; simp
theorem deco_high {s : List UInt8} {i : Nat} (h : 128 ≤ byteAt s i) : 128 ≤ (deco s i).1 := by
  have e : byteAt s i = ((s.getD i 0).toNat : Int) := rfl
  have l0 := (s.getD i 0).toNat_lt
  rw [decode_eq]; unfold decN
  rw [e] at h
  clear e
  generalize (s.getD i 0).toNat = b0 at *
  generalize (s.getD (i + 1) 0).toNat = b1 at *
  generalize (s.getD (i + 2) 0).toNat = b2 at *
  generalize (s.getD (i + 3) 0).toNat = b3 at *
  (repeat' split) <;> simp <;> omega
/-- Where a scalar stands, ranging comes by it. -/
theorem deco_next {s : List UInt8} {i : Nat} (hi : i < s.length) (h : (nextAt s i).2 ≠ 0) : ((deco s i).1 : Int) = (nextAt s i).1 ∧ ((deco s i).2 : Int) = (nextAt s i).2 := by
  have l0 := (s.getD i 0).toNat_lt; have l1 := (s.getD (i + 1) 0).toNat_lt; have l2 := (s.getD (i + 2) 0).toNat_lt; have l3 := (s.getD (i + 3) 0).toNat_lt
  have e0 : byteAt s i = ((s.getD i 0).toNat : Int) := rfl
  have e1 : byteAt s ((i : Int) + 1) = ((s.getD (i + 1) 0).toNat : Int) := rfl
  have e2 : byteAt s ((i : Int) + 2) = ((s.getD (i + 2) 0).toNat : Int) := rfl
  have e3 : byteAt s ((i : Int) + 3) = ((s.getD (i + 3) 0).toNat : Int) := rfl
  rw [decode_eq]
  unfold nextAt decB r2 r3 r4 at h ⊢
  rw [if_neg (show ¬ ((i : Int) < 0 ∨ (s.length : Int) ≤ i) by omega)] at h ⊢
  simp only [e0, e1, e2, e3] at h ⊢
  clear e0 e1 e2 e3
  unfold decN
  generalize (s.getD i 0).toNat = b0 at *
  generalize (s.getD (i + 1) 0).toNat = b1 at *
  generalize (s.getD (i + 2) 0).toNat = b2 at *
  generalize (s.getD (i + 3) 0).toNat = b3 at *
  rcases (by omega : (b0 : Int) < 128 ∨ (128 ≤ (b0 : Int) ∧ (b0 : Int) < 192) ∨ (192 ≤ (b0 : Int) ∧ (b0 : Int) < 224) ∨ (224 ≤ (b0 : Int) ∧ (b0 : Int) < 240) ∨ (240 ≤ (b0 : Int) ∧ (b0 : Int) < 248) ∨ 248 ≤ (b0 : Int)) with ha | ha | ha | ha | ha | ha
  · simp (disch := omega) only [↓if_pos, ↓if_neg]; simp
  · simp (disch := omega) only [↓if_pos, ↓if_neg] at h; simp at h
  · simp (disch := omega) only [↓if_neg, ↓if_pos] at h ⊢
    split at h
    · rename_i hc
      simp (disch := omega) only [↓if_neg, ↓if_pos]
      simp <;> omega
    · simp at h
  · simp (disch := omega) only [↓if_neg, ↓if_pos] at h ⊢
    split at h
    · rename_i hc
      simp (disch := omega) only [↓if_neg, ↓if_pos]
      simp <;> omega
    · simp at h
  · simp (disch := omega) only [↓if_neg, ↓if_pos] at h ⊢
    split at h
    · rename_i hc
      simp (disch := omega) only [↓if_neg, ↓if_pos]
      simp <;> omega
    · simp at h
  · simp (disch := omega) only [↓if_pos, ↓if_neg] at h; simp at h
/-- A scalar's bytes, as they are written. -/
theorem encode_eq {r : Int} (h : Scalar r) : (Utf8.encode r).data.toList = encM r := by
  unfold Scalar at h
  have hv : Utf8.valid r = true := by simp [Utf8.valid]; omega
  obtain ⟨n, rfl⟩ : ∃ n : Nat, r = n := ⟨r.toNat, by omega⟩
  unfold Utf8.encode encM encI byteOf
  simp only [hv, if_true, Int.toNat_natCast]
  rcases (by omega : n < 128 ∨ (128 ≤ n ∧ n < 2048) ∨ (2048 ≤ n ∧ n < 65536) ∨ 65536 ≤ n) with c | c | c | c
  all_goals simp (disch := omega) only [↓if_pos, ↓if_neg, List.map_cons, List.map_nil]
  all_goals
    simp only [List.cons.injEq, and_true]
    (repeat' (first | rfl | refine ⟨?_, ?_⟩)) <;> congr 1 <;> omega
theorem encM_len {r : Int} (h : 128 ≤ r) : 2 ≤ (encM r).length ∧ (encM r).length ≤ 4 := by
  unfold encM encI
  (repeat' split) <;> simp <;> omega
theorem encM_high {r : Int} (hs : Scalar r) (h : 128 ≤ r) : ∀ c ∈ encM r, 128 ≤ bn c := by
  have hl := encI_lt ⟨hs.1, hs.2.1⟩
  intro c hc
  unfold encM at hc
  obtain ⟨x, hx, rfl⟩ := List.mem_map.1 hc
  have := hl x hx
  unfold bn; rw [byteOf_bn this]
  unfold Scalar at hs
  unfold encI at hx
  (repeat' (split at hx)) <;> simp at hx <;> omega
end Go.Our
/- IRIs in plain words: what is barred, schemes. No program in sight. -/
set_option linter.unusedVariables false
set_option linter.unusedSimpArgs false
namespace Go.Our
open Go.Sx
def Barred (c : Int) : Prop := c ≤ 32 ∨ c = 60 ∨ c = 62 ∨ c = 34 ∨ c = 123 ∨ c = 125 ∨ c = 124 ∨ c = 94 ∨ c = 96 ∨ c = 92
instance (c : Int) : Decidable (Barred c) := by unfold Barred; infer_instance
def barredM (c : Int) : Bool := decide (Barred c)
theorem barredM_true {c : Int} : barredM c = true ↔ Barred c := decide_eq_true_iff
theorem barredM_false {c : Int} : barredM c = false ↔ ¬ Barred c := decide_eq_false_iff_not
def bars : List UInt8 := [60, 62, 34, 123, 125, 124, 94, 96, 92]
/-- The first place at which ranging comes by such a one; -1: there is none. -/
def idxF (p : Int → Bool) (s : List UInt8) (i : Nat) : Int :=
  if h : i < s.length then if p ((deco s i).1 : Int) then i else idxF p s (i + (deco s i).2) else -1
termination_by s.length - i
decreasing_by have := deco_pos s i; omega
theorem idxF_end {p : Int → Bool} {s : List UInt8} {i : Nat} (h : s.length ≤ i) : idxF p s i = -1 := by rw [idxF, dif_neg (by omega)]
theorem idxF_at {p : Int → Bool} {s : List UInt8} {i : Nat} (h : i < s.length) (hp : p ((deco s i).1 : Int) = true) : idxF p s i = i := by rw [idxF, dif_pos h, if_pos hp]
theorem idxF_step {p : Int → Bool} {s : List UInt8} {i : Nat} (h : i < s.length) (hp : p ((deco s i).1 : Int) = false) : idxF p s i = idxF p s (i + (deco s i).2) := by
  conv => lhs; rw [idxF]
  rw [dif_pos h, if_neg (by simp [hp])]
theorem idxF_ge (p : Int → Bool) (s : List UInt8) (i : Nat) : -1 ≤ idxF p s i := by
  induction i using idxF.induct p s with
  | case1 i h hp => rw [idxF_at h hp]; omega
  | case2 i h hp ih => rw [idxF_step h (by simpa using hp)]; exact ih
  | case3 i h => rw [idxF_end (by omega)]; omega
/-- Is a byte, from a place on, such a one? -/
def anyB (p : Int → Bool) (s : List UInt8) (i : Nat) : Bool :=
  if h : i < s.length then p (byteAt s i) || anyB p s (i + 1) else false
termination_by s.length - i
theorem anyB_end {p : Int → Bool} {s : List UInt8} {i : Nat} (h : s.length ≤ i) : anyB p s i = false := by rw [anyB, dif_neg (by omega)]
theorem anyB_at {p : Int → Bool} {s : List UInt8} {i : Nat} (h : i < s.length) : anyB p s i = (p (byteAt s i) || anyB p s (i + 1)) := by
  conv => lhs; rw [anyB]
  rw [dif_pos h]
theorem anyB_skip {p : Int → Bool} {s : List UInt8} {i n : Nat} (h : i + n ≤ s.length) (hp : ∀ k : Nat, k < n → p (byteAt s (i + k : Nat)) = false) : anyB p s i = anyB p s (i + n) := by
  induction n with
  | zero => rfl
  | succ n ih =>
    rw [ih (by omega) (fun k hk => hp k (by omega)), anyB_at (by omega), hp n (by omega), Bool.false_or]; rfl
/-- What stands behind the first byte of a scalar of more bytes. -/
theorem nextAt_high {s : List UInt8} {i : Nat} (hi : i < s.length) (h : (nextAt s i).2 ≠ 0) (h1 : 128 ≤ byteAt s i) : ∀ k : Nat, k < (nextAt s i).2.toNat → 128 ≤ byteAt s (i + k : Nat) := by
  have e0 := byteAt_lt s i; have e1 := byteAt_lt s (i + 1); have e2 := byteAt_lt s (i + 2); have e3 := byteAt_lt s (i + 3)
  unfold nextAt decB at h ⊢
  rw [if_neg (show ¬ ((i : Int) < 0 ∨ (s.length : Int) ≤ i) by omega)] at h ⊢
  intro k hk
  have hb : (k = 0 ∧ byteAt s (i + k : Nat) = byteAt s i) ∨ (k = 1 ∧ byteAt s (i + k : Nat) = byteAt s (i + 1)) ∨ (k = 2 ∧ byteAt s (i + k : Nat) = byteAt s (i + 2)) ∨ (k = 3 ∧ byteAt s (i + k : Nat) = byteAt s (i + 3)) ∨ 4 ≤ k := by
    rcases (by omega : k = 0 ∨ k = 1 ∨ k = 2 ∨ k = 3 ∨ 4 ≤ k) with rfl | rfl | rfl | rfl | h
    · exact .inl ⟨rfl, rfl⟩
    · exact .inr (.inl ⟨rfl, rfl⟩)
    · exact .inr (.inr (.inl ⟨rfl, rfl⟩))
    · exact .inr (.inr (.inr (.inl ⟨rfl, rfl⟩)))
    · exact .inr (.inr (.inr (.inr h)))
  generalize byteAt s (i + k : Nat) = x at *
  generalize byteAt s i = a at *
  generalize byteAt s (i + 1) = b at *
  generalize byteAt s (i + 2) = c at *
  generalize byteAt s (i + 3) = d at *
  rw [if_neg (show ¬ a < 128 by omega)] at h hk
  (repeat' (split at hk)) <;> simp at hk <;> omega
/-- In what is UTF-8 something is barred just if a byte is. -/
theorem barred_runes (p : Int → Bool) (hp : ∀ c, 128 ≤ c → p c = false) (s : List UInt8) (i : Nat) : chk s i = -1 → (0 ≤ idxF p s i ↔ anyB p s i = true) := by
  induction i using chk.induct s with
  | case1 i h ih =>
    intro hc
    rw [chk_step h.1 h.2] at hc
    have hn := nextAt_n s i
    have hd := deco_next h.1 h.2
    have e0 := byteAt_lt s i
    by_cases ha : byteAt s i < 128
    · have hd' := deco_ascii ha
      have h1 : (nextAt s i).2 = 1 := by rw [hd'] at hd; simp at hd; omega
      rw [anyB_at h.1]
      by_cases hb : p (byteAt s i) = true
      · rw [idxF_at h.1 (by rw [hd']; simp only; rw [show ((byteAt s i).toNat : Int) = byteAt s i by omega]; exact hb)]
        simp [hb]
      · have hb : p (byteAt s i) = false := by simpa using hb
        rw [idxF_step h.1 (by rw [hd']; simp only; rw [show ((byteAt s i).toNat : Int) = byteAt s i by omega]; exact hb), hb, Bool.false_or]
        have := ih hc
        rw [h1] at this
        rw [hd']; exact this
    · have ha : 128 ≤ byteAt s i := by omega
      rw [idxF_step h.1 (hp _ (by have := deco_high ha; omega))]
      rw [anyB_skip (n := (nextAt s i).2.toNat) (by omega) (fun k hk => hp _ (nextAt_high h.1 h.2 ha k hk))]
      have := ih hc
      rw [show (deco s i).2 = (nextAt s i).2.toNat by omega]
      exact this
  | case2 i h hlt =>
    intro hc
    have : (nextAt s i).2 = 0 := by
      apply Classical.byContradiction; intro hh; exact h ⟨hlt, hh⟩
    rw [chk_bad hlt this] at hc; omega
  | case3 i h hlt =>
    intro _
    rw [idxF_end (by omega), anyB_end (by omega)]; simp
/-- A reference's look. -/
def refM (s : List UInt8) : Int :=
  if 65536 < s.length then 2 else if 0 ≤ chk s 0 then 40 else if anyB barredM s 0 then 50 else 0
def LetterI (c : Int) : Prop := (97 ≤ c ∧ c ≤ 122) ∨ (65 ≤ c ∧ c ≤ 90)
def SchI (c : Int) : Prop := (48 ≤ c ∧ c ≤ 57) ∨ c = 43 ∨ c = 45 ∨ c = 46
instance (c : Int) : Decidable (LetterI c) := by unfold LetterI; infer_instance
instance (c : Int) : Decidable (SchI c) := by unfold SchI; infer_instance
/-- How many bytes of a text are its scheme. -/
def schM (s : List UInt8) (i : Nat) : Int :=
  if h : i < s.length then if byteAt s i = 58 then i else if LetterI (byteAt s i) ∨ i ≠ 0 ∧ SchI (byteAt s i) then schM s (i + 1) else 0 else 0
termination_by s.length - i
theorem schM_end {s : List UInt8} {i : Nat} (h : s.length ≤ i) : schM s i = 0 := by rw [schM, dif_neg (by omega)]
theorem schM_colon {s : List UInt8} {i : Nat} (h : i < s.length) (hc : byteAt s i = 58) : schM s i = i := by rw [schM, dif_pos h, if_pos hc]
theorem schM_step {s : List UInt8} {i : Nat} (h : i < s.length) (hc : ¬ byteAt s i = 58) (hl : LetterI (byteAt s i) ∨ i ≠ 0 ∧ SchI (byteAt s i)) : schM s i = schM s (i + 1) := by
  conv => lhs; rw [schM]
  rw [dif_pos h, if_neg hc, if_pos hl]
theorem schM_stop {s : List UInt8} {i : Nat} (h : i < s.length) (hc : ¬ byteAt s i = 58) (hl : ¬ (LetterI (byteAt s i) ∨ i ≠ 0 ∧ SchI (byteAt s i))) : schM s i = 0 := by
  rw [schM, dif_pos h, if_neg hc, if_neg hl]
theorem schM_rng (s : List UInt8) (i : Nat) : 0 ≤ schM s i ∧ schM s i ≤ s.length := by
  induction i using schM.induct s with
  | case1 i h hc => rw [schM_colon h hc]; omega
  | case2 i h hc hl ih => rw [schM_step h hc hl]; exact ih
  | case3 i h hc hl => rw [schM_stop h hc hl]; omega
  | case4 i h => rw [schM_end (by omega)]; omega
def iriM (s : List UInt8) : Int := if refM s ≠ 0 then refM s else if schM s 0 = 0 then 51 else 0
theorem indexByte_none {c : UInt8} : ∀ {l : List UInt8}, c ∉ l → Lib.indexByte l c = -1
  | [], _ => rfl
  | b :: l, h => by
    have h1 : ¬ b = c := fun e => h (by rw [e]; exact List.mem_cons_self ..)
    have h2 : c ∉ l := fun e => h (List.mem_cons_of_mem _ e)
    unfold Lib.indexByte
    rw [indexByte_none h2]
    simp [h1]
theorem bars_low (i : Int) : byteAt bars i < 128 := by
  unfold byteAt
  by_cases h : i.toNat < 9
  · have : ∀ n : Nat, n < 9 → ((bars.getD n 0).toNat : Int) < 128 := by decide
    exact this _ h
  · have : bars.getD i.toNat 0 = 0 := by simp [List.getD, bars]; rw [List.getElem?_eq_none (by simp; omega)]; rfl
    rw [this]; decide
theorem bars_mem : ∀ c ∈ bars, c.toNat < 128 := by decide
theorem byteAt_mem {s : List UInt8} {i : Int} (h : 0 ≤ i ∧ i < s.length) : ∃ c ∈ s, byteAt s i = bn c := by
  have : i.toNat < s.length := by omega
  refine ⟨s[i.toNat], List.getElem_mem this, ?_⟩
  unfold byteAt bn; simp [List.getD, this]
theorem idx_high {l : List UInt8} {c : Int} (h : 128 ≤ c ∧ c < 256) (hl : ∀ b ∈ l, b.toNat < 128) : Lib.indexByte l c.toNat.toUInt8 = -1 := by
  apply indexByte_none
  intro hm
  have h1 := hl _ hm
  have : c.toNat.toUInt8.toNat = c.toNat := by
    rw [Nat.toUInt8_eq, UInt8.toNat_ofNat_of_lt' (by show c.toNat < 256; omega)]
  omega
end Go.Our
/- Names in plain words: which scalars stand in them; labels. No program in sight. -/
set_option linter.unusedVariables false
set_option linter.unusedSimpArgs false
namespace Go.Our
open Go.Sx
def BaseI (r : Int) : Prop := (65 ≤ r ∧ r ≤ 90) ∨ (97 ≤ r ∧ r ≤ 122) ∨ (192 ≤ r ∧ r ≤ 214) ∨ (216 ≤ r ∧ r ≤ 246) ∨ (248 ≤ r ∧ r ≤ 767) ∨ (880 ≤ r ∧ r ≤ 893) ∨ (895 ≤ r ∧ r ≤ 8191) ∨ (8204 ≤ r ∧ r ≤ 8205) ∨ (8304 ≤ r ∧ r ≤ 8591) ∨ (11264 ≤ r ∧ r ≤ 12271) ∨ (12289 ≤ r ∧ r ≤ 55295) ∨ (63744 ≤ r ∧ r ≤ 64975) ∨ (65008 ≤ r ∧ r ≤ 65533) ∨ (65536 ≤ r ∧ r ≤ 983039)
instance (r : Int) : Decidable (BaseI r) := by unfold BaseI; infer_instance
def StartI (r : Int) : Prop := BaseI r ∨ r = 95
instance (r : Int) : Decidable (StartI r) := by unfold StartI; infer_instance
def DigitI (r : Int) : Prop := 48 ≤ r ∧ r ≤ 57
instance (r : Int) : Decidable (DigitI r) := by unfold DigitI; infer_instance
def FollowI (r : Int) : Prop := StartI r ∨ DigitI r ∨ r = 45 ∨ r = 183 ∨ (768 ≤ r ∧ r ≤ 879) ∨ r = 8255 ∨ r = 8256
instance (r : Int) : Decidable (FollowI r) := by unfold FollowI; infer_instance
def LabelI (r : Int) : Prop := StartI r ∨ DigitI r
instance (r : Int) : Decidable (LabelI r) := by unfold LabelI; infer_instance
/-- From a place on as far as followers and dots go: where the last follower ends. -/
def runGo (s : List UInt8) (i e : Nat) : Nat :=
  if h : (nextAt s i).2 ≠ 0 ∧ ((nextAt s i).1 = 46 ∨ FollowI (nextAt s i).1) then
    runGo s (i + (nextAt s i).2.toNat) (if (nextAt s i).1 = 46 then e else i + (nextAt s i).2.toNat)
  else e
termination_by s.length - i
decreasing_by
  have := nextAt_n s i
  omega
theorem runGo_step {s : List UInt8} {i e : Nat} (h : (nextAt s i).2 ≠ 0 ∧ ((nextAt s i).1 = 46 ∨ FollowI (nextAt s i).1)) : runGo s i e = runGo s (i + (nextAt s i).2.toNat) (if (nextAt s i).1 = 46 then e else i + (nextAt s i).2.toNat) := by
  conv => lhs; rw [runGo]
  rw [dif_pos h]
theorem runGo_stop {s : List UInt8} {i e : Nat} (h : ¬ ((nextAt s i).2 ≠ 0 ∧ ((nextAt s i).1 = 46 ∨ FollowI (nextAt s i).1))) : runGo s i e = e := by
  rw [runGo, dif_neg h]
theorem runGo_rng (s : List UInt8) (i e : Nat) (h : e ≤ i) : e ≤ runGo s i e ∧ (i ≤ s.length → runGo s i e ≤ s.length) := by
  induction i, e using runGo.induct s with
  | case1 i e h1 ih =>
    have hn := nextAt_n s i
    rw [runGo_step h1]
    split
    · rename_i h2
      rw [dif_pos h2] at ih
      have := ih (by omega)
      exact ⟨this.1, fun _ => this.2 (by omega)⟩
    · rename_i h2
      rw [dif_neg h2] at ih
      have := ih (by omega)
      exact ⟨by omega, fun _ => this.2 (by omega)⟩
  | case2 i e h1 => rw [runGo_stop h1]; exact ⟨by omega, fun _ => by omega⟩
/-- How many bytes has the longest text at a place whose first scalar is such a one, whose last a follower, and what lies between followers or dots. -/
def runM (p : Int → Prop) [DecidablePred p] (s : List UInt8) (i : Int) : Int :=
  if (nextAt s i).2 = 0 ∨ ¬ p (nextAt s i).1 then 0 else (runGo s (i.toNat + (nextAt s i).2.toNat) (i.toNat + (nextAt s i).2.toNat) : Int) - i
/-- Followers and dots to the end, a follower last. -/
def restOK (s : List UInt8) (i : Nat) : Bool :=
  if h : (nextAt s i).2 ≠ 0 then
    decide ((nextAt s i).1 = 46 ∨ FollowI (nextAt s i).1) && decide ((nextAt s i).1 = 46 → i + (nextAt s i).2.toNat ≠ s.length) && restOK s (i + (nextAt s i).2.toNat)
  else decide (s.length ≤ i)
termination_by s.length - i
decreasing_by have := nextAt_n s i; omega
theorem follow_dot : ¬ FollowI 46 := by unfold FollowI StartI BaseI DigitI; omega
theorem nextAt_end {s : List UInt8} {i : Nat} (h : s.length ≤ i) : (nextAt s i).2 = 0 := by unfold nextAt; rw [if_pos (by omega)]
theorem runGo_full (s : List UInt8) (i e : Nat) (h : e ≤ i) (hi : i ≤ s.length) : runGo s i e = s.length ↔ (if i = s.length then e = s.length else restOK s i = true) := by
  induction i, e using runGo.induct s with
  | case1 i e h1 ih =>
    have hn := nextAt_n s i
    rw [runGo_step h1]
    rw [if_neg (show ¬ i = s.length by omega)]
    conv => rhs; rw [restOK]
    rw [dif_pos h1.1]
    by_cases h2 : (nextAt s i).1 = 46
    · rw [dif_pos h2] at ih
      rw [if_pos h2]
      rw [ih (by omega) (by omega)]
      split
      · rename_i h3; simp [h2, h3]; omega
      · rename_i h3; simp [h2, h3]
    · rw [dif_neg h2] at ih
      rw [if_neg h2]
      rw [ih (by omega) (by omega)]
      have h4 : FollowI (nextAt s i).1 := by rcases h1.2 with h | h; exact (h2 h).elim; exact h
      split
      · rename_i h3
        simp [h2, h3, h4]
        rw [restOK, dif_neg (by rw [nextAt_end (Nat.le_refl _)]; simp)]; simp
      · rename_i h3; simp [h2, h4]
  | case2 i e h1 =>
    rw [runGo_stop h1]
    split
    · exact Iff.rfl
    · rename_i h2
      rw [restOK]
      by_cases h3 : (nextAt s i).2 ≠ 0
      · rw [dif_pos h3]
        have : ¬ ((nextAt s i).1 = 46 ∨ FollowI (nextAt s i).1) := fun h => h1 ⟨h3, h⟩
        simp [this]; omega
      · rw [dif_neg h3]; simp; omega
/-- A blank node's label. -/
def labelM (s : List UInt8) : Int := if runM LabelI s 0 = 0 ∨ runM LabelI s 0 ≠ s.length then 60 else 0
/-- The scalars of a text from a place on. -/
def scalarsM (s : List UInt8) (i : Nat) : Option (List Int) :=
  if h : i < s.length then if h0 : (nextAt s i).2 ≠ 0 then (scalarsM s (i + (nextAt s i).2.toNat)).map ((nextAt s i).1 :: ·) else none else some []
termination_by s.length - i
decreasing_by have := nextAt_n s i; omega
/-- Behind the first. -/
def shapedM : List Int → Bool
  | [] => true
  | [r] => decide (FollowI r)
  | r :: q :: l => decide (FollowI r ∨ r = 46) && shapedM (q :: l)
theorem scalars_rest (s : List UInt8) (i : Nat) (hi : i ≤ s.length) : restOK s i = (match scalarsM s i with | some l => shapedM l | none => false) := by
  induction i using scalarsM.induct s with
  | case1 i h h0 ih =>
    have hn := nextAt_n s i
    rw [restOK, scalarsM, dif_pos h, dif_pos h0, dif_pos h0, ih (by omega)]
    by_cases h1 : i + (nextAt s i).2.toNat = s.length
    · rw [h1]
      have : scalarsM s s.length = some [] := by rw [scalarsM, dif_neg (by omega)]
      rw [this]
      simp only [Option.map_some, shapedM, Bool.and_true]
      by_cases h2 : (nextAt s i).1 = 46
      · rw [h2]; have := follow_dot; simp [this]
      · simp [h2]
    · cases hc : scalarsM s (i + (nextAt s i).2.toNat) with
      | none => simp
      | some l =>
        cases l with
        | nil =>
          exfalso
          rw [scalarsM, dif_pos (by omega)] at hc
          split at hc
          · cases hq : scalarsM s (i + (nextAt s i).2.toNat + (nextAt s ((i + (nextAt s i).2.toNat : Nat) : Int)).2.toNat) <;> rw [hq] at hc <;> simp at hc
          · cases hc
        | cons q l =>
          simp only [Option.map_some, shapedM, h1, ne_eq, not_false_eq_true, implies_true, decide_true, Bool.and_true]
          congr 1
          simp only [decide_eq_decide]
          exact Or.comm
  | case2 i h h0 =>
    rw [restOK, scalarsM, dif_neg h0, dif_pos h, dif_neg h0]; simp; omega
  | case3 i h =>
    rw [restOK, scalarsM, dif_neg (by rw [nextAt_end (by omega)]; simp), dif_neg h]; simp [shapedM]; omega
/-- The reference's label. -/
def labelR (s : List UInt8) : Int := match scalarsM s 0 with
  | some (r :: l) => if LabelI r ∧ shapedM l = true then 0 else 60
  | _ => 60
theorem label_eq (s : List UInt8) : labelM s = labelR s := by
  unfold labelM labelR runM
  have hn := nextAt_n s 0
  by_cases h : (0 : Nat) < s.length
  · rw [scalarsM, dif_pos h]
    by_cases h0 : (nextAt s 0).2 ≠ 0
    · have e : nextAt s ((0 : Nat) : Int) = nextAt s 0 := rfl
      rw [dif_pos (by rw [e]; exact h0), e]
      have hr := scalars_rest s (0 + (nextAt s 0).2.toNat) (by omega)
      have hf := runGo_full s (0 + (nextAt s 0).2.toNat) (0 + (nextAt s 0).2.toNat) (Nat.le_refl _) (by omega)
      have hg := runGo_rng s (0 + (nextAt s 0).2.toNat) (0 + (nextAt s 0).2.toNat) (Nat.le_refl _)
      rw [show (0 : Int).toNat = 0 from rfl]
      generalize runGo s (0 + (nextAt s 0).2.toNat) (0 + (nextAt s 0).2.toNat) = g at *
      by_cases hl : LabelI (nextAt s 0).1
      · rw [if_neg (show ¬ ((nextAt s 0).2 = 0 ∨ ¬ LabelI (nextAt s 0).1) by simp [h0, hl])]
        by_cases h1 : 0 + (nextAt s 0).2.toNat = s.length
        · rw [if_pos h1] at hf
          have : scalarsM s (0 + (nextAt s 0).2.toNat) = some [] := by rw [scalarsM, dif_neg (by omega)]
          rw [this]
          simp only [Option.map_some, shapedM, hl, and_self, if_true]
          rw [if_neg]
          have := hf.2 h1
          omega
        · rw [if_neg h1, hr] at hf
          cases hc : scalarsM s (0 + (nextAt s 0).2.toNat) with
          | none =>
            rw [hc] at hf
            simp only [Option.map_none]
            rw [if_pos]
            simp at hf
            omega
          | some l =>
            rw [hc] at hf
            simp only [Option.map_some, hl, true_and] at hf ⊢
            by_cases hs : shapedM l = true
            · rw [if_pos hs, if_neg]
              have := hf.2 hs
              omega
            · rw [if_neg hs, if_pos]
              have : ¬ g = s.length := fun h => hs (hf.1 h)
              omega
      · rw [if_pos (show ((nextAt s 0).2 = 0 ∨ ¬ LabelI (nextAt s 0).1) from .inr hl), if_pos (.inl rfl)]
        cases hc : scalarsM s (0 + (nextAt s 0).2.toNat) with
        | none => rfl
        | some l => simp [hl]
    · rw [dif_neg (show ¬ (nextAt s ((0 : Nat) : Int)).2 ≠ 0 from h0)]
      simp only [ne_eq, Decidable.not_not] at h0
      rw [if_pos (show ((nextAt s 0).2 = 0 ∨ ¬ LabelI (nextAt s 0).1) from .inl h0), if_pos (.inl rfl)]
  · rw [scalarsM, dif_neg h]
    have h0 : (nextAt s 0).2 = 0 := nextAt_end (i := 0) (by omega)
    rw [if_pos (show ((nextAt s 0).2 = 0 ∨ ¬ LabelI (nextAt s 0).1) from .inl h0), if_pos (.inl rfl)]
end Go.Our
/- Parts of language tags in plain words. No program in sight. -/
set_option linter.unusedVariables false
set_option linter.unusedSimpArgs false
namespace Go.Our
open Go.Sx
/-- Has each byte, from a place on, what p says? -/
def allB (p : Int → Bool) (s : List UInt8) (i : Nat) : Bool := !anyB (fun c => !p c) s i
theorem allB_end {p : Int → Bool} {s : List UInt8} {i : Nat} (h : s.length ≤ i) : allB p s i = true := by unfold allB; rw [anyB_end h]; rfl
theorem allB_at {p : Int → Bool} {s : List UInt8} {i : Nat} (h : i < s.length) : allB p s i = (p (byteAt s i) && allB p s (i + 1)) := by
  unfold allB; rw [anyB_at h]; simp
def letterB (c : Int) : Bool := decide (LetterI c)
def digitB (c : Int) : Bool := decide (DigitI c)
def partB (pure : Bool) (c : Int) : Bool := letterB c || (!pure && digitB c)
/-- So many bytes, all of them letters, or digits too. -/
def madeM (s : List UInt8) (least most : Int) (pure : Bool) : Bool := allB (partB pure) s 0 && decide (least ≤ s.length ∧ (s.length : Int) ≤ most)
theorem letterB_high {c : Int} (h : 128 ≤ c) : letterB c = false := decide_eq_false (by unfold LetterI; omega)
theorem digitB_high {c : Int} (h : 128 ≤ c) : digitB c = false := decide_eq_false (by unfold DigitI; omega)
theorem partB_high {pure : Bool} {c : Int} (h : 128 ≤ c) : partB pure c = false := by unfold partB; rw [letterB_high h, digitB_high h]; simp
def privateM (s : List UInt8) : Bool := s == [120] || s == [88]
def variantM (s : List UInt8) : Bool := madeM s 5 8 false || madeM s 4 4 false && digitB (byteAt s 0)
def regionM (s : List UInt8) : Bool := madeM s 2 2 true || decide (s.length = 3) && digitB (byteAt s 0) && digitB (byteAt s 1) && digitB (byteAt s 2)
/-- A byte in lower case. -/
def lowB (c : UInt8) : UInt8 := if 65 ≤ c.toNat ∧ c.toNat ≤ 90 then UInt8.ofNat (c.toNat + 32) else c
def lowerM (s : List UInt8) : List UInt8 := s.map lowB
theorem allB_one (p : Int → Bool) (c : UInt8) : allB p [c] 0 = p (bn c) := by
  rw [allB_at (by simp), allB_end (by simp), Bool.and_true]; rfl
theorem byteAt_drop (s : List UInt8) (n : Nat) (i : Int) (h : 0 ≤ i) : byteAt (s.drop n) i = byteAt s (n + i) := by
  unfold byteAt; rw [getD_drop, show ((n : Int) + i).toNat = n + i.toNat by omega]
/-- In lower case up to a place. -/
def curL (s : List UInt8) (i : Nat) : List UInt8 := (s.map lowB).take i ++ s.drop i
theorem curL_len (s : List UInt8) (i : Nat) : (curL s i).length = s.length := by unfold curL; simp; omega
theorem curL_zero (s : List UInt8) : curL s 0 = s := by simp [curL]
theorem curL_all {s : List UInt8} {i : Nat} (h : s.length ≤ i) : curL s i = lowerM s := by unfold curL lowerM; rw [List.take_of_length_le (by simpa using h), List.drop_eq_nil_of_le h, List.append_nil]
theorem curL_get {s : List UInt8} {i : Nat} (h : i < s.length) : (curL s i)[i]? = some s[i] := by
  unfold curL
  rw [List.getElem?_append_right (by simp; omega)]
  simp; rw [show min i s.length = i by omega]; simp [h]
theorem curL_set {s : List UInt8} {i : Nat} (h : i < s.length) : (curL s i).set i (lowB s[i]) = curL s (i + 1) := by
  unfold curL
  rw [List.set_append_right _ _ (by simp; omega), List.drop_eq_getElem_cons h]
  simp only [List.length_map, List.length_take]
  rw [show i - min i s.length = 0 by omega, List.set_cons_zero, List.take_succ_eq_append_getElem (by simpa using h), List.getElem_map, List.append_assoc]
  rfl
theorem curL_same {s : List UInt8} {i : Nat} (h : i < s.length) (hc : lowB s[i] = s[i]) : curL s i = curL s (i + 1) := by
  unfold curL
  rw [List.drop_eq_getElem_cons h, List.take_succ_eq_append_getElem (by simpa using h), List.getElem_map, hc, List.append_assoc]
  rfl
theorem rowL_get {s : List UInt8} {i : Nat} (h : i < s.length) : ((curL s i).map Sx.bytesRow)[i]? = some (Sx.bytesRow s[i]) := by
  rw [List.getElem?_map, curL_get h]; rfl
theorem rowL_set {s : List UInt8} {i : Nat} (h : i < s.length) : ((curL s i).map Sx.bytesRow).set i (Sx.bytesRow (lowB s[i])) = (curL s (i + 1)).map Sx.bytesRow := by
  rw [← List.map_set, curL_set h]
theorem lowB_up {c : UInt8} (h : 65 ≤ (c.toNat : Int) ∧ (c.toNat : Int) ≤ 90) : [SV.int .u8 (IntKind.u8.wrap ((c.toNat : Int) + 32))] = Sx.bytesRow (lowB c) := by
  unfold Sx.bytesRow lowB
  rw [if_pos (by omega), wrapu8 (by omega) (by omega), UInt8.toNat_ofNat_of_lt' (by show c.toNat + 32 < 256; omega)]
  simp
theorem lowB_id {c : UInt8} (h : ¬ (65 ≤ (c.toNat : Int) ∧ (c.toNat : Int) ≤ 90)) : lowB c = c := by unfold lowB; rw [if_neg (by omega)]
end Go.Our
/- States with other names at a loop's end; lists that grow. Conditions: none. -/
set_option linter.unusedVariables false
set_option linter.unusedSimpArgs false
namespace Go.Sx
open Go
def subK (σ : Nat → Nat) (fr : Fr) : Fr → Prop
  | [] => True
  | (t, v) :: r => match lkp t fr with
    | some u => u = ren σ v ∧ subK σ fr r
    | none => False
def subOK (σ : Nat → Nat) (O : Hps) : Hps → Prop
  | [] => True
  | (i, h) :: r => match lkp (σ i) O with
    | some g => g = renH σ h ∧ subOK σ O r
    | none => False
theorem subK_fr {σ : Nat → Nat} {m : Nat} {fr : Fr} : ∀ {fr' : Fr}, subK σ fr fr' → belowFr m fr' = true → SubFr σ m fr fr'
  | [], _, _ => trivial
  | (t, v) :: r, h, b => by
    simp only [subK] at h
    simp only [belowFr, Bool.and_eq_true] at b
    split at h
    · rename_i u hu
      obtain ⟨rfl, h⟩ := h
      exact ⟨⟨hu, b.1⟩, subK_fr h b.2⟩
    · exact h.elim
theorem subOK_o {σ : Nat → Nat} {m : Nat} {O : Hps} : ∀ {O' : Hps}, subOK σ O O' → belowO m O' = true → SubO σ m O O'
  | [], _, _ => trivial
  | (t, v) :: r, h, b => by
    simp only [subOK] at h
    simp only [belowO, Bool.and_eq_true] at b
    split at h
    · rename_i u hu
      obtain ⟨rfl, h⟩ := h
      exact ⟨⟨b.1, hu, b.2.1⟩, subOK_o h b.2.2⟩
    · exact h.elim
theorem GOES.keeping {M : Mx} {fr : Fr} {O : Hps} {nx k : Nat} {fr' : Fr} {O' : Hps} (hk : M.η0.length = k) (τ : List Nat) (hτ : τ.all (fun i => Nat.blt i nx) = true)
    (hn : (namesOf O').all (fun j => (namesOf O').all fun j' => !(Nat.beq (fname k τ j) (fname k τ j')) || Nat.beq j j') = true)
    (hbf : belowFr (k + τ.length) fr' = true) (hbo : belowO (k + τ.length) O' = true) (hf : subK (fname k τ) fr fr') (hO : subOK (fname k τ) O O') : GOES M fr O nx fr' O' (k + τ.length) :=
  GOES.keep hk τ hτ (subK_fr hf hbf) (subOK_o hO hbo) hn
theorem sl_eq {b b' : Blk} {r es n n' : Nat} {lim : Option Nat} (hb : b = b') (hn : n = n') : SV.sl b r es n lim = SV.sl b' r es n' lim := by rw [hb, hn]
theorem rows_eq {es : Nat} {rs rs' : List (List SV)} {σ : Nat → Nat} (hp : plainLL rs' = true) (h : rs = rs') : Hp.rows es rs = renH σ (.rows es rs') := by rw [renH_plain σ (h := .rows es rs') hp, h]
/-- Room for what is appended: B is no less than an element's bytes. -/
theorem needApp {xs : List (List SV)} {m n k b : Nat} (B : Nat) (hb : Nat.ble b B = true) (hB : Nat.ble 1 B = true) (h1 : xs.length = m) (h2 : n ≤ k) (h3 : (n + m) * B ≤ 140737488355328) : xs.length = m ∧ n ≤ k ∧ n + m ≤ 9223372036854775807 ∧ (n + m) * b ≤ 140737488355328 := by
  have hb := Nat.le_of_ble_eq_true hb
  have hB := Nat.le_of_ble_eq_true hB
  refine ⟨h1, h2, ?_, Nat.le_trans (Nat.mul_le_mul_left _ hb) h3⟩
  have : n + m ≤ (n + m) * B := Nat.le_mul_of_pos_right _ hB
  omega
/-- An end with a tuple of a new slice and plain values. -/
theorem FIN.rowsT {M : Mx} {O : Hps} {nx k : Nat} {r : SV} {Q : SV → Hps → Nat → Prop} (hk : M.η0.length = k) (i es len : Nat) {rs : List (List SV)} {vs : List SV} (hr : r = .tup (.sl (.loc i) 0 es len none :: vs)) (hO : lkp i O = some (.rows es rs)) (hi : Nat.blt i nx = true) (hp : plainLL rs = true) (hv : plainL vs = true)
    (hQ : Q (.tup (.sl (.loc k) 0 es len none :: vs)) [(k, .rows es rs)] (k + 1)) : FIN M O nx r Q := by
  have hi : i < nx := by simpa [Nat.blt_eq] using hi
  have hf : fname k [i] k = i := by simp [fname]
  refine FIN.keep hk [i] (rc := .tup (.sl (.loc k) 0 es len none :: vs)) (Oc := [(k, .rows es rs)]) (fun j hj => by simp at hj; omega) (by rw [hr]; simp only [ren, renL, renB, hf, renL_plain _ hv]) (by simp [below, belowL, belowB, Nat.blt_eq, plainL_below _ hv]) ?_ ?_ hQ
  · intro p hp'
    simp only [List.mem_singleton] at hp'
    subst hp'
    refine ⟨by simp, ?_, by simp only [belowH, plainLL_below _ hp]⟩
    simp only [renH, hf, renLL_plain _ hp, hO]
  · intro j hj j' hj' _
    simp [namesOf] at hj hj'
    omega
theorem Does.mono {P : Program} {T : Tab} {f : FuncId} {k : Nat} {args : List SV} {O S : Hps} {Q Q' : SV → Hps → Nat → Prop} (h : Does P T f k args O S Q) (hq : ∀ r O nx, Q r O nx → Q' r O nx) : Does P T f k args O S Q' :=
  ⟨fun M vs h1 h2 h3 h4 h5 h6 => (h.out M vs h1 h2 h3 h4 h5 h6).mono fun v w' ⟨r, O', nx', η', a, b⟩ => ⟨r, O', nx', η', hq _ _ _ a, b⟩⟩
/-- A result with a new slice at its head. -/
def NewT (es : Nat) (rs : List (List SV)) (vs : List SV) : SV → Hps → Nat → Prop := fun r O nx => r = .tup (.sl (.loc 0) 0 es rs.length none :: vs) ∧ O = [(0, .rows es rs)] ∧ nx = 1
theorem CALL.newT {M : Mx} {O : Hps} {nx : Nat} {f : FuncId} {args : List SV} {K : SV → Hps → Nat → Prop} {es : Nat} {rs : List (List SV)} {vs : List SV} (sp : Does M.P M.C.T f 0 args [] [] (NewT es rs vs)) (hp : plainL args = true) (hrs : plainLL rs = true) (hvs : plainL vs = true)
    (hK : K (.tup (.sl (.loc nx) 0 es rs.length none :: vs)) ((nx, .rows es rs) :: O) (nx + 1)) : CALL M f args O nx K := by
  refine CALL.of [] sp rfl (fun i hi => by cases hi) (renL_plain _ hp).symm (plainL_below 0 hp) (fun p hp => by cases hp) (fun j hj => by cases hj) (fun p hp => by cases hp) ?_
  rintro r' O' nx' ⟨rfl, rfl, rfl⟩
  simp only [ren, renL, renB, renO, renH, renLL_plain _ hrs, renL_plain _ hvs, cname_ge (L := []) (nx := nx) (k := 0) rfl, namesOf, List.map_nil, outside_nil, List.cons_append, List.nil_append]
  exact hK
/-- A result that is a new slice. -/
def NewS (es : Nat) (rs : List (List SV)) : SV → Hps → Nat → Prop := fun r O nx => r = .sl (.loc 0) 0 es rs.length none ∧ O = [(0, .rows es rs)] ∧ nx = 1
theorem CALL.newS {M : Mx} {O : Hps} {nx : Nat} {f : FuncId} {args : List SV} {K : SV → Hps → Nat → Prop} {es : Nat} {rs : List (List SV)} (sp : Does M.P M.C.T f 0 args [] [] (NewS es rs)) (hp : plainL args = true) (hrs : plainLL rs = true)
    (hK : K (.sl (.loc nx) 0 es rs.length none) ((nx, .rows es rs) :: O) (nx + 1)) : CALL M f args O nx K := by
  refine CALL.of [] sp rfl (fun i hi => by cases hi) (renL_plain _ hp).symm (plainL_below 0 hp) (fun p hp => by cases hp) (fun j hj => by cases hj) (fun p hp => by cases hp) ?_
  rintro r' O' nx' ⟨rfl, rfl, rfl⟩
  simp only [ren, renB, renO, renH, renLL_plain _ hrs, cname_ge (L := []) (nx := nx) (k := 0) rfl, namesOf, List.map_nil, outside_nil, List.cons_append, List.nil_append]
  exact hK
end Go.Sx
/- Parts between hyphens, in plain words. No program in sight. -/
set_option linter.unusedVariables false
set_option linter.unusedSimpArgs false
namespace Go.Our
open Go.Sx
def splitM : List UInt8 → List (List UInt8)
  | [] => [[]]
  | c :: t => if c = 45 then [] :: splitM t else match splitM t with
    | h :: r => (c :: h) :: r
    | [] => [[c]]
theorem split_ne : ∀ s, splitM s ≠ []
  | [] => by simp [splitM]
  | c :: t => by
    unfold splitM
    split
    · simp
    · split <;> simp
theorem split_count : ∀ s : List UInt8, (splitM s).length = s.count 45 + 1
  | [] => rfl
  | c :: t => by
    have ih := split_count t
    unfold splitM
    split
    · rename_i h; subst h; simp [ih]
    · rename_i h
      split
      · rename_i h' r e
        rw [e] at ih
        simp at ih ⊢
        rw [List.count_cons_of_ne (by simpa using h)]; omega
      · rename_i e; exact (split_ne t e).elim
theorem split_none : ∀ {s : List UInt8}, Lib.indexByte s 45 = -1 → splitM s = [s]
  | [], _ => rfl
  | c :: t, h => by
    unfold Lib.indexByte at h
    by_cases hc : c = 45
    · subst hc; simp at h
    · have hge := Lib.indexByte_ge t 45
      have : Lib.indexByte t 45 = -1 := by
        simp [hc] at h
        apply Classical.byContradiction
        intro hn
        have := h hn
        omega
      unfold splitM
      rw [if_neg hc, split_none this]
theorem split_some : ∀ {s : List UInt8} {m : Nat}, Lib.indexByte s 45 = m → m < s.length ∧ splitM s = s.take m :: splitM (s.drop (m + 1))
  | [], m, h => by unfold Lib.indexByte at h; omega
  | c :: t, m, h => by
    unfold Lib.indexByte at h
    by_cases hc : c = 45
    · subst hc
      simp at h
      obtain rfl : m = 0 := by omega
      simp [splitM]
    · have hge := Lib.indexByte_ge t 45
      simp [hc] at h
      split at h
      · omega
      · obtain ⟨k, rfl⟩ : ∃ k, m = k + 1 := ⟨m - 1, by omega⟩
        have ih := split_some (s := t) (m := k) (by omega)
        refine ⟨by simp; omega, ?_⟩
        conv => lhs; unfold splitM
        rw [if_neg hc, ih.2]
        simp only [List.take_succ_cons, List.drop_succ_cons]
theorem split_len (s : List UInt8) : (splitM s).length ≤ s.length + 1 := by
  rw [split_count]; have := List.count_le_length (a := (45 : UInt8)) (l := s); omega
def strRow (s : List UInt8) : List SV := [.str s]
theorem plainStrs (l : List (List UInt8)) : plainLL (l.map strRow) = true := plainLL_map _ (fun _ => rfl) l
/-- Rows that are filled one by one. -/
def fillR (d : List (List UInt8)) (k : Nat) : List (List SV) := d.map strRow ++ List.replicate k (strRow [])
theorem plainFill (d : List (List UInt8)) (k : Nat) : plainLL (fillR d k) = true := by
  unfold fillR
  refine plainLL_append (plainStrs d) ?_
  induction k with
  | zero => rfl
  | succ k ih => rw [List.replicate_succ]; simp only [plainLL, ih]; rfl
theorem fill_zero (k : Nat) : fillR [] k = List.replicate k (strRow []) := rfl
theorem fill_len (d : List (List UInt8)) (k : Nat) : (fillR d k).length = d.length + k := by simp [fillR]
theorem fill_get {d : List (List UInt8)} {k i : Nat} (h : i = d.length) (hk : 0 < k) : (fillR d k)[i]? = some (strRow []) := by
  subst h
  unfold fillR
  rw [List.getElem?_append_right (by simp)]
  simp [List.getElem?_replicate, hk]
theorem fill_set {d : List (List UInt8)} {k i : Nat} {p : List UInt8} (h : i = d.length) (hk : 0 < k) : (fillR d k).set i [.str p] = fillR (d ++ [p]) (k - 1) := by
  subst h
  obtain ⟨j, rfl⟩ : ∃ j, k = j + 1 := ⟨k - 1, by omega⟩
  unfold fillR
  rw [List.set_append_right _ _ (by simp)]
  simp [List.replicate_succ, strRow]
end Go.Our
/- Language tags: which parts make one. No program in sight. -/
set_option linter.unusedVariables false
set_option linter.unusedSimpArgs false
namespace Go.Our
open Go.Sx
/-- One byte, a letter or a digit, but no x. -/
def singleM (s : List UInt8) : Bool := madeM s 1 1 false && !privateM s
/-- How many parts in a row say what p says. -/
def spanM (p : List UInt8 → Bool) : List (List UInt8) → Nat
  | [] => 0
  | s :: l => if p s = true then spanM p l + 1 else 0
theorem span_le (p : List UInt8 → Bool) : ∀ l, spanM p l ≤ l.length
  | [] => by simp [spanM]
  | s :: l => by
    have := span_le p l
    unfold spanM; split <;> simp <;> omega
abbrev partOK (least : Int) : List UInt8 → Bool := fun s => madeM s least 8 false
def extP : Nat → List (List UInt8) → List (List UInt8)
  | 0, l => l
  | _ + 1, [] => []
  | n + 1, s :: l => if madeM s 3 3 true = true then extP n l else s :: l
/-- Behind the language. -/
def langP : List (List UInt8) → Option (List (List UInt8))
  | [] => none
  | s :: l => if madeM s 2 8 true = true then (if 3 < s.length then some l else some (extP 3 l)) else none
def skipIf (p : List UInt8 → Bool) : List (List UInt8) → List (List UInt8)
  | [] => []
  | s :: l => if p s = true then l else s :: l
def varsP (seen : List (List UInt8)) : List (List UInt8) → Option (List (List UInt8) × List (List UInt8))
  | [] => some ([], seen)
  | s :: l => if variantM s = true then (if lowerM s ∈ seen then none else varsP (seen ++ [lowerM s]) l) else some (s :: l, seen)
def extsP (seen : List (List UInt8)) : List (List UInt8) → Option (List (List UInt8))
  | [] => some []
  | s :: l => if singleM s = true then
        (if spanM (partOK 2) l = 0 ∨ lowerM s ∈ seen then none else extsP (seen ++ [lowerM s]) (l.drop (spanM (partOK 2) l)))
      else some (s :: l)
termination_by l => l.length
decreasing_by simp; omega
def restP (l : List (List UInt8)) : Option (List (List UInt8)) :=
  match varsP [] (skipIf regionM (skipIf (fun s => madeM s 4 4 true) l)) with
  | none => none
  | some (l, seen) => extsP seen l
def headIs (p : List UInt8 → Bool) : List (List UInt8) → Bool
  | [] => false
  | s :: _ => p s
def lastP : List (List UInt8) → Bool
  | [] => true
  | s :: l => if privateM s = true then decide (spanM (partOK 1) l ≠ 0 ∧ spanM (partOK 1) l = l.length) else false
def tagP (l : List (List UInt8)) : Bool :=
  if headIs privateM l = true then lastP l else
  match langP l with
  | none => false
  | some l => match restP l with
    | none => false
    | some l => lastP l
theorem split_bulk : ∀ s : List UInt8, ((splitM s).map List.length).sum + (splitM s).length = s.length + 1
  | [] => rfl
  | c :: t => by
    have ih := split_bulk t
    have hne := split_ne t
    unfold splitM
    split
    · simp only [List.map_cons, List.sum_cons, List.length_cons, List.length_nil]; omega
    · split
      · rename_i h r e
        rw [e] at ih
        simp only [List.map_cons, List.sum_cons, List.length_cons] at ih ⊢; omega
      · rename_i e; exact (hne e).elim
theorem split_cut : ∀ (u : List UInt8) (n : Nat), (∀ c ∈ u.take n, c ≠ 45) → u[n]? = some 45 → splitM u = u.take n :: splitM (u.drop (n + 1))
  | [], n, _, h => by simp at h
  | c :: t, 0, _, h => by
    have h : c = 45 := by simpa using h
    subst h
    conv => lhs; unfold splitM
    rw [if_pos rfl]; rfl
  | c :: t, n + 1, h, h2 => by
    have hc : c ≠ 45 := h c (by simp)
    have ih := split_cut t n (fun d hd => h d (by simp [hd])) (by simpa using h2)
    conv => lhs; unfold splitM
    rw [if_neg hc, ih]; rfl
theorem split_all : ∀ (u : List UInt8), (∀ c ∈ u, c ≠ 45) → splitM u = [u]
  | [], _ => rfl
  | c :: t, h => by
    have hc : c ≠ 45 := h c (by simp)
    have ih := split_all t (fun d hd => h d (by simp [hd]))
    unfold splitM
    rw [if_neg hc, ih]
theorem partB_true : partB true = letterB := by funext c; simp [partB]
/-- Of so many bytes, all of them digits or all letters. -/
def moreM (least most : Int) (digits : Bool) (s : List UInt8) : Bool := decide (least ≤ s.length ∧ (s.length : Int) ≤ most) && (if digits = true then allB digitB s 0 else allB letterB s 0)
theorem more_made (least most : Int) (s : List UInt8) : moreM least most false s = madeM s least most true := by
  unfold moreM madeM; rw [partB_true, Bool.and_comm]; rfl
theorem allB_three {s : List UInt8} (h : s.length = 3) : allB digitB s 0 = (digitB (byteAt s 0) && digitB (byteAt s 1) && digitB (byteAt s 2)) := by
  rw [allB_at (by omega), allB_at (by omega), allB_at (by omega), allB_end (by omega), Bool.and_true, Bool.and_assoc]; rfl
theorem region_more (s : List UInt8) : regionM s = (moreM 2 2 false s || moreM 3 3 true s) := by
  unfold regionM
  rw [more_made]
  congr 1
  unfold moreM
  by_cases h : s.length = 3
  · rw [if_pos rfl, allB_three h]; simp [h, Bool.and_assoc]
  · have : decide ((3 : Int) ≤ s.length ∧ (s.length : Int) ≤ 3) = false := decide_eq_false (by omega)
    rw [this]; simp [h]
theorem lang_more (s : List UInt8) : madeM s 2 8 true = (moreM 2 3 false s || moreM 4 8 false s) := by
  rw [more_made, more_made]; unfold madeM
  cases allB (partB true) s 0
  · simp
  · simp only [Bool.true_and]
    rw [Bool.eq_iff_iff]; simp; omega
/-- The private letter is what in lower case is x. -/
theorem private_lower (s : List UInt8) : privateM s = (lowerM s == [120]) := by
  unfold privateM lowerM
  rcases s with _ | ⟨a, _ | ⟨b, t⟩⟩
  · rfl
  · rw [Bool.eq_iff_iff]
    simp only [Bool.or_eq_true, beq_iff_eq, List.map_cons, List.map_nil, List.cons.injEq, and_true]
    unfold lowB
    constructor
    · rintro (rfl | rfl) <;> rfl
    · intro h
      split at h
      · rename_i h1
        right
        have h2 := congrArg UInt8.toNat h
        rw [UInt8.toNat_ofNat_of_lt' (by show a.toNat + 32 < 256; omega)] at h2
        have : a.toNat = 88 := by simpa using h2
        exact UInt8.toNat_inj.1 (by simpa using this)
      · exact .inl h
  · simp
end Go.Our
/- Terms and quads: which are well formed. No program in sight. -/
set_option linter.unusedVariables false
set_option linter.unusedSimpArgs false
namespace Go.Our
open Go.Sx
/-- A term: its kind, text, datatype and language. -/
structure Tm where
  k : Int
  t : List UInt8
  y : List UInt8
  l : List UInt8
  deriving DecidableEq
structure Qd where
  s : Tm
  p : Tm
  o : Tm
  g : Tm
  deriving DecidableEq
abbrev TmSm (x : Tm) : Prop := Sm x.t ∧ Sm x.y ∧ Sm x.l
abbrev QdSm (q : Qd) : Prop := TmSm q.s ∧ TmSm q.p ∧ TmSm q.o ∧ TmSm q.g
def Tm.sv (x : Tm) : SV := .agg [.int .i64 x.k, .str x.t, .str x.y, .str x.l]
def Qd.sv (q : Qd) : SV := .agg [.int .i64 q.s.k, .str q.s.t, .str q.s.y, .str q.s.l, .int .i64 q.p.k, .str q.p.t, .str q.p.y, .str q.p.l, .int .i64 q.o.k, .str q.o.t, .str q.o.y, .str q.o.l, .int .i64 q.g.k, .str q.g.t, .str q.g.y, .str q.g.l]
/-- rdf:langString -/
def taggedB : List UInt8 := [104, 116, 116, 112, 58, 47, 47, 119, 119, 119, 46, 119, 51, 46, 111, 114, 103, 47, 49, 57, 57, 57, 47, 48, 50, 47, 50, 50, 45, 114, 100, 102, 45, 115, 121, 110, 116, 97, 120, 45, 110, 115, 35, 108, 97, 110, 103, 83, 116, 114, 105, 110, 103]
def litM (t y l : List UInt8) : Int :=
  if 65536 < t.length then 2 else if 0 ≤ chk t 0 then 40 else if iriM y ≠ 0 then iriM y else
  if l ≠ [] ∧ 65536 < l.length then 2 else if l ≠ [] ∧ (¬ tagP (splitM l) = true ∨ lowerM l ≠ l) then 61 else
  if (l ≠ [] ∧ ¬ y = taggedB) ∨ (l = [] ∧ y = taggedB) then 71 else 0
def checkM (x : Tm) : Int :=
  if x.k = 1 ∨ x.k = 2 then (if x.y ≠ [] ∨ x.l ≠ [] then 70 else if x.k = 1 then iriM x.t else if 65536 < x.t.length then 2 else labelM x.t)
  else if x.k = 3 then litM x.t x.y x.l else 70
def zeroTm : Tm := ⟨0, [], [], []⟩
def cquadM (q : Qd) : Int :=
  if ¬ (q.s.k = 1 ∨ q.s.k = 2) then 70 else if checkM q.s ≠ 0 then checkM q.s else
  if ¬ q.p.k = 1 then 70 else if checkM q.p ≠ 0 then checkM q.p else
  if checkM q.o ≠ 0 then checkM q.o else
  if q.g = zeroTm then 0 else if ¬ (q.g.k = 1 ∨ q.g.k = 2) then 70 else checkM q.g
theorem check_kind {x : Tm} (h : checkM x = 0) : x.k = 1 ∨ x.k = 2 ∨ x.k = 3 := by
  unfold checkM at h
  split at h
  · omega
  · split at h
    · omega
    · omega
theorem check_other {x : Tm} (h : ¬ (x.k = 1 ∨ x.k = 2 ∨ x.k = 3)) : checkM x = 70 := by
  unfold checkM
  rw [if_neg (by omega), if_neg (by omega)]
/-- In lower case is what has no great letter. -/
def upB (c : Int) : Bool := decide (65 ≤ c ∧ c ≤ 90)
theorem lowB_up_ne {c : UInt8} (h : 65 ≤ c.toNat ∧ c.toNat ≤ 90) : lowB c ≠ c := by
  unfold lowB
  rw [if_pos h]
  intro he
  have := congrArg UInt8.toNat he
  rw [UInt8.toNat_ofNat_of_lt' (by show c.toNat + 32 < 256; omega)] at this
  omega
theorem lower_at {s : List UInt8} {i : Nat} (h : i < s.length) : (lowerM s)[i]? = some (lowB s[i]) := by
  unfold lowerM; rw [List.getElem?_map, List.getElem?_eq_getElem h]; rfl
theorem lower_up {s : List UInt8} {i : Nat} (h : i < s.length) (hu : 65 ≤ byteAt s i ∧ byteAt s i ≤ 90) : lowerM s ≠ s := by
  intro he
  have h1 := lower_at h
  rw [he, List.getElem?_eq_getElem h] at h1
  have hb : byteAt s i = (s[i].toNat : Int) := by unfold byteAt; rw [Int.toNat_natCast, List.getD, List.getElem?_eq_getElem h]; rfl
  exact lowB_up_ne (by omega) (Option.some.inj h1).symm
theorem lower_same {s : List UInt8} (hu : ∀ i : Nat, i < s.length → ¬ (65 ≤ byteAt s i ∧ byteAt s i ≤ 90)) : lowerM s = s := by
  apply List.ext_getElem?
  intro i
  by_cases h : i < s.length
  · rw [lower_at h, List.getElem?_eq_getElem h]
    have hb : byteAt s i = (s[i].toNat : Int) := by unfold byteAt; rw [Int.toNat_natCast, List.getD, List.getElem?_eq_getElem h]; rfl
    have := hu i h
    rw [lowB_id (by omega)]
  · rw [List.getElem?_eq_none (by unfold lowerM; simp; omega), List.getElem?_eq_none (by omega)]
end Go.Our
/- Back from a contract to the kit's own words: calls. Conditions: none. -/
set_option linter.unusedVariables false
namespace Go.Sx
open Go
/-- A contract about values alone, as a call: the world at most grows and draws. -/
theorem Does.calls {P : Program} {T : Tab} {g : FuncId} {args : List SV} {r : SV} {vs : List Value} {w : World} (sp : Does P T g 0 args [] [] (Val r)) (eg : ∀ args w, (callFunc g args).run P w = .ok (.enter g args) w) (hd : DenL [] args vs)
    (hg : ∀ g h, lkp g T.globs = some h → HpSat [] w false (.glob g) h ∧ g < w.heap.size) :
    Calls P g ⟨vs⟩ w fun e w' => ∃ v, e = .returned v ∧ Den [] r v ∧ FrW w w' fun _ => False := by
  have H : HeapOK ⟨P, ⟨T, 0, []⟩, w, fun _ => False, []⟩ [] w [] 0 := ⟨List.prefix_rfl, rfl, ⟨fun i h hi => by simp [lkp] at hi, fun i j h h' n hi => by simp [lkp] at hi⟩, FrW.refl _ _, fun b h hb => by
    cases b with
    | loc i => simp [lkS, lkpB] at hb
    | glob g =>
      obtain ⟨h1, h2⟩ := hg g h hb
      exact ⟨h1, fun k f => ⟨h1.feet_lt f, fun h => h⟩⟩⟩
  have hF : (fun _ => False : Nat → Prop) = blocksOf [] w [] := by
    funext n; simp [blocksOf, lkp]
  rcases sp.out ⟨P, ⟨T, 0, []⟩, w, fun _ => False, []⟩ vs rfl rfl hF rfl H hd with ⟨g', h1, h2⟩ | ⟨v, w', h1, _⟩
  · rw [eg] at h1
    injection h1 with h1 _
    injection h1 with h1 _
    subst h1
    refine h2.mono fun e w' he => ?_
    obtain ⟨v, rfl, r', O', nx', η', ⟨rfl, rfl, rfl⟩, _, h4, h5⟩ := he
    have : η' = [] := List.length_eq_zero_iff.1 h4.len
    subst this
    exact ⟨v, rfl, h5, h4.fr⟩
  · rw [eg] at h1; cases h1
end Go.Sx
/- What the engine takes of a program's types is so: asked of the program by the kernel. Conditions: none. -/
set_option linter.unusedVariables false
set_option linter.unusedSimpArgs false
namespace Go.Sx
open Go
/-- A description fits a shape. -/
def shB1 (T : Tab) (t : TypeId) : Sh → TypeDesc → Bool
  | .int k, .int k' => kindEq k k'
  | .bool, .bool => true
  | .str, .string => true
  | .ptr e, .pointer e' => Nat.beq e e'
  | .slice e, .slice e' => Nat.beq e e'
  | .array n e, .array n' e' => Nat.beq n n' && Nat.beq e e' && Nat.beq (T.size t) (n * T.size e) && okSh T e
  | .struct fs, .struct fields => (fields.toList.map fun f => (f.offset, f.type)) == fs && fs.all fun p => okSh T p.2
  | .map k e, .map k' e' => Nat.beq k k' && Nat.beq e e'
  | .iface, .interface _ => true
  | .func, .func _ _ _ => true
  | .plain, .float _ => true
  | .plain, .complex _ => true
  | .plain, .chan _ _ => true
  | .plain, .unsafePointer => true
  | .plain, .tuple _ => true
  | _, _ => false
theorem shM_of {T : Tab} {t : TypeId} {sh : Sh} {d : TypeDesc} (h : shB1 T t sh d = true) : ShM T t sh d := by
  have ok : ∀ {e}, okSh T e = true → T.sh e ≠ .other := fun h e => by simp [okSh, e] at h
  cases sh <;> cases d <;> simp only [shB1, Bool.false_eq_true, Bool.and_eq_true] at h <;> simp only [ShM]
  · rw [kindEq_iff.1 h]
  · rw [beq_eq h]
  · rw [beq_eq h]
  · obtain ⟨⟨⟨h1, h2⟩, h3⟩, h4⟩ := h
    exact ⟨by rw [beq_eq h1, beq_eq h2], beq_eq h3, ok h4⟩
  · obtain ⟨h1, h2⟩ := h
    exact ⟨_, rfl, by simpa using h1, fun p hp => ok (List.all_eq_true.1 h2 p hp)⟩
  · obtain ⟨h1, h2⟩ := h; rw [beq_eq h1, beq_eq h2]
  · exact ⟨_, rfl⟩
  · exact ⟨_, _, _, rfl⟩
/-- A cell of a zero value. -/
def zc1 : SV → Value → Bool
  | .bool a, .bool b => a == b
  | .int k a, .int k' b => kindEq k k' && a == b
  | .str [], .string s => s.data.toList.isEmpty
  | .val (.pointer none), .pointer none => true
  | .val (.slice none 0 0), .slice none 0 0 => true
  | .val (.map none), .map none => true
  | .val (.chan none), .chan none => true
  | .val .nilFunc, .nilFunc => true
  | .val .nilIface, .nilIface => true
  | _, _ => false
def zcs : List SV → List Value → Bool
  | [], [] => true
  | x :: xs, y :: ys => zc1 x y && zcs xs ys
  | _, _ => false
theorem zc1_den {x : SV} {v : Value} (h : zc1 x v = true) : Den [] x v ∧ v.oneCell' = true := by
  unfold zc1 at h
  split at h
  case h_10 => cases h
  · rename_i a b; have : a = b := by simpa using h
    subst this; exact ⟨rfl, rfl⟩
  · simp only [Bool.and_eq_true] at h
    rename_i k a k' b
    have h2 : a = b := by simpa using h.2
    rw [kindEq_iff.1 h.1, h2]; exact ⟨rfl, rfl⟩
  · rename_i s
    have h2 : s.data.toList = [] := by simpa using h
    refine ⟨?_, rfl⟩
    simp only [Den]
    congr 1
    apply ByteArray.ext; apply Array.ext'; simpa using h2
  all_goals exact ⟨⟨rfl, rfl⟩, rfl⟩
theorem zcs_den : ∀ {xs : List SV} {vs : List Value}, zcs xs vs = true → DenL [] xs vs ∧ ∀ u ∈ vs, u.oneCell' = true
  | [], [], _ => by simp [DenL]
  | [], v :: vs, h => by simp [zcs] at h
  | x :: xs, [], h => by simp [zcs] at h
  | x :: xs, v :: vs, h => by
    simp only [zcs, Bool.and_eq_true] at h
    obtain ⟨h1, h2⟩ := zcs_den h.2
    obtain ⟨h3, h4⟩ := zc1_den h.1
    simp only [DenL]
    refine ⟨⟨v, vs, rfl, h3, h1⟩, fun u hu => ?_⟩
    rcases List.mem_cons.1 hu with e | hu
    · rw [e]; exact h4
    · exact h2 u hu
/-- Structs of numbers, texts and truths, and of such structs: what their cells hold; the fields lie one behind the other. -/
def flatF (P : Program) (go : TypeId → Option (List CK)) : Nat → List Field → Option (List CK)
  | _, [] => some []
  | off, f :: fs => match f.name != "_" && Nat.beq f.offset off with
    | false => none
    | true => match P.underlying f.type with
      | some (.int k) => match flatF P go (off + 1) fs with | some ks => some (.int k :: ks) | none => none
      | some .string => match flatF P go (off + 1) fs with | some ks => some (.str :: ks) | none => none
      | some .bool => match flatF P go (off + 1) fs with | some ks => some (.bool :: ks) | none => none
      | some (.struct _) => match go f.type, P.info? f.type with
        | some ks1, some i => match Nat.beq i.size ks1.length, flatF P go (off + ks1.length) fs with
          | true, some ks => some (ks1 ++ ks)
          | _, _ => none
        | _, _ => none
      | _ => none
def flatN (P : Program) : Nat → TypeId → Option (List CK)
  | 0, _ => none
  | n + 1, t => match P.underlying t with
    | some (.struct fs) => match P.stoodInHeld t with
      | false => flatF P (flatN P n) 0 fs.toList
      | true => none
    | _ => none
theorem cellsEq_split : ∀ {k1 k2 : List CK} {xs ys : List SV} {r : Bool}, cellsEq (k1 ++ k2) xs ys = some r →
    ∃ a b, cellsEq k1 (xs.take k1.length) (ys.take k1.length) = some a ∧ cellsEq k2 (xs.drop k1.length) (ys.drop k1.length) = some b ∧ r = (a && b)
  | [], k2, xs, ys, r, h => ⟨true, r, by simp [cellsEq], by simpa using h, rfl⟩
  | k :: k1, k2, xs, ys, r, h => by
    rw [List.cons_append] at h
    generalize hkk : k :: (k1 ++ k2) = kk at h
    unfold cellsEq at h
    split at h
    · cases hkk
    · rename_i q ks q1 a xs' q2 b ys'
      injection hkk with e1 e2
      subst e1 e2
      split at h
      case h_2 => cases h
      rename_i r' hk hr
      injection h with h
      subst h
      obtain ⟨x, y, h1, h2, h3⟩ := cellsEq_split hr
      subst h3
      exact ⟨(a == b && x), y, by simp only [List.length_cons, List.take_succ_cons, cellsEq, hk, h1], by simpa using h2, by rw [Bool.and_assoc]⟩
    · rename_i ks a xs' b ys'
      injection hkk with e1 e2
      subst e1 e2
      split at h
      case h_2 => cases h
      rename_i r' hr
      injection h with h
      subst h
      obtain ⟨x, y, h1, h2, h3⟩ := cellsEq_split hr
      subst h3
      exact ⟨(a == b && x), y, by simp only [List.length_cons, List.take_succ_cons, cellsEq, h1], by simpa using h2, by rw [Bool.and_assoc]⟩
    · rename_i ks a xs' b ys'
      injection hkk with e1 e2
      subst e1 e2
      split at h
      case h_2 => cases h
      rename_i r' hr
      injection h with h
      subst h
      obtain ⟨x, y, h1, h2, h3⟩ := cellsEq_split hr
      subst h3
      exact ⟨(a == b && x), y, by simp only [List.length_cons, List.take_succ_cons, cellsEq, h1], by simpa using h2, by rw [Bool.and_assoc]⟩
    · cases h
theorem cellsEq_int {k : IntKind} {x y : SV} {a : Bool} (h : cellsEq [.int k] [x] [y] = some a) : ∃ m n, x = .int k m ∧ y = .int k n ∧ a = (m == n) := by
  cases x <;> cases y <;> first | (simp [cellsEq] at h; done) | skip
  rename_i k1 m k2 n
  simp only [cellsEq] at h
  split at h
  · rename_i r' hk hr
    simp only [Option.some.injEq] at hr h
    subst hr
    simp only [Bool.and_eq_true] at hk
    have g1 := kindEq_iff.1 hk.1
    have g2 := kindEq_iff.1 hk.2
    subst g1 g2
    exact ⟨m, n, rfl, rfl, by rw [← h, Bool.and_true]⟩
  · cases h
theorem cellsEq_str {x y : SV} {a : Bool} (h : cellsEq [.str] [x] [y] = some a) : ∃ m n, x = .str m ∧ y = .str n ∧ a = (m == n) := by
  cases x <;> cases y <;> first | (simp [cellsEq] at h; done) | skip
  rename_i m n
  simp only [cellsEq, Bool.and_true, Option.some.injEq] at h
  exact ⟨m, n, rfl, rfl, h.symm⟩
theorem cellsEq_bool {x y : SV} {a : Bool} (h : cellsEq [.bool] [x] [y] = some a) : ∃ m n, x = .bool m ∧ y = .bool n ∧ a = (m == n) := by
  cases x <;> cases y <;> first | (simp [cellsEq] at h; done) | skip
  rename_i m n
  simp only [cellsEq, Bool.and_true, Option.some.injEq] at h
  exact ⟨m, n, rfl, rfl, h.symm⟩
theorem part_cell {P : Program} {w : World} {t : TypeId} {d : TypeDesc} (h : P.underlying t = some d) (hd : (∃ k, d = .int k) ∨ d = .string ∨ d = .bool) {us : List Value} {off : Nat} {u : Value} (hu : us[off]? = some u) : (part t ⟨us⟩ off).run P w = .ok u w := by
  have : (isAgg t).run P w = .ok false w := by
    rcases hd with ⟨k, rfl⟩ | rfl | rfl <;> simp [isAgg, run_und h]
  simp [part, this, hu]
theorem flat_eq (P : Program) : ∀ (n : Nat) (t : TypeId) (ks : List CK), flatN P n t = some ks → ∀ (d : Nat), n < d → ∀ (w : World) (η : Env) (xs ys : List SV) (us vs : List Value) (r : Bool), cellsEq ks xs ys = some r → DenL η xs us → DenL η ys vs →
    (Op.equalIn d t (.agg ⟨us⟩) (.agg ⟨vs⟩)).run P w = .ok r w
  | 0, t, ks, h, _, _, _, _, _, _, _, _, _, _, _, _ => by simp [flatN] at h
  | n + 1, t, ks, h, d, hd, w, η, xs, ys, us, vs, r, hc, hu, hv => by
    obtain ⟨d, rfl⟩ : ∃ d', d = d' + 1 := ⟨d - 1, by omega⟩
    simp only [flatN] at h
    split at h
    case h_2 => cases h
    rename_i fields ht
    split at h
    case h_2 => cases h
    rename_i hp
    have hfo : P.fieldsOf t = fields := by simp [Program.fieldsOf, ht]
    rw [run_equalIn_struct w d t ⟨us⟩ ⟨vs⟩ (by rw [hfo]; exact ht) hp, hfo]
    have key : ∀ (fs : List Field) (off : Nat) (ks : List CK), flatF P (flatN P n) off fs = some ks → ∀ (r : Bool), cellsEq ks (xs.drop off) (ys.drop off) = some r → (Op.eqFields d ⟨us⟩ ⟨vs⟩ fs).run P w = .ok r w := by
      intro fs
      induction fs with
      | nil =>
        intro off ks h r hc
        simp only [flatF, Option.some.injEq] at h
        subst h
        unfold cellsEq at hc
        split at hc <;> first | cases hc | skip
        · rfl
        all_goals (rename_i e _ _; cases e)
      | cons f fs ih =>
        intro off ks h r hc
        simp only [flatF] at h
        split at h
        · cases h
        rename_i hnm
        simp only [Bool.and_eq_true] at hnm
        have hname : f.name ≠ "_" := by simpa using hnm.1
        have hoff := beq_eq hnm.2
        have one : ∀ {a b : Bool} {u v : Value}, us[off]? = some u → vs[off]? = some v → ((∃ k, P.underlying f.type = some (.int k)) ∨ P.underlying f.type = some .string ∨ P.underlying f.type = some .bool) → (Op.equalIn d f.type u v).run P w = .ok a w →
            (Op.eqFields d ⟨us⟩ ⟨vs⟩ fs).run P w = .ok b w → (Op.eqFields d ⟨us⟩ ⟨vs⟩ (f :: fs)).run P w = .ok (a && b) w := by
          intro a b u v h1 h2 h3 h4 h5
          have q1 : (part f.type ⟨us⟩ f.offset).run P w = .ok u w := by
            rw [hoff]
            rcases h3 with ⟨k, h3⟩ | h3 | h3
            · exact part_cell h3 (.inl ⟨k, rfl⟩) h1
            · exact part_cell h3 (.inr (.inl rfl)) h1
            · exact part_cell h3 (.inr (.inr rfl)) h1
          have q2 : (part f.type ⟨vs⟩ f.offset).run P w = .ok v w := by
            rw [hoff]
            rcases h3 with ⟨k, h3⟩ | h3 | h3
            · exact part_cell h3 (.inl ⟨k, rfl⟩) h2
            · exact part_cell h3 (.inr (.inl rfl)) h2
            · exact part_cell h3 (.inr (.inr rfl)) h2
          simp only [Op.eqFields, hname, ne_eq, not_false_eq_true, if_true, Sem.run_bind, q1, q2, h4, Result.andThen_ok]
          cases a
          · simp
          · simpa using h5
        obtain ⟨d', rfl⟩ : ∃ d', d = d' + 1 := ⟨d - 1, by omega⟩
        -- the head cells of a scalar field
        have head : ∀ {ck : CK} {ks' : List CK} {r : Bool}, cellsEq (ck :: ks') (xs.drop off) (ys.drop off) = some r → ∃ x y u v a b, cellsEq [ck] [x] [y] = some a ∧ cellsEq ks' (xs.drop (off + 1)) (ys.drop (off + 1)) = some b ∧ r = (a && b) ∧ us[off]? = some u ∧ vs[off]? = some v ∧ Den η x u ∧ Den η y v := by
          intro ck ks' r hc
          obtain ⟨a, b, h1, h2, h3⟩ := cellsEq_split (k1 := [ck]) (k2 := ks') hc
          simp only [List.length_singleton, List.drop_drop] at h1 h2
          cases hx : xs.drop off with
          | nil => rw [hx] at h1; simp [cellsEq] at h1
          | cons x xr =>
            cases hy : ys.drop off with
            | nil => rw [hx, hy] at h1; cases ck <;> simp [cellsEq] at h1
            | cons y yr =>
              rw [hx, hy] at h1
              simp only [List.take_succ_cons, List.take_zero] at h1
              have hx0 : xs[off]? = some x := by have := congrArg (·[0]?) hx; simpa using this
              have hy0 : ys[off]? = some y := by have := congrArg (·[0]?) hy; simpa using this
              obtain ⟨u, h4, h5⟩ := denL_get hu hx0
              obtain ⟨v, h6, h7⟩ := denL_get hv hy0
              exact ⟨x, y, u, v, a, b, h1, h2, h3, h4, h6, h5, h7⟩
        split at h
        · rename_i k hk
          split at h
          case h_2 => cases h
          rename_i ks' hks
          injection h with h; subst h
          obtain ⟨x, y, u, v, a, b, h1, h2, rfl, h4, h5, h6, h7⟩ := head hc
          refine one h4 h5 (.inl ⟨k, hk⟩) ?_ (ih _ _ hks _ h2)
          obtain ⟨m, p, rfl, rfl, rfl⟩ := cellsEq_int h1
          simp only [Den] at h6 h7
          subst h6 h7
          exact run_equalIn_int w d' f.type _ _ m p hk
        · rename_i hk
          split at h
          case h_2 => cases h
          rename_i ks' hks
          injection h with h; subst h
          obtain ⟨x, y, u, v, a, b, h1, h2, rfl, h4, h5, h6, h7⟩ := head hc
          refine one h4 h5 (.inr (.inl hk)) ?_ (ih _ _ hks _ h2)
          obtain ⟨m, p, rfl, rfl, rfl⟩ := cellsEq_str h1
          simp only [Den] at h6 h7
          subst h6 h7
          rw [run_equalIn_string w d' f.type _ _ hk, toList_mk, toList_mk]
        · rename_i hk
          split at h
          case h_2 => cases h
          rename_i ks' hks
          injection h with h; subst h
          obtain ⟨x, y, u, v, a, b, h1, h2, rfl, h4, h5, h6, h7⟩ := head hc
          refine one h4 h5 (.inr (.inr hk)) ?_ (ih _ _ hks _ h2)
          obtain ⟨m, p, rfl, rfl, rfl⟩ := cellsEq_bool h1
          simp only [Den] at h6 h7
          subst h6 h7
          exact run_equalIn_bool w d' f.type m p hk
        · rename_i ff hk
          split at h
          case h_2 => cases h
          rename_i ks1 i hgo hinfo
          split at h
          case h_2 => cases h
          rename_i ks2 hsz hks
          injection h with h; subst h
          have hsz := beq_eq hsz
          obtain ⟨a, b, h1, h2, rfl⟩ := cellsEq_split hc
          rw [List.drop_drop] at h2
          have h2' : cellsEq ks2 (xs.drop (off + ks1.length)) (ys.drop (off + ks1.length)) = some b := by rw [List.drop_drop] at h2; exact h2
          have ag : (isAgg f.type).run P w = .ok true w := by simp [isAgg, run_und hk]
          have q1 : (part f.type ⟨us⟩ f.offset).run P w = .ok (.agg ⟨(us.drop off).take ks1.length⟩) w := by
            rw [hoff]; simp [part, ag, run_size hinfo, hsz, List.extract_eq_take_drop]
          have q2 : (part f.type ⟨vs⟩ f.offset).run P w = .ok (.agg ⟨(vs.drop off).take ks1.length⟩) w := by
            rw [hoff]; simp [part, ag, run_size hinfo, hsz, List.extract_eq_take_drop]
          have q3 := flat_eq P n f.type ks1 hgo (d' + 1) (by omega) w η _ _ _ _ a h1 (denL_take (denL_drop hu)) (denL_take (denL_drop hv))
          have q4 := ih _ _ hks b h2'
          simp only [Op.eqFields, hname, ne_eq, not_false_eq_true, if_true, Sem.run_bind, q1, q2, q3, Result.andThen_ok]
          cases a
          · simp
          · simpa using q4
        · cases h
    exact key _ _ _ h r (by simpa using hc)
/-- All that is asked, at once; up to type number n. -/
def tie1 (P : Program) (T : Tab) (t : TypeId) : Bool :=
  match okSh T t with
  | false => lenIs (T.zero t) 0 && (match T.flat t with | none => true | some _ => false)
  | true =>
    (match P.underlying t with | some d => shB1 T t (T.sh t) d | none => false) &&
    (match P.info? t with
      | some i => Nat.beq i.size (T.size t) && Nat.beq i.bytes (T.bytes t) &&
        (match T.zero t with
          | [] => true
          | c :: cs => match i.zero with
            | some z => zcs (c :: cs) z.cells.toList && lenIs (c :: cs) (T.size t) && (match ofCells T t (c :: cs) with | some _ => true | none => false) &&
              (match isAggB (T.sh t), z with | true, .agg _ => true | false, .agg _ => false | false, .tuple _ => false | true, _ => false | false, _ => true)
            | none => false)
      | none => false) &&
    (match T.flat t with | none => true | some _ => match P.eqGuardType P.depth t with | true => false | false => true)
def ckEq : CK → CK → Bool
  | .int k, .int k' => kindEq k k'
  | .str, .str => true
  | .bool, .bool => true
  | _, _ => false
def cksEq : List CK → List CK → Bool
  | [], [] => true
  | a :: as, b :: bs => ckEq a b && cksEq as bs
  | _, _ => false
theorem cksEq_iff : ∀ {a b : List CK}, cksEq a b = true → a = b
  | [], [], _ => rfl
  | [], b :: bs, h => by simp [cksEq] at h
  | a :: as, [], h => by simp [cksEq] at h
  | a :: as, b :: bs, h => by
    simp only [cksEq, Bool.and_eq_true] at h
    rw [cksEq_iff h.2]
    have : a = b := by
      have h1 := h.1
      cases a <;> cases b <;> simp [ckEq] at h1 <;> first | rfl | (rw [kindEq_iff.1 h1])
    rw [this]
def flatB (P : Program) (T : Tab) (t : TypeId) : Bool :=
  match T.flat t with
  | none => true
  | some ks => match flatN P 8 t with
    | some ks' => cksEq ks ks'
    | none => false
def tieAll (P : Program) (T : Tab) : Nat → Bool
  | 0 => true
  | n + 1 => tie1 P T n && flatB P T n && tieAll P T n
theorem tieAll_at {P : Program} {T : Tab} : ∀ {n t : Nat}, tieAll P T n = true → t < n → tie1 P T t = true ∧ flatB P T t = true
  | 0, t, _, h => by omega
  | n + 1, t, h, ht => by
    simp only [tieAll, Bool.and_eq_true] at h
    by_cases e : t = n
    · subst e; exact ⟨h.1.1, h.1.2⟩
    · exact tieAll_at h.2 (by omega)
theorem tabOK_of {P : Program} {T : Tab} (n : Nat) (h : tieAll P T n = true) (hout : ∀ t, n ≤ t → T.sh t = .other ∧ T.zero t = [] ∧ T.flat t = none) : TabOK P T := by
  have at1 : ∀ t, T.sh t ≠ .other → tie1 P T t = true ∧ flatB P T t = true := fun t ht => tieAll_at h (by
    rcases Nat.lt_or_ge t n with hl | hg
    · exact hl
    · exact absurd (hout t hg).1 ht)
  have okt : ∀ {t}, T.sh t ≠ .other → okSh T t = true := by
    intro t ht
    unfold okSh
    split
    · rename_i e; exact absurd e ht
    · rfl
  have split1 : ∀ t, T.sh t ≠ .other → (∃ d, P.underlying t = some d ∧ shB1 T t (T.sh t) d = true) ∧ (∃ i, P.info? t = some i ∧ i.size = T.size t ∧ i.bytes = T.bytes t ∧ ∀ c cs, T.zero t = c :: cs → ∃ z, i.zero = some z ∧ zcs (c :: cs) z.cells.toList = true ∧ (c :: cs).length = T.size t ∧ (ofCells T t (c :: cs)).isSome ∧
      (isAggB (T.sh t) = true → z = .agg z.cells) ∧ (isAggB (T.sh t) = false → z.oneCell' = true)) ∧ (T.flat t ≠ none → P.eqGuardType P.depth t = false) := by
    intro t ht
    obtain ⟨h1, _⟩ := at1 t ht
    unfold tie1 at h1
    rw [okt ht] at h1
    simp only [Bool.and_eq_true] at h1
    obtain ⟨⟨h1, h2⟩, h3⟩ := h1
    refine ⟨?_, ?_, ?_⟩
    · split at h1
      · rename_i d hd; exact ⟨d, hd, h1⟩
      · cases h1
    · split at h2
      case h_2 => cases h2
      rename_i i hi
      simp only [Bool.and_eq_true] at h2
      obtain ⟨⟨h4, h5⟩, h6⟩ := h2
      refine ⟨i, hi, beq_eq h4, beq_eq h5, fun c cs hz => ?_⟩
      rw [hz] at h6
      simp only at h6
      split at h6
      case h_2 => cases h6
      rename_i z hzz
      simp only [Bool.and_eq_true] at h6
      obtain ⟨⟨⟨h7, h8⟩, h9⟩, h10⟩ := h6
      refine ⟨z, hzz, h7, lenIs_iff.1 h8, ?_, ?_, ?_⟩
      · split at h9
        · rename_i e; rw [e]; rfl
        · cases h9
      · intro ha; rw [ha] at h10
        cases z <;> first | rfl | (simp at h10)
      · intro ha; rw [ha] at h10
        cases z <;> first | rfl | (simp at h10)
    · intro hf
      split at h3
      · rename_i e; exact absurd e hf
      · split at h3
        · cases h3
        · rename_i e; exact e
  have zsh : ∀ t, T.zero t ≠ [] → T.sh t ≠ .other := by
    intro t hz e
    rcases Nat.lt_or_ge t n with hl | hg
    · obtain ⟨h1, _⟩ := tieAll_at h hl
      unfold tie1 at h1
      have : okSh T t = false := by simp [okSh, e]
      rw [this] at h1
      simp only [Bool.and_eq_true] at h1
      exact hz (List.length_eq_zero_iff.1 (lenIs_iff.1 h1.1))
    · exact hz (hout t hg).2.1
  have fsh : ∀ t ks, T.flat t = some ks → T.sh t ≠ .other := by
    intro t ks hf e
    rcases Nat.lt_or_ge t n with hl | hg
    · obtain ⟨h1, _⟩ := tieAll_at h hl
      unfold tie1 at h1
      have : okSh T t = false := by simp [okSh, e]
      rw [this, hf] at h1
      simp at h1
    · rw [(hout t hg).2.2] at hf; cases hf
  have aggiff : ∀ t, ((∃ fs, T.sh t = .struct fs) ∨ (∃ n e, T.sh t = .array n e)) ↔ isAggB (T.sh t) = true := by
    intro t
    cases T.sh t <;> simp [isAggB]
  refine ⟨?_, ?_, ?_, zsh, ?_⟩
  · intro t ht
    obtain ⟨d, h1, h2⟩ := (split1 t ht).1
    exact ⟨d, h1, shM_of h2⟩
  · intro t ht
    obtain ⟨i, h1, h2, h3, _⟩ := (split1 t ht).2.1
    exact ⟨i, h1, h2, h3⟩
  · intro t ht hz
    obtain ⟨i, h1, h2, h3, h4⟩ := (split1 t ht).2.1
    cases hzz : T.zero t with
    | nil => exact absurd hzz hz
    | cons c cs =>
      obtain ⟨z, h5, h6, h7, h8, h9, h10⟩ := h4 c cs hzz
      obtain ⟨h11, h12⟩ := zcs_den h6
      exact ⟨i, z, h1, h5, h11, h12, h7, h8, fun ha => h9 ((aggiff t).1 ha), fun ha => h10 (by
        cases hb : isAggB (T.sh t)
        · rfl
        · exact absurd ((aggiff t).2 hb) ha)⟩
  · intro t ks hf
    have hs := fsh t ks hf
    refine ⟨(split1 t hs).2.2 (by rw [hf]; simp), ?_⟩
    have hfb := (at1 t hs).2
    unfold flatB at hfb
    rw [hf] at hfb
    simp only at hfb
    split at hfb
    case h_2 => cases hfb
    rename_i ks' hk
    rw [cksEq_iff hfb]
    exact flat_eq P 8 t ks' hk 10000 (by omega)
end Go.Sx
/- Regions whose order is drawn: one order serves every order, where quiet operations are taken as soon as they may be and nothing that writes comes before a reading. Conditions: none. -/
set_option linter.unusedVariables false
namespace Go.Sx
open Go
section
variable {P : Program} {ops : Array Oper} {Q : Exit → Act → World → Prop} {md : Region.Mode}
/-- Whatever order is picked from here on; and S holds behind every operation, of what has come up and of the world. -/
def wpH (P : Program) (md : Region.Mode) (ops : Array Oper) (Q : Exit → Act → World → Prop) (S : Array Bool → World → Prop) : Nat → Array Bool → Act → World → Prop
  | 0, l, a, w => Region.ready md ops l = [] ∧ Q .normal a w
  | n + 1, l, a, w => (Region.ready md ops l = [] → Q .normal a w) ∧
    ∀ i ∈ Region.ready md ops l, wpOp P ops Q i (fun a' w' => S (l.setIfInBounds i true) w' ∧ wpH P md ops Q S n (l.setIfInBounds i true) a' w') a w
theorem wpAny_of_wpH {S : Array Bool → World → Prop} : ∀ (n : Nat) (l : Array Bool) (a : Act) (w : World), wpH P md ops Q S n l a w → wpAny P md ops Q n l a w
  | 0, _, _, _, h => h
  | n + 1, _, _, _, h => ⟨h.1, fun i hi => wpOp_mono (fun a' w' h' => wpAny_of_wpH n _ a' w' h'.2) (h.2 i hi)⟩
/-- What has come up stays. -/
def Grows (l l' : Array Bool) : Prop := ∀ i, l.getD i false = true → l'.getD i false = true
theorem Grows.set {l l' : Array Bool} (h : Grows l l') (i : Nat) : Grows l (l'.setIfInBounds i true) := fun j hj => getD_set_true (h j hj)
theorem wpH_mono {S S' : Array Bool → World → Prop} {l0 : Array Bool} (hS : ∀ l w, Grows l0 l → S' l w → S l w) : ∀ (n : Nat) (l : Array Bool) (a : Act) (w : World), Grows l0 l → wpH P md ops Q S' n l a w → wpH P md ops Q S n l a w
  | 0, _, _, _, _, h => h
  | n + 1, l, a, w, hg, h => ⟨h.1, fun i hi => wpOp_mono (fun a' w' h' => ⟨hS _ _ (hg.set i) h'.1, wpH_mono hS n _ a' w' (hg.set i) h'.2⟩) (h.2 i hi)⟩
/-- What has come up has come up behind all that it waits for. -/
def Closed (md : Region.Mode) (ops : Array Oper) (l : Array Bool) : Prop :=
  l.size = ops.size ∧ ∀ j o, ops[j]? = some o → l.getD j false = true → ∀ e ∈ o.after, Region.binds md e = true → l.getD e.on false = true
theorem Closed.set {l : Array Bool} {i : Nat} (h : Closed md ops l) (hi : i ∈ Region.ready md ops l) : Closed md ops (l.setIfInBounds i true) := by
  obtain ⟨_, o, ho, hall⟩ := mem_ready.1 hi
  refine ⟨by simp [h.1], fun j o' hj hl e he hb => ?_⟩
  by_cases hij : i = j
  · subst hij
    rw [ho] at hj; injection hj with hj; subst hj
    exact getD_set_true (hall e he hb)
  · rw [getD_set_ne false hij] at hl
    exact getD_set_true (h.2 j o' hj hl e he hb)
/-- In this state, in every world that N holds of, the operation leaves this value and does nothing else. -/
def YieldsN (P : Program) (ops : Array Oper) (N : World → Prop) (o : Oper) (v : Value) (a : Act) : Prop :=
  (Region.wanted o (yielded ops a.tmps) = true ∧ ∀ w, N w → (execOp a.eval o).run P w = .ok (.value v) w ∨ ((execOp a.eval o).run P w = .ok .skip w ∧ v = undef)) ∨
  (Region.wanted o (yielded ops a.tmps) = false ∧ v = undef)
theorem YieldsN.wpOp {N : World → Prop} {i : Nat} {o : Oper} {v : Value} {a : Act} (hi : ops[i]? = some o) (hy : YieldsN P ops N o v a) {K : Act → World → Prop} {w : World} (hN : N w) (h : K (a.put o.dst v) w) : wpOp P ops Q i K a w := by
  unfold Go.wpOp
  simp only [hi]
  rcases hy with ⟨hw, hv⟩ | ⟨hw, rfl⟩
  · rw [if_pos hw]
    refine .inl ?_
    unfold Oper.wp
    rcases hv w hN with e | ⟨e, rfl⟩ <;> rw [e] <;> exact h
  · rw [if_neg (by rw [hw]; simp)]
    exact h
/-- Another operation, apart from it: neither minds whether the other has come up. -/
theorem wpOp_apart {N : World → Prop} {j : Nat} {oi oj : Oper} {v : Value} (hj : ops[j]? = some oj) (hap : oi.apart ops oj = true)
    (hs : ∀ (j : Nat) (o : Oper) cs b, ops[j]? = some o → o.op ≠ .select cs b) {i : Nat} (hi : ops[i]? = some oi)
    (hQ : ∀ c a w, Q (.panic c) (a.put oi.dst v) w → Q (.panic c) a w) {K : Act → World → Prop} {a : Act} {w : World}
    (hy : YieldsN P ops N oi v a) (h : wpOp P ops Q j K (a.put oi.dst v) w) :
    wpOp P ops Q j (fun a' w' => YieldsN P ops N oi v a' ∧ K (a'.put oi.dst v) w') a w := by
  obtain ⟨h1, h2, h3⟩ := Oper.apart_spec hap
  have same : ∀ (a : Act), YieldsN P ops N oi v a → ∀ u, YieldsN P ops N oi v (a.put oj.dst u) := by
    intro a hy u
    unfold YieldsN at *
    rw [execOp_put oi (fun cs b => hs i oi cs b hi) a oj.dst u h3, wanted_put oi a oj.dst u h3]
    exact hy
  have sameD : ∀ d, YieldsN P ops N oi v { a with defers := d :: a.defers } := fun d => hy
  have run := execOp_put oj (fun cs b => hs j oj cs b hj) a oi.dst v h1
  have want := wanted_put oj a oi.dst v h1
  unfold Go.wpOp at h ⊢
  simp only [hj] at h ⊢
  rw [want] at h
  by_cases hw : Region.wanted oj (yielded ops a.tmps) = true
  · rw [if_pos hw] at h ⊢
    rcases h with h | h
    · refine .inl ?_
      unfold Oper.wp at h ⊢
      rw [run] at h
      revert h
      generalize (execOp a.eval oj).run P w = r
      intro h
      rcases r with ⟨n, w'⟩ | ⟨x, w'⟩
      · cases n with
        | value u => exact ⟨same a hy u, by rw [← Act.put_comm a v u h2]; exact h⟩
        | skip => exact ⟨same a hy undef, by rw [← Act.put_comm a v undef h2]; exact h⟩
        | defer d =>
          refine ⟨same _ (sameD d) undef, ?_⟩
          rw [← Act.put_comm _ v undef h2, ← Act.put_defers]
          exact h
        | enter f args =>
          simp only [Oper.upon] at h ⊢
          refine Calls.mono h fun e w'' he => ?_
          cases e with
          | returned u => exact ⟨same a hy u, by rw [← Act.put_comm a v u h2]; exact he⟩
          | panicked c => exact hQ _ _ _ he
          | outgrown => exact he
        | row row args =>
          simp only [Oper.upon] at h ⊢
          exact Rows.mono h fun u w'' he => ⟨same a hy u, by rw [← Act.put_comm a v u h2]; exact he⟩
        | _ => exact h
      · cases x with
        | panic u => exact hQ _ _ _ h
        | _ => exact h
    · obtain ⟨h, hlet⟩ := h
      refine .inr ⟨?_, hlet⟩
      unfold Oper.asks at h ⊢
      rw [run] at h
      exact h
  · rw [if_neg hw] at h ⊢
    exact ⟨same a hy undef, by rw [← Act.put_comm a v undef h2]; exact h⟩
/-- A quiet operation that may come up may be taken first. -/
theorem wpH_first {S : Array Bool → World → Prop} {N : World → Prop} {i : Nat} {oi : Oper} {v : Value} (hi : ops[i]? = some oi)
    (hs : ∀ (j : Nat) (o : Oper) cs b, ops[j]? = some o → o.op ≠ .select cs b) (hQ : ∀ c a w, Q (.panic c) (a.put oi.dst v) w → Q (.panic c) a w)
    (hN : ∀ l w, Closed md ops l → l.getD i true = false → S l w → N w)
    (hSi : ∀ l w, Closed md ops l → l.getD i true = false → i ∈ Region.ready md ops l → S (l.setIfInBounds i true) w → S l w) :
    ∀ (n : Nat) (l : Array Bool) (a : Act) (w : World), Closed md ops l →
      (∀ j oj, ops[j]? = some oj → j ≠ i → l.getD j true = false → (∀ e ∈ oj.after, Region.binds md e = true → e.on ≠ i) → oi.apart ops oj = true) →
      i ∈ Region.ready md ops l → YieldsN P ops N oi v a → S l w → S (l.setIfInBounds i true) w →
      wpH P md ops Q S n (l.setIfInBounds i true) (a.put oi.dst v) w → wpH P md ops Q S (n + 1) l a w := by
  intro n
  induction n with
  | zero =>
    intro l a w hc _ hr hy hS hS' H
    have hun := (mem_ready.1 hr).1
    refine ⟨fun h => (by rw [h] at hr; cases hr), fun j hj => ?_⟩
    by_cases hji : j = i
    · subst hji; exact hy.wpOp hi (hN l w hc hun hS) ⟨hS', H⟩
    · have := ready_mono hj hji
      rw [H.1] at this; cases this
  | succ n ih =>
    intro l a w hc hfree hr hy hS hS' H
    have hun := (mem_ready.1 hr).1
    refine ⟨fun h => (by rw [h] at hr; cases hr), fun j hj => ?_⟩
    by_cases hji : j = i
    · subst hji; exact hy.wpOp hi (hN l w hc hun hS) ⟨hS', H⟩
    · have h1 := H.2 j (ready_mono hj hji)
      obtain ⟨hjun, oj, hoj, hall⟩ := mem_ready.1 hj
      have hnot : ∀ e ∈ oj.after, Region.binds md e = true → e.on ≠ i := by
        intro e he hb heq
        have h1 := hall e he hb
        rw [heq] at h1
        rcases Nat.lt_or_ge i l.size with h' | h'
        · simp [h'] at hun h1; rw [hun] at h1; cases h1
        · simp [Array.getElem?_eq_none h'] at hun
      have h2 := wpOp_apart (N := N) hoj (hfree j oj hoj hji hjun hnot) hs hi hQ hy h1
      have hc' := hc.set hj
      have hr' := ready_mono hr (Ne.symm hji)
      have hun' := (mem_ready.1 hr').1
      refine wpOp_mono (fun a' w' h3 => ?_) h2
      obtain ⟨hy', hS3, H3⟩ := h3
      rw [Array.setIfInBounds_comm _ _ (Ne.symm hji)] at hS3 H3
      have hSj := hSi _ _ hc' hun' hr' hS3
      refine ⟨hSj, ih _ a' w' hc' (fun k ok hk hki hku hno => ?_) hr' hy' hSj hS3 H3⟩
      refine hfree k ok hk hki ?_ hno
      by_cases hjk : j = k
      · subst hjk; exact hjun
      · rw [getD_set_ne true hjk] at hku; exact hku
/-- Where but one may come up. -/
theorem wpH_one {S : Array Bool → World → Prop} {i n : Nat} {l : Array Bool} {a : Act} {w : World} (hr : Region.ready md ops l = [i])
    (h : wpOp P ops Q i (fun a' w' => S (l.setIfInBounds i true) w' ∧ wpH P md ops Q S n (l.setIfInBounds i true) a' w') a w) : wpH P md ops Q S (n + 1) l a w :=
  ⟨fun h0 => (by rw [hr] at h0; cases h0), fun j hj => by rw [hr] at hj; rw [List.mem_singleton.1 hj]; exact h⟩
end
end Go.Sx
/- Regions whose order is drawn, walked in one order by the engine. Conditions: none. -/
set_option linter.unusedVariables false
set_option linter.unusedSimpArgs false
namespace Go.Sx
open Go

/-! ### Values that a reading settles -/
def Det (v : SV) : Prop := ∀ η u u', Den η v u → Den η v u' → u = u'
def DetL (vs : List SV) : Prop := ∀ η us us', DenL η vs us → DenL η vs us' → us = us'
mutual
def detV : SV → Bool
  | .bool _ | .int _ _ | .str _ | .ptr _ _ _ _ | .val _ => true
  | .sl _ r _ _ _ => Nat.beq r 0
  | .agg cs => detVL cs
  | .tup vs => detVL vs
  | .ifc _ v => detV v
  | .fn _ a b => detVL a && detVL b
  | .arr _ _ => false
  | .any => false
def detVL : List SV → Bool
  | [] => true
  | c :: cs => detV c && detVL cs
end
mutual
theorem Det.of : ∀ {v : SV}, detV v = true → Det v
  | .bool _, _ => fun η u u' h h' => by simp only [Den] at h h'; rw [h, h']
  | .int _ _, _ => fun η u u' h h' => by simp only [Den] at h h'; rw [h, h']
  | .str _, _ => fun η u u' h h' => by simp only [Den] at h h'; rw [h, h']
  | .val _, _ => fun η u u' h h' => by simp only [Den] at h h'; rw [h.1, h'.1]
  | .ptr b r es c, _ => fun η u u' h h' => by
    simp only [Den] at h h'
    obtain ⟨e, h1, rfl⟩ := h
    obtain ⟨e', h2, rfl⟩ := h'
    rw [h1] at h2; injection h2 with h2; injection h2 with h2; rw [h2]
  | .sl b r es len lim, hd => fun η u u' h h' => by
    simp only [detV] at hd
    have hd := beq_eq hd
    simp only [Den] at h h'
    rcases h with ⟨h1, rfl, _⟩ | ⟨e, o, h1, rfl, _, _, h2⟩
    · rcases h' with ⟨h1', rfl, _⟩ | ⟨e', o', h1', rfl, _, _, h2'⟩
      · rfl
      · rw [h1] at h1'; cases h1'
    · rcases h' with ⟨h1', rfl, _⟩ | ⟨e', o', h1', rfl, _, _, h2'⟩
      · rw [h1] at h1'; cases h1'
      · rw [h1] at h1'; injection h1' with h1'; injection h1' with h1'; subst h1'
        rw [h2 (.inr hd), h2' (.inr hd)]
  | .agg cs, hd => fun η u u' h h' => by
    simp only [detV] at hd
    simp only [Den] at h h'
    obtain ⟨us, rfl, h1, _⟩ := h
    obtain ⟨us', rfl, h2, _⟩ := h'
    rw [DetL.of hd η us us' h1 h2]
  | .tup cs, hd => fun η u u' h h' => by
    simp only [detV] at hd
    simp only [Den] at h h'
    obtain ⟨us, rfl, h1⟩ := h
    obtain ⟨us', rfl, h2⟩ := h'
    rw [DetL.of hd η us us' h1 h2]
  | .ifc t v, hd => fun η u u' h h' => by
    simp only [detV] at hd
    simp only [Den] at h h'
    obtain ⟨us, rfl, h1⟩ := h
    obtain ⟨us', rfl, h2⟩ := h'
    rw [Det.of hd η us us' h1 h2]
  | .fn f a b, hd => fun η u u' h h' => by
    simp only [detV, Bool.and_eq_true] at hd
    simp only [Den] at h h'
    obtain ⟨us, vs, rfl, h1, h3⟩ := h
    obtain ⟨us', vs', rfl, h2, h4⟩ := h'
    rw [DetL.of hd.1 η us us' h1 h2, DetL.of hd.2 η vs vs' h3 h4]
  | .arr _ _, hd => by simp [detV] at hd
  | .any, hd => by simp [detV] at hd
theorem DetL.of : ∀ {vs : List SV}, detVL vs = true → DetL vs
  | [], _ => fun η us us' h h' => by simp only [DenL] at h h'; rw [h, h']
  | c :: cs, hd => fun η us us' h h' => by
    simp only [detVL, Bool.and_eq_true] at hd
    simp only [DenL] at h h'
    obtain ⟨u, r, rfl, h1, h2⟩ := h
    obtain ⟨u', r', rfl, h1', h2'⟩ := h'
    rw [Det.of hd.1 η u u' h1 h1', DetL.of hd.2 η r r' h2 h2']
end

/-! ### The walk -/
def sharedOf : Hps → List (Blk × Hp)
  | [] => []
  | (i, h) :: r => (.loc i, h) :: sharedOf r
/-- All that is known, only to be looked at. -/
def cxRead (C : Cx) (O : Hps) : Cx := ⟨C.T, C.N, sharedOf O ++ C.S⟩
def cxBlind (C : Cx) : Cx := ⟨{ C.T with globs := [], gplain := rfl }, C.N, []⟩
def shMx (M : Mx) (O : Hps) (η : Env) (w : World) : Mx := ⟨M.P, cxRead M.C O, w, fun _ => False, η⟩
def blMx (M : Mx) (η : Env) (w : World) : Mx := ⟨M.P, cxBlind M.C, w, fun _ => False, η⟩
def settled : SV → Prop → Prop
  | .bool _, K | .int _ _, K | .str _, K | .ptr _ _ _ _, K | .val _, K => K
  | .agg cs, K => match detVL cs with | true => K | false => NEED (Det (.agg cs)) K
  | .tup cs, K => match detVL cs with | true => K | false => NEED (Det (.tup cs)) K
  | v, K => NEED (Det v) K
def stepQ (N : Nat) (C : Cx) (o : Oper) (fr : Fr) (nx : Nat) (K : SV → Prop) : Prop :=
  match dstOk N o.dst with
  | false => STOP "slot"
  | true => match o.op with
    | .move x => match lookF fr x with | some v => K v | none => STOP "operand"
    | .assign x => match lookF fr x with | some v => K v | none => STOP "operand"
    | op => match stores op with
      | true => STOP "writes"
      | false => (opR C (lookF fr) [] nx op).gv fun v => settled v (K v)
/-- An operation that adds to what is known and changes nothing of it. -/
structure ADD (M : Mx) (o : Oper) (fr : Fr) (O : Hps) (nx : Nat) (K : SV → Hps → Nat → Prop) : Prop where
  out : ∀ η w, stepO (shMx M O η w) o (lookF fr) [] nx fun v O2 nx => K v (O2 ++ O) nx
def carry (M : Mx) (m : Nat) (o : Oper) (fr : Fr) (O : Hps) (nx : Nat) (K : SV → Hps → Nat → Prop) : Prop :=
  match m with
  | 0 => stepO M o (lookF fr) O nx K
  | 1 => stepQ M.C.N (cxBlind M.C) o fr nx fun v => K v O nx
  | 2 => stepQ M.C.N (cxRead M.C O) o fr nx fun v => K v O nx
  | _ => ADD M o fr O nx K
/-- Operations in a given order, each with its mode: 0 as ever, 1 from its operands alone, 2 reading, 3 adding; where two may come up and neither is quiet, both ways. -/
inductive Plan where
  | nil
  | take (i m : Nat) (t : Plan)
  | fork (i mi j mj : Nat) (a b : Plan)
  | fork3 (i mi j mj k mk : Nat) (a b c : Plan)
def planOf : List (Nat × Nat) → Plan
  | [] => .nil
  | (i, m) :: r => .take i m (planOf r)
def Plan.depth : Plan → Nat
  | .nil => 0
  | .take _ _ t => t.depth + 1
  | .fork _ _ _ _ a _ => a.depth + 1
  | .fork3 _ _ _ _ _ _ a _ _ => a.depth + 1
structure FORK (A B : Prop) : Prop where
  a : A
  b : B
/-- One operation of such a region, if it is wanted. -/
def oneD (M : Mx) (ops : List Oper) (i m : Nat) (fr : Fr) (O : Hps) (nx : Nat) (K : Fr → Hps → Nat → Prop) : Prop :=
  match nth ops i with
  | none => STOP "order"
  | some o => match o.guard with
    | none => carry M m o fr O nx fun v O nx => putK o.dst v fr fun fr => K fr O nx
    | some (j, want) =>
      match slotOf ops j with
      | none => STOP "guard"
      | some s => match lkp s fr with
        | some (.bool b) => IF b
          (fun J => match want with
           | true => carry M m o ((s, .bool true) :: fr) O nx fun v O nx => putK o.dst v ((s, .bool true) :: fr) fun fr => J fr O nx
           | false => match dstOk M.C.N o.dst with | true => putK o.dst undefS ((s, .bool true) :: fr) fun fr => J fr O nx | false => STOP "slot")
          (fun J => match want with
           | false => carry M m o ((s, .bool false) :: fr) O nx fun v O nx => putK o.dst v ((s, .bool false) :: fr) fun fr => J fr O nx
           | true => match dstOk M.C.N o.dst with | true => putK o.dst undefS ((s, .bool false) :: fr) fun fr => J fr O nx | false => STOP "slot")
          K
        | some (.tup []) => match dstOk M.C.N o.dst with | true => putK o.dst undefS fr fun fr => K fr O nx | false => STOP "slot"
        | _ => STOP "guard"
def runD (M : Mx) (ops : List Oper) : Plan → Fr → Hps → Nat → (Fr → Hps → Nat → Prop) → Prop
  | .nil, fr, O, nx, K => K fr O nx
  | .take i m rest, fr, O, nx, K => oneD M ops i m fr O nx fun fr O nx => runD M ops rest fr O nx K
  | .fork i mi j mj a b, fr, O, nx, K => FORK (oneD M ops i mi fr O nx fun fr O nx => runD M ops a fr O nx K) (oneD M ops j mj fr O nx fun fr O nx => runD M ops b fr O nx K)
  | .fork3 i mi j mj k mk a b c, fr, O, nx, K => FORK (oneD M ops i mi fr O nx fun fr O nx => runD M ops a fr O nx K) (FORK (oneD M ops j mj fr O nx fun fr O nx => runD M ops b fr O nx K) (oneD M ops k mk fr O nx fun fr O nx => runD M ops c fr O nx K))

/-! ### The order -/
def afterMask (acc : List Nat) (o : Oper) : Nat := o.after.foldl (fun s e => if Region.binds .any e then s ||| 2 ^ e.on ||| acc.getD e.on 0 else s) 0
def masks : List Oper → List Nat → List Nat
  | [], acc => acc
  | o :: r, acc => masks r (acc ++ [afterMask acc o])
def killIf (i : Nat) : Nat → List Nat → List Nat
  | 0, l => i :: l
  | _, l => l
def modeOK (m : Nat) : Bool := m == 0 || m == 3
def killsOf : Plan → List Nat
  | .nil => []
  | .take i 0 t => i :: killsOf t
  | .take _ _ t => killsOf t
  | .fork i mi j mj a b => killIf i mi (killIf j mj (killsOf a ++ killsOf b))
  | .fork3 i mi j mj k mk a b c => killIf i mi (killIf j mj (killIf k mk (killsOf a ++ (killsOf b ++ killsOf c))))
def stepsOK (ops : Array Oper) (ms : List Nat) : Plan → Array Bool → Bool
  | .nil, l => (Region.ready .any ops l).isEmpty
  | .take i m rest, l =>
    (match m with
     | 0 => Region.ready .any ops l == [i]
     | 1 => (Region.ready .any ops l).contains i && Region.free .any ops l i && (killsOf rest).all (fun k => k != i)
     | 2 => (Region.ready .any ops l).contains i && Region.free .any ops l i && (killsOf rest).all (fun k => k != i && (ms.getD k 0).testBit i)
     | _ => Region.ready .any ops l == [i]) &&
    stepsOK ops ms rest (l.setIfInBounds i true)
  | .fork i mi j mj a b, l => Region.ready .any ops l == [i, j] && modeOK mi && modeOK mj && a.depth == b.depth && stepsOK ops ms a (l.setIfInBounds i true) && stepsOK ops ms b (l.setIfInBounds j true)
  | .fork3 i mi j mj k mk a b c, l => Region.ready .any ops l == [i, j, k] && modeOK mi && modeOK mj && modeOK mk && a.depth == b.depth && a.depth == c.depth && stepsOK ops ms a (l.setIfInBounds i true) && stepsOK ops ms b (l.setIfInBounds j true) && stepsOK ops ms c (l.setIfInBounds k true)
def orderOK (ops : Array Oper) (steps : Plan) : Bool :=
  Region.noSelect ops && steps.depth == ops.size && stepsOK ops (masks ops.toList []) steps (Array.replicate ops.size false)
end Go.Sx
