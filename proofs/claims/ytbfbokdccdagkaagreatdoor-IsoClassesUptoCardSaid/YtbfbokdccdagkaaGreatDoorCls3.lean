/- Part 3: SxSpec, SxCall, SxUse, SxBack, SxAuto, Utf, TmM, SxAuto2, Utf2, Rune, IriM, NamesM, PartM. Conditions: as each part says. -/
import Derived.IntWalk
import Derived.Lib.Bytealg
import Derived.Test.YtbfbokdccdagkaaGreatDoorCls2
set_option linter.unusedVariables false
set_option linter.unusedSimpArgs false
namespace Go.Sx
open Go
def renB (σ : Nat → Nat) : Blk → Blk
 | .glob g => .glob g
 | .loc i => .loc (σ i)
mutual
def ren (σ : Nat → Nat) : SV → SV
 | .bool b => .bool b
 | .int k n => .int k n
 | .str s => .str s
 | .ptr b r es c => .ptr (renB σ b) r es c
 | .sl b r es len lim => .sl (renB σ b) r es len lim
 | .val v => .val v
 | .agg cs => .agg (renL σ cs)
 | .arr es rs => .arr es (YU σ rs)
 | .tup vs => .tup (renL σ vs)
 | .ifc t v => .ifc t (ren σ v)
 | .fn f a b => .fn f (renL σ a) (renL σ b)
 | .mp b => .mp (renB σ b)
 | .any => .any
 | .nb n => .nb n
 | .yf b => .yf (renB σ b)
 | .dfs l => .dfs (renL σ l)
def renL (σ : Nat → Nat) : List SV → List SV
 | [] => []
 | c :: cs => ren σ c :: renL σ cs
def YU (σ : Nat → Nat) : List (List SV) → List (List SV)
 | [] => []
 | r :: rs => renL σ r :: YU σ rs
end
def renF (σ : Nat → Nat) : Fr → Fr
 | [] => []
 | (t, v) :: r => (t, ren σ v) :: renF σ r
def renC (σ : Nat → Nat) : DC → DC
 | .v s => .v (ren σ s)
 | .kid es rows => .kid es (YU σ rows)
def Uc (σ : Nat → Nat) : List DC → List DC
 | [] => []
 | c :: cs => renC σ c :: Uc σ cs
def YP (σ : Nat → Nat) : List (List DC) → List (List DC)
 | [] => []
 | r :: rs => Uc σ r :: YP σ rs
theorem Z0p (σ : Nat → Nat) : ∀ r : List DC, Uc σ r = r.map (renC σ)
 | [] => rfl
 | c :: cs => by simp only [Uc, List.map_cons, Z0p σ cs]
theorem UF (σ : Nat → Nat) : ∀ rs : List (List DC), YP σ rs = rs.map (Uc σ)
 | [] => rfl
 | c :: cs => by simp only [YP, List.map_cons, UF σ cs]
theorem Z52 (σ : Nat → Nat) : ∀ r : List SV, renL σ r = r.map (ren σ)
 | [] => rfl
 | c :: cs => by simp only [renL, List.map_cons, Z52 σ cs]
theorem Z3b (σ : Nat → Nat) : ∀ rs : List (List SV), YU σ rs = rs.map (renL σ)
 | [] => rfl
 | c :: cs => by simp only [YU, List.map_cons, Z3b σ cs]
theorem Z73 (σ : Nat → Nat) (c : DC) : ZY (renC σ c) = ren σ (ZY c) := by cases c <;> rfl
theorem Jl (σ : Nat → Nat) (rs : List (List DC)) : Zo (YP σ rs) = YU σ (Zo rs) := by
 rw [UF, Z3b]
 unfold Zo
 rw [List.map_map, List.map_map]
 refine List.map_congr_left fun r _ => ?_
 simp only [Function.comp, Z0p, Z52, List.map_map]
 exact List.map_congr_left fun c _ => Z73 σ c
theorem XK (σ : Nat → Nat) (rs : List (List DC)) (i j : Nat) : Yk (YP σ rs) i j = (Yk rs i j).map fun x => (x.1, YU σ x.2) := by
 unfold Yk
 rw [UF, List.getElem?_map]
 cases rs[i]? with
 | none => rfl
 | some row =>
   simp only [Option.map_some, Z0p, List.getElem?_map]
   cases row[j]? with
   | none => rfl
   | some c => cases c <;> rfl
def renH (σ : Nat → Nat) : Hp → Hp
 | .box row => .box (renL σ row)
 | .rows es rs => .rows es (YU σ rs)
 | .siter s p => .siter s p
 | .tbl vs => .tbl vs
 | .bld T e l => .bld T e l
 | .dfr f => .dfr f
 | .lp st li fr => .lp st li (renF σ fr)
 | .mp rs => .mp (YU σ rs)
 | .deep mp es rs => .deep mp es (YP σ rs)
theorem ZZ {α : Type} (f : α → List SV) (h : ∀ x, YG (f x) = true) : ∀ xs : List α, Zr (xs.map f) = true
 | [] => rfl
 | x :: xs => by simp only [List.map_cons, Zr, h x, ZZ f h xs, Bool.and_self]
mutual
theorem Jm (σ : Nat → Nat) : ∀ {v : SV}, plain v = true → ren σ v = v
 | .bool _, _ => rfl
 | .int _ _, _ => rfl
 | .str _, _ => rfl
 | .val _, _ => rfl
 | .any, _ => rfl
 | .nb _, _ => rfl
 | .ptr (.glob _) _ _ _, _ => rfl
 | .ptr (.loc _) _ _ _, h => by simp [plain] at h
 | .sl (.glob _) _ _ _ _, _ => rfl
 | .sl (.loc _) _ _ _ _, h => by simp [plain] at h
 | .agg cs, h => by simp only [plain] at h; simp only [ren, Yb σ h]
 | .arr _ rs, h => by simp only [plain] at h; simp only [ren, Z9 σ h]
 | .tup vs, h => by simp only [plain] at h; simp only [ren, Yb σ h]
 | .ifc _ v, h => by simp only [plain] at h; simp only [ren, Jm σ h]
 | .fn _ a b, h => by simp only [plain, Bool.and_eq_true] at h; simp only [ren, Yb σ h.1, Yb σ h.2]
 | .mp (.glob _), _ => rfl
 | .mp (.loc _), h => by simp [plain] at h
 | .yf _, h => by simp [plain] at h
 | .dfs _, h => by simp [plain] at h
theorem Yb (σ : Nat → Nat) : ∀ {vs : List SV}, YG vs = true → renL σ vs = vs
 | [], _ => rfl
 | c :: cs, h => by simp only [YG, Bool.and_eq_true] at h; simp only [renL, Jm σ h.1, Yb σ h.2]
theorem Z9 (σ : Nat → Nat) : ∀ {vs : List (List SV)}, Zr vs = true → YU σ vs = vs
 | [], _ => rfl
 | c :: cs, h => by simp only [Zr, Bool.and_eq_true] at h; simp only [YU, Yb σ h.1, Z9 σ h.2]
end
theorem UG (σ : Nat → Nat) : ∀ {fr : Fr}, Z1j fr = true → renF σ fr = fr
 | [], _ => rfl
 | (t, v) :: r, h => by simp only [Z1j, Bool.and_eq_true] at h; simp only [renF, Jm σ h.1, UG σ h.2]
theorem Z1v (σ : Nat → Nat) : ∀ {c : DC}, JT c = true → renC σ c = c
 | .v s, h => by simp only [JT] at h; simp only [renC, Jm σ h]
 | .kid _ rs, h => by simp only [JT] at h; simp only [renC, Z9 σ h]
theorem JB (σ : Nat → Nat) : ∀ {r : List DC}, Yu r = true → Uc σ r = r
 | [], _ => rfl
 | c :: cs, h => by simp only [Yu, Bool.and_eq_true] at h; simp only [Uc, Z1v σ h.1, JB σ h.2]
theorem XZ (σ : Nat → Nat) : ∀ {r : List (List DC)}, Zw r = true → YP σ r = r
 | [], _ => rfl
 | c :: cs, h => by simp only [Zw, Bool.and_eq_true] at h; simp only [YP, JB σ h.1, XZ σ h.2]
theorem Yc (σ : Nat → Nat) {h : Hp} (p : XT h = true) : renH σ h = h := by
 cases h <;> simp only [XT] at p <;> simp only [renH, Yb σ, Z9 σ, UG σ, XZ σ, p]
section
variable {η η' : Env} {σ : Nat → Nat}
def Fwd (η η' : Env) (σ : Nat → Nat) : Prop := ∀ i x, η[i]? = some x → η'[σ i]? = some x
theorem Fwd.get (h : Fwd η η' σ) {b : Blk} {x : Option Ent} (hb : η.get b = some x) : η'.get (renB σ b) = some x := by
 cases b with
 | glob g => exact hb
 | loc i => exact h i x hb
mutual
theorem Den.ren (h : Fwd η η' σ) : ∀ {sv : SV} {v : Value}, Den η sv v → Den η' (ren σ sv) v
 | .bool _, _, d => d
 | .int _ _, _, d => d
 | .str _, _, d => d
 | .ptr b r es c, v, d => by
   simp only [Den, Go.Sx.ren] at d ⊢
   obtain ⟨e, h1, h2⟩ := d
   exact ⟨e, h.get h1, h2⟩
 | .sl b r es len lim, v, d => by
   simp only [Den, Go.Sx.ren] at d ⊢
   rcases d with ⟨h1, h2⟩ | ⟨e, o, h1, h2⟩
   · exact .inl ⟨h.get h1, h2⟩
   · exact .inr ⟨e, o, h.get h1, h2⟩
 | .val _, _, d => d
 | .agg cs, v, d => by
   simp only [Den, Go.Sx.ren] at d ⊢
   obtain ⟨vs, h1, h2, h3⟩ := d
   exact ⟨vs, h1, DenL.ren h h2, h3⟩
 | .arr es rs, v, d => by
   simp only [Den, Go.Sx.ren] at d ⊢
   obtain ⟨vs, h1, h2, h3⟩ := d
   exact ⟨vs, h1, DenLL.ren h h2, h3⟩
 | .tup ts, v, d => by
   simp only [Den, Go.Sx.ren] at d ⊢
   obtain ⟨vs, h1, h2⟩ := d
   exact ⟨vs, h1, DenL.ren h h2⟩
 | .ifc t x, v, d => by
   simp only [Den, Go.Sx.ren] at d ⊢
   obtain ⟨u, h1, h2⟩ := d
   exact ⟨u, h1, Den.ren h h2⟩
 | .fn f a b, v, d => by
   simp only [Den, Go.Sx.ren] at d ⊢
   obtain ⟨us, vs, h1, h2, h3⟩ := d
   exact ⟨us, vs, h1, DenL.ren h h2, DenL.ren h h3⟩
 | .mp b, v, d => by
   simp only [Den, Go.Sx.ren] at d ⊢
   obtain ⟨e, h1, h2⟩ := d
   exact ⟨e, h.get h1, h2⟩
 | .yf b, v, d => by
   simp only [Den, Go.Sx.ren] at d ⊢
   obtain ⟨e, h1, h2⟩ := d
   exact ⟨e, h.get h1, h2⟩
 | .dfs _, _, d => d
 | .any, _, d => d
 | .nb _, _, d => d
theorem DenL.ren (h : Fwd η η' σ) : ∀ {cs : List SV} {vs : List Value}, DenL η cs vs → DenL η' (renL σ cs) vs
 | [], _, d => d
 | c :: cs, vs, d => by
   simp only [DenL, renL] at d ⊢
   obtain ⟨u, us, h1, h2, h3⟩ := d
   exact ⟨u, us, h1, Den.ren h h2, DenL.ren h h3⟩
theorem DenLL.ren {es : Nat} (h : Fwd η η' σ) : ∀ {rs : List (List SV)} {vs : List Value}, DenLL η es rs vs → DenLL η' es (YU σ rs) vs
 | [], _, d => d
 | r :: rs, vs, d => by
   simp only [DenLL, YU] at d ⊢
   obtain ⟨us, ws, h1, h2, h3, h4⟩ := d
   exact ⟨us, ws, h1, h2, DenL.ren h h3, DenLL.ren h h4⟩
end
def Bwd (η η' : Env) (σ : Nat → Nat) (k : Nat) : Prop := ∀ i x, i < k → η[σ i]? = some x → η'[i]? = some x
mutual
def ZI (k : Nat) : SV → Bool
 | .bool _ | .int _ _ | .str _ | .val _ | .any | .nb _ => true
 | .ptr b _ _ _ => Ud k b
 | .sl b _ _ _ _ => Ud k b
 | .agg cs => Y6 k cs
 | .arr _ rs => Yd k rs
 | .tup vs => Y6 k vs
 | .ifc _ v => ZI k v
 | .fn _ a b => Y6 k a && Y6 k b
 | .mp b => Ud k b
 | .yf b => Ud k b
 | .dfs l => Y6 k l
def Y6 (k : Nat) : List SV → Bool
 | [] => true
 | c :: cs => ZI k c && Y6 k cs
def Yd (k : Nat) : List (List SV) → Bool
 | [] => true
 | r :: rs => Y6 k r && Yd k rs
def Ud (k : Nat) : Blk → Bool
 | .glob _ => true
 | .loc i => Nat.blt i k
end
def VE (k : Nat) : Fr → Bool
 | [] => true
 | (_, v) :: r => ZI k v && VE k r
def Ue (k : Nat) : DC → Bool
 | .v s => ZI k s
 | .kid _ rs => Yd k rs
def YN (k : Nat) : List DC → Bool
 | [] => true
 | c :: cs => Ue k c && YN k cs
def Y7 (k : Nat) : List (List DC) → Bool
 | [] => true
 | r :: rs => YN k r && Y7 k rs
def Za (k : Nat) : Hp → Bool
 | .box row => Y6 k row
 | .rows _ rs => Yd k rs
 | .siter _ _ => true
 | .tbl _ => true
 | .bld _ _ _ => true
 | .mp rs => Yd k rs
 | .dfr _ => true
 | .lp _ _ fr => VE k fr
 | .deep _ _ rs => Y7 k rs
mutual
theorem XL (k : Nat) : ∀ {v : SV}, plain v = true → ZI k v = true
 | .bool _, _ => rfl
 | .int _ _, _ => rfl
 | .str _, _ => rfl
 | .val _, _ => rfl
 | .any, _ => rfl
 | .nb _, _ => rfl
 | .ptr (.glob _) _ _ _, _ => rfl
 | .ptr (.loc _) _ _ _, h => by simp [plain] at h
 | .sl (.glob _) _ _ _ _, _ => rfl
 | .sl (.loc _) _ _ _ _, h => by simp [plain] at h
 | .agg cs, h => by simp only [plain] at h; simp only [ZI, ZJ k h]
 | .arr _ rs, h => by simp only [plain] at h; simp only [ZI, Z0 k h]
 | .tup vs, h => by simp only [plain] at h; simp only [ZI, ZJ k h]
 | .ifc _ v, h => by simp only [plain] at h; simp only [ZI, XL k h]
 | .fn _ a b, h => by simp only [plain, Bool.and_eq_true] at h; simp only [ZI, ZJ k h.1, ZJ k h.2, Bool.and_self]
 | .mp (.glob _), _ => rfl
 | .mp (.loc _), h => by simp [plain] at h
 | .yf _, h => by simp [plain] at h
 | .dfs _, h => by simp [plain] at h
theorem ZJ (k : Nat) : ∀ {vs : List SV}, YG vs = true → Y6 k vs = true
 | [], _ => rfl
 | c :: cs, h => by simp only [YG, Bool.and_eq_true] at h; simp only [Y6, XL k h.1, ZJ k h.2, Bool.and_self]
theorem Z0 (k : Nat) : ∀ {vs : List (List SV)}, Zr vs = true → Yd k vs = true
 | [], _ => rfl
 | c :: cs, h => by simp only [Zr, Bool.and_eq_true] at h; simp only [Yd, ZJ k h.1, Z0 k h.2, Bool.and_self]
end
theorem V5 (k : Nat) : ∀ {fr : Fr}, Z1j fr = true → VE k fr = true
 | [], _ => rfl
 | (t, v) :: r, h => by simp only [Z1j, Bool.and_eq_true] at h; simp only [VE, XL k h.1, V5 k h.2, Bool.and_self]
theorem UX (k : Nat) : ∀ {c : DC}, JT c = true → Ue k c = true
 | .v s, h => by simp only [JT] at h; simp only [Ue, XL k h]
 | .kid _ rs, h => by simp only [JT] at h; simp only [Ue, Z0 k h]
theorem Xy (k : Nat) : ∀ {r : List DC}, Yu r = true → YN k r = true
 | [], _ => rfl
 | c :: cs, h => by simp only [Yu, Bool.and_eq_true] at h; simp only [YN, UX k h.1, Xy k h.2, Bool.and_self]
theorem Xg (k : Nat) : ∀ {r : List (List DC)}, Zw r = true → Y7 k r = true
 | [], _ => rfl
 | c :: cs, h => by simp only [Zw, Bool.and_eq_true] at h; simp only [Y7, Xy k h.1, Xg k h.2, Bool.and_self]
theorem V6 (k : Nat) {h : Hp} (p : XT h = true) : Za k h = true := by
 cases h <;> simp only [XT] at p <;> simp only [Za, ZJ k, Z0 k, V5 k, Xg k, p]
variable {k : Nat}
theorem Bwd.get (h : Bwd η η' σ k) {b : Blk} {x : Option Ent} (hk : Ud k b = true) (hb : η.get (renB σ b) = some x) : η'.get b = some x := by
 cases b with
 | glob g => exact hb
 | loc i => exact h i x (by simpa [Ud] using hk) hb
mutual
theorem Den.unren (h : Bwd η η' σ k) : ∀ {sv : SV} {v : Value}, ZI k sv = true → Den η (ren σ sv) v → Den η' sv v
 | .bool _, _, _, d => d
 | .int _ _, _, _, d => d
 | .str _, _, _, d => d
 | .ptr b r es c, v, hk, d => by
   simp only [Den, Go.Sx.ren] at d ⊢
   obtain ⟨e, h1, h2⟩ := d
   exact ⟨e, h.get (by simpa [ZI] using hk) h1, h2⟩
 | .sl b r es len lim, v, hk, d => by
   simp only [Den, Go.Sx.ren] at d ⊢
   rcases d with ⟨h1, h2⟩ | ⟨e, o, h1, h2⟩
   · exact .inl ⟨h.get (by simpa [ZI] using hk) h1, h2⟩
   · exact .inr ⟨e, o, h.get (by simpa [ZI] using hk) h1, h2⟩
 | .val _, _, _, d => d
 | .agg cs, v, hk, d => by
   simp only [ZI] at hk
   simp only [Den, Go.Sx.ren] at d ⊢
   obtain ⟨vs, h1, h2, h3⟩ := d
   exact ⟨vs, h1, DenL.unren h hk h2, h3⟩
 | .arr es rs, v, hk, d => by
   simp only [ZI] at hk
   simp only [Den, Go.Sx.ren] at d ⊢
   obtain ⟨vs, h1, h2, h3⟩ := d
   exact ⟨vs, h1, DenLL.unren h hk h2, h3⟩
 | .tup ts, v, hk, d => by
   simp only [ZI] at hk
   simp only [Den, Go.Sx.ren] at d ⊢
   obtain ⟨vs, h1, h2⟩ := d
   exact ⟨vs, h1, DenL.unren h hk h2⟩
 | .ifc t x, v, hk, d => by
   simp only [ZI] at hk
   simp only [Den, Go.Sx.ren] at d ⊢
   obtain ⟨u, h1, h2⟩ := d
   exact ⟨u, h1, Den.unren h hk h2⟩
 | .fn f a b, v, hk, d => by
   simp only [ZI, Bool.and_eq_true] at hk
   simp only [Den, Go.Sx.ren] at d ⊢
   obtain ⟨us, vs, h1, h2, h3⟩ := d
   exact ⟨us, vs, h1, DenL.unren h hk.1 h2, DenL.unren h hk.2 h3⟩
 | .mp b, v, hk, d => by
   simp only [Den, Go.Sx.ren] at d ⊢
   obtain ⟨e, h1, h2⟩ := d
   exact ⟨e, h.get (by simpa [ZI] using hk) h1, h2⟩
 | .yf b, v, hk, d => by
   simp only [Den, Go.Sx.ren] at d ⊢
   obtain ⟨e, h1, h2⟩ := d
   exact ⟨e, h.get (by simpa [ZI] using hk) h1, h2⟩
 | .dfs _, _, _, d => d
 | .any, _, _, d => d
 | .nb _, _, _, d => d
theorem DenL.unren (h : Bwd η η' σ k) : ∀ {cs : List SV} {vs : List Value}, Y6 k cs = true → DenL η (renL σ cs) vs → DenL η' cs vs
 | [], _, _, d => d
 | c :: cs, vs, hk, d => by
   simp only [Y6, Bool.and_eq_true] at hk
   simp only [DenL, renL] at d ⊢
   obtain ⟨u, us, h1, h2, h3⟩ := d
   exact ⟨u, us, h1, Den.unren h hk.1 h2, DenL.unren h hk.2 h3⟩
theorem DenLL.unren {es : Nat} (h : Bwd η η' σ k) : ∀ {rs : List (List SV)} {vs : List Value}, Yd k rs = true → DenLL η es (YU σ rs) vs → DenLL η' es rs vs
 | [], _, _, d => d
 | r :: rs, vs, hk, d => by
   simp only [Yd, Bool.and_eq_true] at hk
   simp only [DenLL, YU] at d ⊢
   obtain ⟨us, ws, h1, h2, h3, h4⟩ := d
   exact ⟨us, ws, h1, h2, DenL.unren h hk.1 h3, DenLL.unren h hk.2 h4⟩
end
theorem Z2a : ∀ {row : List SV} {j : Nat}, (renL σ row)[j]? = (row[j]?).map (ren σ)
 | [], j => by simp [renL]
 | c :: cs, 0 => by simp [renL]
 | c :: cs, j + 1 => by simp [renL, Z2a (row := cs) (j := j)]
theorem JC : ∀ {row : List SV}, (renL σ row).length = row.length
 | [] => rfl
 | c :: cs => by simp [renL, JC (row := cs)]
theorem Yw : ∀ {rs : List (List SV)} {j : Nat}, (YU σ rs)[j]? = (rs[j]?).map (renL σ)
 | [], j => by simp [YU]
 | c :: cs, 0 => by simp [YU]
 | c :: cs, j + 1 => by simp [YU, Yw (rs := cs) (j := j)]
theorem ZU : ∀ {row : List (List SV)}, (YU σ row).length = row.length
 | [] => rfl
 | c :: cs => by simp [YU, ZU (row := cs)]
theorem Z1w : ∀ {row : List SV} {j : Nat} {c : SV}, Y6 k row = true → row[j]? = some c → ZI k c = true
 | [], j, c, _, h => by simp at h
 | d :: cs, 0, c, hk, h => by simp only [Y6, Bool.and_eq_true] at hk; simp at h; subst h; exact hk.1
 | d :: cs, j + 1, c, hk, h => by simp only [Y6, Bool.and_eq_true] at hk; simp at h; exact Z1w hk.2 h
theorem X5 : ∀ {rs : List (List SV)} {j : Nat} {c : List SV}, Yd k rs = true → rs[j]? = some c → Y6 k c = true
 | [], j, c, _, h => by simp at h
 | d :: cs, 0, c, hk, h => by simp only [Yd, Bool.and_eq_true] at hk; simp at h; subst h; exact hk.1
 | d :: cs, j + 1, c, hk, h => by simp only [Yd, Bool.and_eq_true] at hk; simp at h; exact X5 hk.2 h
theorem CellsAt.ren (h : Fwd η η' σ) {arr : Array Value} {o : Nat} {row : List SV} (d : CellsAt η arr o row) : CellsAt η' arr o (renL σ row) := by
 intro j sv hj
 rw [Z2a] at hj
 cases hr : row[j]? with
 | none => rw [hr] at hj; cases hj
 | some c =>
   rw [hr] at hj
   simp only [Option.map_some, Option.some.injEq] at hj
   subst hj
   obtain ⟨v, h1, h2, h3⟩ := d j c hr
   exact ⟨v, h1, h2, h3.ren h⟩
theorem CellsAt.unren (h : Bwd η η' σ k) {arr : Array Value} {o : Nat} {row : List SV} (hk : Y6 k row = true) (d : CellsAt η arr o (renL σ row)) : CellsAt η' arr o row := by
 intro j sv hj
 obtain ⟨v, h1, h2, h3⟩ := d j (Go.Sx.ren σ sv) (by rw [Z2a, hj]; rfl)
 exact ⟨v, h1, h2, h3.unren h (Z1w hk hj)⟩
theorem Z53 : ∀ {fr : Fr} {t : Nat} {v : SV}, lkp t (renF σ fr) = some v → ∃ u, lkp t fr = some u ∧ v = ren σ u
 | [], t, v, h => by simp [renF, lkp] at h
 | (d, u) :: r, t, v, h => by
   simp only [renF] at h
   rw [Z7] at h ⊢
   split at h
   · rename_i e; subst e; injection h with h; exact ⟨u, by simp, h.symm⟩
   · rename_i e; rw [if_neg e]; exact Z53 h
theorem Z3c : ∀ {fr : Fr} {t : Nat} {u : SV}, lkp t fr = some u → lkp t (renF σ fr) = some (ren σ u)
 | [], t, v, h => by simp [lkp] at h
 | (d, u) :: r, t, v, h => by
   simp only [renF]
   rw [Z7] at h ⊢
   split at h
   · rename_i e; subst e; injection h with h; subst h; rw [if_pos rfl]
   · rename_i e; rw [if_neg e]; exact Z3c h
theorem Z1x : ∀ {fr : Fr} {t : Nat} {v : SV}, VE k fr = true → lkp t fr = some v → ZI k v = true
 | [], t, v, _, h => by simp [lkp] at h
 | (d, u) :: r, t, v, hb, h => by
   simp only [VE, Bool.and_eq_true] at hb
   rw [Z7] at h
   split at h
   · injection h with h; subst h; exact hb.1
   · exact Z1x hb.2 h
theorem TmpsOK.ren (h : Fwd η η' σ) {tmps : Array Value} {fr : Fr} (d : TmpsOK η tmps fr) : TmpsOK η' tmps (renF σ fr) := fun t sv ht => by
 obtain ⟨u, h1, rfl⟩ := Z53 ht
 exact (d t u h1).ren h
theorem TmpsOK.unren (h : Bwd η η' σ k) {tmps : Array Value} {fr : Fr} (hk : VE k fr = true) (d : TmpsOK η tmps (renF σ fr)) : TmpsOK η' tmps fr := fun t sv ht =>
 (d t _ (Z3c ht)).unren h (Z1x hk ht)
theorem LpSat.ren (h : Fwd η η' σ) {r : Loop} {st : LpS} {li : LpI} {fr : Fr} (d : LpSat η r st li fr) : LpSat η' r st li (renF σ fr) :=
 let ⟨h1, h2, h3, h4, h5, h6, h7⟩ := d; ⟨h1, h2, h3, h4, h5, h6, h7.ren h⟩
theorem LpSat.unren (h : Bwd η η' σ k) {r : Loop} {st : LpS} {li : LpI} {fr : Fr} (hk : VE k fr = true) (d : LpSat η r st li (renF σ fr)) : LpSat η' r st li fr :=
 let ⟨h1, h2, h3, h4, h5, h6, h7⟩ := d; ⟨h1, h2, h3, h4, h5, h6, h7.unren h hk⟩
theorem DfL.unren (h : Bwd η η' σ k) : ∀ {l : List SV} {ds : List Deferred}, Y6 k l = true → DfL η (renL σ l) ds → DfL η' l ds
 | [], ds, _, d => d
 | c :: l, ds, hk, d => by
   simp only [Y6, Bool.and_eq_true] at hk
   cases c with
   | ptr b _ _ _ =>
     simp only [DfL, renL, Go.Sx.ren] at d ⊢
     obtain ⟨e, r, h1, h2, h3⟩ := d
     exact ⟨e, r, h.get (by simpa [ZI] using hk.1) h1, h2, DfL.unren h hk.2 h3⟩
   | val v =>
     simp only [DfL, renL, Go.Sx.ren] at d ⊢
     obtain ⟨f, r, h1, h2, h3⟩ := d
     exact ⟨f, r, h1, h2, DfL.unren h hk.2 h3⟩
   | _ => simp only [DfL, renL, Go.Sx.ren] at d
theorem KidSat.ren (h : Fwd η η' σ) {w : World} {v : Value} {es : Nat} {rows : List (List SV)} (d : KidSat η w v es rows) : KidSat η' w v es (YU σ rows) := by
 rcases d with ⟨h1, rfl⟩ | ⟨g, cap, arr, T, fz, h1, h2, h3, h4, h5, h6⟩
 · exact .inl ⟨h1, rfl⟩
 · refine .inr ⟨g, cap, arr, T, fz, by rw [ZU]; exact h1, h2, h3, h4, by rw [ZU]; exact h5, fun j row hr => ?_⟩
   rw [Yw] at hr
   cases hq : rows[j]? with
   | none => rw [hq] at hr; cases hr
   | some q =>
     rw [hq] at hr
     simp only [Option.map_some, Option.some.injEq] at hr
     subst hr
     rw [JC]
     exact ⟨(h6 j q hq).1, (h6 j q hq).2.ren h⟩
theorem KidSat.unren (h : Bwd η η' σ k) {w : World} {v : Value} {es : Nat} {rows : List (List SV)} (hk : Yd k rows = true) (d : KidSat η w v es (YU σ rows)) : KidSat η' w v es rows := by
 rcases d with ⟨h1, h0⟩ | ⟨g, cap, arr, T, fz, h1, h2, h3, h4, h5, h6⟩
 · refine .inl ⟨h1, ?_⟩
   have := congrArg List.length h0
   rw [ZU] at this
   exact List.length_eq_zero_iff.1 this
 · refine .inr ⟨g, cap, arr, T, fz, by rw [ZU] at h1; exact h1, h2, h3, h4, by rw [ZU] at h5; exact h5, fun j row hr => ?_⟩
   obtain ⟨p1, p2⟩ := h6 j (renL σ row) (by rw [Yw, hr]; rfl)
   rw [JC] at p1
   exact ⟨p1, p2.unren h (X5 hk hr)⟩
theorem KidsOK.ren (h : Fwd η η' σ) {w : World} {g : Nat} {o : Obj} {es : Nat} {rs : List (List DC)} (d : KidsOK η w g o es rs) : KidsOK η' w g o es (YP σ rs) := by
 refine ⟨fun i j es' rows hk => ?_, fun i j i' j' x x' v v' k h1 h2 h3 h4 h5 h6 => ?_⟩
 · rw [XK] at hk
   cases hq : Yk rs i j with
   | none => rw [hq] at hk; cases hk
   | some x =>
     rw [hq] at hk
     obtain ⟨es0, rows0⟩ := x
     simp only [Option.map_some, Option.some.injEq, Prod.mk.injEq] at hk
     obtain ⟨rfl, rfl⟩ := hk
     obtain ⟨v, g1, g2, g3⟩ := d.sat i j _ _ hq
     exact ⟨v, g1, g2.ren h, g3⟩
 · rw [XK] at h1 h2
   obtain ⟨y, hy, _⟩ := Option.map_eq_some_iff.1 h1
   obtain ⟨y', hy', _⟩ := Option.map_eq_some_iff.1 h2
   exact d.ne i j i' j' y y' v v' k hy hy' h3 h4 h5 h6
theorem Z0q : ∀ {row : List DC} {j : Nat} {c : DC}, YN k row = true → row[j]? = some c → Ue k c = true
 | [], j, c, _, h => by simp at h
 | d :: cs, 0, c, hk, h => by simp only [YN, Bool.and_eq_true] at hk; simp at h; subst h; exact hk.1
 | d :: cs, j + 1, c, hk, h => by simp only [YN, Bool.and_eq_true] at hk; simp at h; exact Z0q hk.2 h
theorem UY : ∀ {rs : List (List DC)} {j : Nat} {c : List DC}, Y7 k rs = true → rs[j]? = some c → YN k c = true
 | [], j, c, _, h => by simp at h
 | d :: cs, 0, c, hk, h => by simp only [Y7, Bool.and_eq_true] at hk; simp at h; subst h; exact hk.1
 | d :: cs, j + 1, c, hk, h => by simp only [Y7, Bool.and_eq_true] at hk; simp at h; exact UY hk.2 h
theorem Z4d {rs : List (List DC)} {i j es : Nat} {rows : List (List SV)} (hk : Y7 k rs = true) (h : Yk rs i j = some (es, rows)) : Yd k rows = true := by
 unfold Yk at h
 split at h
 · rename_i row hr
   split at h
   · rename_i es' rows' hc
     simp only [Option.some.injEq, Prod.mk.injEq] at h
     obtain ⟨rfl, rfl⟩ := h
     exact Z0q (UY hk hr) hc
   · cases h
 · cases h
theorem Z0r : ∀ {r : List DC}, YN k r = true → Y6 k (r.map ZY) = true
 | [], _ => rfl
 | c :: cs, h => by
   simp only [YN, Bool.and_eq_true] at h
   simp only [List.map_cons, Y6, Z0r h.2, Bool.and_true]
   cases c with
   | v s => exact h.1
   | kid es rows => rfl
theorem Xm : ∀ {r : List (List DC)}, Y7 k r = true → Yd k (Zo r) = true
 | [], _ => rfl
 | c :: cs, h => by
   simp only [Y7, Bool.and_eq_true] at h
   have := Xm h.2
   unfold Zo at this ⊢
   simp only [List.map_cons, Yd, Z0r h.1, this, Bool.and_self]
theorem KidsOK.unren (h : Bwd η η' σ k) {w : World} {g : Nat} {o : Obj} {es : Nat} {rs : List (List DC)} (hk : Y7 k rs = true) (d : KidsOK η w g o es (YP σ rs)) : KidsOK η' w g o es rs := by
 refine ⟨fun i j es' rows hkd => ?_, fun i j i' j' x x' v v' k h1 h2 h3 h4 h5 h6 => ?_⟩
 · obtain ⟨v, g1, g2, g3⟩ := d.sat i j es' (YU σ rows) (by rw [XK, hkd]; rfl)
   exact ⟨v, g1, g2.unren h (Z4d hk hkd), g3⟩
 · exact d.ne i j i' j' _ _ v v' k (by rw [XK, h1]; rfl) (by rw [XK, h2]; rfl) h3 h4 h5 h6
theorem DeepSat.ren (h : Fwd η η' σ) {w : World} {i es : Nat} {rs : List (List DC)} {x : Option Ent} (hx : η.get (.loc i) = some x) (d : DeepSat η w (.loc i) es rs) : DeepSat η' w (.loc (σ i)) es (YP σ rs) := by
 intro e he
 have := h.get (b := .loc i) hx
 rw [show η'.get (renB σ (.loc i)) = some (some e) from he] at this
 injection this with this
 subst this
 obtain ⟨h1, h2⟩ := d e hx
 exact ⟨h1, fun o ho => (h2 o ho).ren h⟩
theorem HpSat.ren (h : Fwd η η' σ) {w : World} {own : Bool} {i : Nat} {hp : Hp} (d : HpSat η w own (.loc i) hp) : HpSat η' w own (.loc (σ i)) (renH σ hp) := by
 have hg : ∀ {x}, η.get (.loc i) = some x → η'.get (.loc (σ i)) = some x := fun hx => h.get (b := .loc i) hx
 cases hp with
 | box row =>
   simp only [HpSat, renH] at d ⊢
   obtain ⟨e, arr, T, fz, h1, h2, h3, h4⟩ := d
   exact ⟨e, arr, T, fz, hg h1, h2, h3, h4.ren h⟩
 | rows es rs =>
   simp only [HpSat, renH] at d ⊢
   rcases d with ⟨h1, rfl⟩ | ⟨e, arr, T, fz, h1, h2, h3, h4⟩
   · exact .inl ⟨hg h1, rfl⟩
   · refine .inr ⟨e, arr, T, fz, hg h1, h2, by rw [ZU]; exact h3, fun j row hr => ?_⟩
     rw [Yw] at hr
     cases hq : rs[j]? with
     | none => rw [hq] at hr; cases hr
     | some q =>
       rw [hq] at hr
       simp only [Option.map_some, Option.some.injEq] at hr
       subst hr
       rw [JC]
       exact ⟨(h4 j q hq).1, (h4 j q hq).2.ren h⟩
 | tbl vs =>
   simp only [HpSat, renH] at d ⊢
   obtain ⟨e, h1, h2⟩ := d
   exact ⟨e, hg h1, h2⟩
 | siter s p =>
   simp only [HpSat, renH] at d ⊢
   obtain ⟨e, h1, h2⟩ := d
   exact ⟨e, hg h1, h2⟩
 | mp rs =>
   simp only [HpSat, renH] at d ⊢
   obtain ⟨e, es, h1, h2, h3, h4, h5⟩ := d
   refine ⟨e, es, hg h1, h2, h3, by rw [ZU]; exact h4, fun j row hr => ?_⟩
   rw [Yw] at hr
   cases hq : rs[j]? with
   | none => rw [hq] at hr; cases hr
   | some q =>
     rw [hq] at hr
     simp only [Option.map_some, Option.some.injEq] at hr
     subst hr
     obtain ⟨en, g1, g2, g3⟩ := h5 j q hq
     exact ⟨en, g1, g2, g3.ren h⟩
 | dfr f =>
   simp only [HpSat, renH] at d ⊢
   obtain ⟨e, h1, h2⟩ := d
   exact ⟨e, hg h1, h2⟩
 | lp st li fr =>
   simp only [HpSat, renH] at d ⊢
   obtain ⟨e, r, h1, h2, h3, h4⟩ := d
   exact ⟨e, r, hg h1, h2, h3, h4.ren h⟩
 | bld  T t l =>
   simp only [HpSat, renH] at d ⊢
   obtain ⟨e, h1, h2⟩ := d
   exact ⟨e, hg h1, h2⟩
 | deep mp es rs =>
   cases mp
   · simp only [HpSat, renH, Jl] at d ⊢
     obtain ⟨d1, d2⟩ := d
     obtain ⟨x, hx, _⟩ := d1.ent
     refine ⟨?_, d2.ren h hx⟩
     rcases d1 with ⟨h1, h0⟩ | ⟨e, arr, T, fz, h1, h2, h3, h4⟩
     · exact .inl ⟨hg h1, by rw [h0]; rfl⟩
     · refine .inr ⟨e, arr, T, fz, hg h1, h2, by rw [ZU]; exact h3, fun j row hr => ?_⟩
       rw [Yw] at hr
       cases hq : (Zo rs)[j]? with
       | none => rw [hq] at hr; cases hr
       | some q =>
         rw [hq] at hr
         simp only [Option.map_some, Option.some.injEq] at hr
         subst hr
         rw [JC]
         exact ⟨(h4 j q hq).1, (h4 j q hq).2.ren h⟩
   · simp only [HpSat, renH, Jl] at d ⊢
     obtain ⟨⟨d1, d0⟩, d2⟩ := d
     obtain ⟨x, hx, _⟩ := d1.ent
     refine ⟨⟨?_, d0⟩, d2.ren h hx⟩
     obtain ⟨e, es, h1, h2, h3, h4, h5⟩ := d1
     refine ⟨e, es, hg h1, h2, h3, by rw [ZU]; exact h4, fun j row hr => ?_⟩
     rw [Yw] at hr
     cases hq : (Zo rs)[j]? with
     | none => rw [hq] at hr; cases hr
     | some q =>
       rw [hq] at hr
       simp only [Option.map_some, Option.some.injEq] at hr
       subst hr
       obtain ⟨en, g1, g2, g3⟩ := h5 j q hq
       exact ⟨en, g1, g2, g3.ren h⟩
theorem RowsSat.unren (h : Bwd η η' σ k) {w : World} {own : Bool} {b b' : Blk} (hg : ∀ {x}, η.get b = some x → η'.get b' = some x) {es : Nat} {rs : List (List SV)} (hk : Yd k rs = true) (d : RowsSat η w own b es (YU σ rs)) : RowsSat η' w own b' es rs := by
 rcases d with ⟨h1, h0⟩ | ⟨e, arr, T, fz, h1, h2, h3, h4⟩
 · refine .inl ⟨hg h1, ?_⟩
   have := congrArg List.length h0
   rw [ZU] at this
   exact List.length_eq_zero_iff.1 this
 · refine .inr ⟨e, arr, T, fz, hg h1, h2, by rw [ZU] at h3; exact h3, fun j row hr => ?_⟩
   obtain ⟨p1, p2⟩ := h4 j (renL σ row) (by rw [Yw, hr]; rfl)
   rw [JC] at p1
   exact ⟨p1, p2.unren h (X5 hk hr)⟩
theorem MpSat.unren (h : Bwd η η' σ k) {w : World} {b b' : Blk} (hg : ∀ {x}, η.get b = some x → η'.get b' = some x) {rs : List (List SV)} (hk : Yd k rs = true) (d : MpSat η w b (YU σ rs)) : MpSat η' w b' rs := by
 obtain ⟨e, es, h1, h2, h3, h4, h5⟩ := d
 refine ⟨e, es, hg h1, h2, h3, by rw [ZU] at h4; exact h4, fun j row hr => ?_⟩
 obtain ⟨en, g1, g2, g3⟩ := h5 j (renL σ row) (by rw [Yw, hr]; rfl)
 exact ⟨en, g1, g2, g3.unren h (X5 hk hr)⟩
theorem DeepSat.unren (h : Bwd η η' σ k) {w : World} {b b' : Blk} (hg : ∀ {x}, η.get b = some x → η'.get b' = some x) {es : Nat} {rs : List (List DC)} {x : Option Ent} (hx : η.get b = some x) (hk : Y7 k rs = true) (d : DeepSat η w b es (YP σ rs)) : DeepSat η' w b' es rs := by
 intro e he
 have := hg hx
 rw [he] at this
 injection this with this
 subst this
 obtain ⟨h1, h2⟩ := d e hx
 exact ⟨h1, fun o ho => (h2 o ho).unren h hk⟩
theorem HpSat.unren (h : Bwd η η' σ k) {w : World} {own : Bool} {i : Nat} (hi : i < k) {hp : Hp} (hk : Za k hp = true) (d : HpSat η w own (.loc (σ i)) (renH σ hp)) : HpSat η' w own (.loc i) hp := by
 have hg : ∀ {x}, η.get (.loc (σ i)) = some x → η'.get (.loc i) = some x := fun hx => h i _ hi hx
 cases hp with
 | box row =>
   simp only [HpSat, renH] at d ⊢
   obtain ⟨e, arr, T, fz, h1, h2, h3, h4⟩ := d
   exact ⟨e, arr, T, fz, hg h1, h2, h3, h4.unren h hk⟩
 | rows es rs =>
   simp only [HpSat, renH] at d ⊢
   rcases d with ⟨h1, h0⟩ | ⟨e, arr, T, fz, h1, h2, h3, h4⟩
   · refine .inl ⟨hg h1, ?_⟩
     have := congrArg List.length h0
     rw [ZU] at this
     exact List.length_eq_zero_iff.1 this
   · refine .inr ⟨e, arr, T, fz, hg h1, h2, by rw [ZU] at h3; exact h3, fun j row hr => ?_⟩
     obtain ⟨p1, p2⟩ := h4 j (renL σ row) (by rw [Yw, hr]; rfl)
     rw [JC] at p1
     exact ⟨p1, p2.unren h (X5 hk hr)⟩
 | tbl vs =>
   simp only [HpSat, renH] at d ⊢
   obtain ⟨e, h1, h2⟩ := d
   exact ⟨e, hg h1, h2⟩
 | siter s p =>
   simp only [HpSat, renH] at d ⊢
   obtain ⟨e, h1, h2⟩ := d
   exact ⟨e, hg h1, h2⟩
 | mp rs =>
   simp only [HpSat, renH] at d ⊢
   obtain ⟨e, es, h1, h2, h3, h4, h5⟩ := d
   refine ⟨e, es, hg h1, h2, h3, by rw [ZU] at h4; exact h4, fun j row hr => ?_⟩
   obtain ⟨en, g1, g2, g3⟩ := h5 j (renL σ row) (by rw [Yw, hr]; rfl)
   exact ⟨en, g1, g2, g3.unren h (X5 hk hr)⟩
 | dfr f =>
   simp only [HpSat, renH] at d ⊢
   obtain ⟨e, h1, h2⟩ := d
   exact ⟨e, hg h1, h2⟩
 | lp st li fr =>
   simp only [HpSat, renH] at d ⊢
   obtain ⟨e, r, h1, h2, h3, h4⟩ := d
   exact ⟨e, r, hg h1, h2, h3, h4.unren h hk⟩
 | bld  T t l =>
   simp only [HpSat, renH] at d ⊢
   obtain ⟨e, h1, h2⟩ := d
   exact ⟨e, hg h1, h2⟩
 | deep mp es rs =>
   cases mp
   · simp only [HpSat, renH, Jl] at d ⊢
     obtain ⟨d1, d2⟩ := d
     obtain ⟨x, hx, _⟩ := d1.ent
     exact ⟨d1.unren h hg (Xm hk), d2.unren h hg hx hk⟩
   · simp only [HpSat, renH, Jl] at d ⊢
     obtain ⟨⟨d1, d0⟩, d2⟩ := d
     obtain ⟨x, hx, _⟩ := d1.ent
     exact ⟨⟨d1.unren h hg (Xm hk), d0⟩, d2.unren h hg hx hk⟩
end
theorem CellsAt.plain {η η' : Env} {arr : Array Value} {o : Nat} {row : List SV} (hp : YG row = true) (d : CellsAt η arr o row) : CellsAt η' arr o row :=
 CellsAt.unren (σ := id) (k := 0) (fun i x hi => by omega) (ZJ 0 hp) (by rw [Yb _ hp]; exact d)
theorem JD : ∀ {rs : List (List SV)} {i : Nat} {row : List SV}, Zr rs = true → rs[i]? = some row → YG row = true
 | [], i, row, _, h => by simp at h
 | r :: rs, 0, row, hp, h => by simp only [Zr, Bool.and_eq_true] at hp; simp at h; subst h; exact hp.1
 | r :: rs, i + 1, row, hp, h => by simp only [Zr, Bool.and_eq_true] at hp; simp at h; exact JD hp.2 h
theorem HpSat.plain {η η' : Env} {w : World} {own : Bool} {g : Nat} {h : Hp} (d : HpSat η w own (.glob g) h) (hp : XT h = true) : HpSat η' w own (.glob g) h := by
 cases h with
 | box row =>
   simp only [XT] at hp
   simp only [HpSat] at d ⊢
   obtain ⟨e, arr, T, fz, h1, h2, h3, h4⟩ := d
   exact ⟨e, arr, T, fz, h1, h2, h3, h4.plain hp⟩
 | rows es rs =>
   simp only [XT] at hp
   simp only [HpSat] at d ⊢
   rcases d with ⟨h1, h2⟩ | ⟨e, arr, T, fz, h1, h2, h3, h4⟩
   · exact .inl ⟨h1, h2⟩
   · exact .inr ⟨e, arr, T, fz, h1, h2, h3, fun i row hr => ⟨(h4 i row hr).1, (h4 i row hr).2.plain (JD hp hr)⟩⟩
 | mp rs =>
   simp only [XT] at hp
   simp only [HpSat] at d ⊢
   obtain ⟨e, es, h1, h2, h3, h4, h5⟩ := d
   exact ⟨e, es, h1, h2, h3, h4, fun i row hr => let ⟨en, g1, g2, g3⟩ := h5 i row hr; ⟨en, g1, g2, DenL.unren (σ := id) (k := 0) (fun i x hi => by omega) (ZJ 0 (JD hp hr)) (by rw [Yb _ (JD hp hr)]; exact g3)⟩⟩
 | siter s p => exact d
 | tbl vs => exact d
 | dfr f => exact d
 | lp st li fr =>
   simp only [XT] at hp
   simp only [HpSat] at d ⊢
   obtain ⟨e, r, h1, h2, h3, h4⟩ := d
   exact ⟨e, r, h1, h2, h3, LpSat.unren (σ := id) (k := 0) (fun i x hi => by omega) (V5 0 hp) (by rw [UG _ hp]; exact h4)⟩
 | bld T t l => exact d
 | deep mp es rs =>
   simp only [XT] at hp
   have hb := Xg 0 hp
   have hB : Bwd η η' id 0 := fun i x hi => by omega
   have e1 : YP id rs = rs := XZ id hp
   have hg : ∀ {x}, η.get (.glob g) = some x → η'.get (.glob g) = some x := fun hx => hx
   rw [← e1] at d
   cases mp
   · simp only [HpSat, Jl] at d ⊢
     obtain ⟨d1, d2⟩ := d
     obtain ⟨x, hx, _⟩ := d1.ent
     exact ⟨d1.unren hB hg (Xm hb), d2.unren hB hg hx hb⟩
   · simp only [HpSat, Jl] at d ⊢
     obtain ⟨⟨d1, d0⟩, d2⟩ := d
     obtain ⟨x, hx, _⟩ := d1.ent
     exact ⟨⟨d1.unren hB hg (Xm hb), d0⟩, d2.unren hB hg hx hb⟩
def YB (η : Env) (w : World) (O : Hps) : Nat → Prop := fun g => ∃ i h, lkp i O = some h ∧ feet η w (.loc i) h g
theorem kid_renH {σ : Nat → Nat} {w : World} {g k : Nat} {h : Hp} : kid w g (renH σ h) k ↔ kid w g h k := by
 cases h with
 | deep mp es rs =>
   simp only [renH, kid]
   constructor
   · rintro ⟨o, i, j, x, v, h1, h2, h3, h4⟩
     rw [XK] at h2
     obtain ⟨y, hy, _⟩ := Option.map_eq_some_iff.1 h2
     exact ⟨o, i, j, y, v, h1, hy, h3, h4⟩
   · rintro ⟨o, i, j, x, v, h1, h2, h3, h4⟩
     exact ⟨o, i, j, _, v, h1, by rw [XK, h2]; rfl, h3, h4⟩
 | _ => exact Iff.rfl
theorem feet.ren {σ : Nat → Nat} {η η' : Env} {w : World} {i k : Nat} {h : Hp} (hg : ∀ x, η[i]? = some x → η'[σ i]? = some x) (f : feet η w (.loc i) h k) : feet η' w (.loc (σ i)) (renH σ h) k :=
 let ⟨e, h1, h2⟩ := f; ⟨e, hg _ h1, h2.imp id kid_renH.2⟩
theorem feet.unren {σ : Nat → Nat} {η η' : Env} {w : World} {i k : Nat} {h : Hp} (hg : ∀ x, η'[σ i]? = some x → η[i]? = some x) (f : feet η' w (.loc (σ i)) (renH σ h) k) : feet η w (.loc i) h k :=
 let ⟨e, h1, h2⟩ := f; ⟨e, hg _ h1, h2.imp id kid_renH.1⟩
def shB (S : Hps) : List (Blk × Hp) := S.map fun p => (Blk.loc p.1, p.2)
structure Does (P : Program) (T : Tab) (f : FuncId) (k : Nat) (args : List SV) (O S : Hps) (Q : SV → Hps → Nat → Prop) : Prop where
 out : ∀ (M : Mx) (vs : List Value), M.P = P → M.C.T = T → M.F = YB M.η0 M.w0 O → M.C.S = shB S → HeapOK M M.η0 M.w0 O k → DenL M.η0 args vs →
   Invokes M.P f ⟨vs⟩ M.w0 fun v w' => ∃ r O' nx' η', Q r O' nx' ∧ M.η0 <+: η' ∧ HeapOK M η' w' O' nx' ∧ Den η' r v
end Go.Sx
namespace Go.Sx
open Go
def Vx : Nat → List SV → Fr
 | _, [] => []
 | n, v :: vs => (n, v) :: Vx (n + 1) vs
def Za9 (p : Prop) (_ : Res) (k : ResV) : ResV := fun K => NEED p (k K)
def ZbN (rs : List (List SV)) (i : Nat) (_ : List SV → Res) (f : List SV → ResV) : ResV := fun K => GET rs i fun row => VC row fun row => f row K
def Uf : ResV := fun _ => STOP "result"
noncomputable def Res.gv (r : Res) : ResV :=
 Res.rec (motive := fun _ => ResV) Z8I (fun _ _ => Uf) (fun _ _ _ => Uf) (fun _ _ _ => Uf) Za9 ZbN (fun _ _ _ _ _ => Uf) (fun _ _ _ _ _ => Uf) (fun _ _ _ _ _ => Uf) (fun _ _ _ _ => Uf) (fun _ _ _ _ => Uf) Uf r
abbrev RetT := (List SV → Prop) → Prop
def ZbO : RetT := fun K => K []
noncomputable def Z0s (C : Cx) (fr : Fr) (O : Hps) (v : ResultVar) (_ : List ResultVar) (r : RetT) : RetT := fun K => match v with
 | .tmp t => match lkp t fr with
   | some v => r fun vs => K (v :: vs)
   | none => STOP "result"
 | .cell a t => match lkp a fr with
   | some p => (Z5F C.T (Xw C O) t p).gv fun v => r fun vs => K (v :: vs)
   | none => STOP "result"
noncomputable def Z1a (C : Cx) (fr : Fr) (O : Hps) (l : List ResultVar) : RetT := List.rec (motive := fun _ => RetT) ZbO (Z0s C fr O) l
def Z2b : List SV → SV
 | [v] => v
 | vs => .tup vs
structure FIN (M : Mx) (O : Hps) (nx : Nat) (r : SV) (Q : SV → Hps → Nat → Prop) : Prop where
 out : ∀ η w v, HeapOK M η w O nx → Den η r v → ∃ r' O' nx' η', Q r' O' nx' ∧ M.η0 <+: η' ∧ HeapOK M η' w O' nx' ∧ Den η' r' v
def Z8V (M : Mx) (O : Hps) (nx : Nat) (Q : SV → Hps → Nat → Prop) : List SV → Prop
 | [v] => FIN M O nx v Q
 | vs => FIN M O nx (.tup vs) Q
theorem Z8W {M : Mx} {O : Hps} {nx : Nat} {Q : SV → Hps → Nat → Prop} : ∀ vs, Z8V M O nx Q vs = FIN M O nx (Z2b vs) Q
 | [] => rfl
 | [_] => rfl
 | _ :: _ :: _ => rfl
def Z1y : List SV → Hps → (Hps → Prop) → Prop
 | [], O, K => K O
 | c :: l, O, K => match c with
   | .ptr (.loc j) _ _ _ => match lkp j O with
     | some (.dfr []) => WX j O fun O => Z1y l O K
     | _ => STOP "put off"
   | .val v => match l with
     | .ptr (.loc j) _ _ _ :: l' => match lkp j O with
       | some (.dfr f) => NEED (v = farV f) (WX j O fun O => Z1y l' O K)
       | _ => STOP "put off"
     | _ => STOP "put off"
   | _ => STOP "put off"
def Z2c (fr : Fr) (O : Hps) (K : Hps → Prop) : Prop := match lkp DS fr with
 | some v => match v with
   | .dfs l => Z1y l O K
   | _ => K O
 | none => K O
def endQ (M : Mx) (res : List ResultVar) (Q : SV → Hps → Nat → Prop) : Post
 | .normal, fr, O, nx => Z2c fr O fun O => Z1a M.C fr O res fun vs => Z8V M O nx Q vs
 | .ret, fr, O, nx => Z2c fr O fun O => Z1a M.C fr O res fun vs => Z8V M O nx Q vs
 | .exit _, _, _, _ => STOP "exit"
section
variable {M : Mx} {η : Env} {w : World} {O : Hps} {nx : Nat}
theorem Res.gv_ok : ∀ {r : Res} {K : SV → Prop}, r.gv K → ∃ v, (∀ O nx, r.ok O nx v O nx) ∧ K v
 | .val v, K, h => by simp only [Res.gv, Z8I, Yl] at h; exact ⟨v, fun _ _ => ⟨rfl, rfl, rfl⟩, h⟩
 | .need p k, K, h => by
   simp only [Res.gv, Za9] at h
   obtain ⟨v, h1, h2⟩ := Res.gv_ok h.k
   exact ⟨v, fun O nx => ⟨h.p, h1 O nx⟩, h2⟩
 | .get rs i f, K, h => by
   simp only [Res.gv, ZbN, XA] at h
   obtain ⟨row, hr, h⟩ := h.out
   obtain ⟨v, h1, h2⟩ := Res.gv_ok h
   exact ⟨v, fun O nx => ⟨row, hr, h1 O nx⟩, h2⟩
 | .new _ _, _, h => h.out.elim
 | .upd _ _ _, _, h => h.out.elim
 | .repl _ _ _, _, h => h.out.elim
 | .take _ _ _ _, _, h => h.out.elim
 | .putk _ _ _ _, _, h => h.out.elim
 | .find _ _ _, _, h => h.out.elim
 | .findD _ _ _, _, h => h.out.elim
 | .ite _ _ _, _, h => h.out.elim
 | .fail, _, h => h.out.elim
def Z1z (tmps : Array Value) : ResultVar → Sem Value
 | .tmp t => pure (tmps.getD t undef)
 | .cell c t => do loadVar t (← asAddr (tmps.getD c undef))
theorem Z5N (fn : Func) (tmps : Array Value) : results fn tmps = (do let vs ← fn.results.mapM (Z1z tmps); pure (if h : vs.size = 1 then vs[0] else .tuple vs)) := by
 have : (fun x : ResultVar => match x with | ResultVar.tmp t => (pure (tmps.getD t undef) : Sem Value) | ResultVar.cell c t => do loadVar t (← asAddr (tmps.getD c undef))) = Z1z tmps := by
   funext x; cases x <;> rfl
 rw [← this]
 rfl
theorem Z5O {P : Program} {w : World} {v : Value} {a : Addr} (h : v = .pointer (some a)) : (asAddr v).run P w = .ok a w := by subst h; rfl
theorem Z0t (hT : TabOK M.P M.C.T) (H : HeapOK M η w O nx) {a : Act} {fr : Fr} (hf : FrOK η a fr) : ∀ {res : List ResultVar} {K : List SV → Prop}, Z1a M.C fr O res K →
   ∃ svs vs, K svs ∧ DenL η svs vs ∧ (res.mapM (Z1z a.tmps)).run M.P w = .ok vs w
 | [], K, h => ⟨[], [], h, by simp [DenL], rfl⟩
 | .tmp t :: r, K, h => by
   replace h : Z0s M.C fr O (.tmp t) r (Z1a M.C fr O r) K := h
   simp only [Z0s] at h
   split at h
   case h_2 => exact h.out.elim
   rename_i v hv
   obtain ⟨svs, vs, h1, h2, h3⟩ := Z0t hT H hf h
   refine ⟨_, a.tmps.getD t undef :: vs, h1, ?_, ?_⟩
   · simp only [DenL]; exact ⟨_, _, rfl, hf t v hv, h2⟩
   · simp only [List.mapM_cons, Sem.run_bind, Z1z, Sem.run_pure, Result.andThen_ok, h3]
 | .cell c t :: r, K, h => by
   replace h : Z0s M.C fr O (.cell c t) r (Z1a M.C fr O r) K := h
   simp only [Z0s] at h
   split at h
   case h_2 => exact h.out.elim
   rename_i p hp
   obtain ⟨v, hl, h⟩ := Res.gv_ok h
   obtain ⟨svs, vs, h1, h2, h3⟩ := Z0t hT H hf h
   obtain ⟨_, _, ad, u, h4, h5, h6⟩ := Z09 hT H (hf c p hp) (hl O nx)
   refine ⟨_, u :: vs, h1, ?_, ?_⟩
   · simp only [DenL]; exact ⟨_, _, rfl, h6, h2⟩
   · simp only [List.mapM_cons, Sem.run_bind, Z1z, Z5O h4, Result.andThen_ok, h5, h3, Sem.run_pure]
end
theorem Z2d {η : Env} : ∀ {n : Nat} {args : List SV} {vs : List Value} {t : Nat} {sv : SV}, DenL η args vs → lkp t (Vx n args) = some sv → ∃ v, n ≤ t ∧ vs[t - n]? = some v ∧ Den η sv v
 | n, [], vs, t, sv, _, h => by simp [Vx, lkp] at h
 | n, a :: args, vs, t, sv, hd, h => by
   simp only [DenL] at hd
   obtain ⟨u, us, rfl, h1, h2⟩ := hd
   simp only [Vx, Z7] at h
   split at h
   · rename_i e; subst e; injection h with h; subst h
     exact ⟨u, Nat.le_refl _, by simp, h1⟩
   · obtain ⟨v, h3, h4, h5⟩ := Z2d h2 h
     refine ⟨v, by omega, ?_, h5⟩
     rw [show t - n = (t - (n + 1)) + 1 by omega]
     simpa using h4
theorem HeapOK.drop {M : Mx} {η : Env} {w w' : World} {O : Hps} {nx : Nat} (H : HeapOK M η w O nx) {j : Nat} {h0 : Hp} (hj : lkp j O = some h0) {e : Ent} (he : η[j]? = some (some e)) (hother : ∀ k, ¬ feet η w (.loc j) h0 k → w'.heap[k]? = w.heap[k]?) (hsz : w'.heap.size = w.heap.size)
   (ho : w'.os = w.os) (ht : w'.tape = w.tape) (hp : w'.output = w.output) (hdr : w.drawn ≤ w'.drawn) : HeapOK M η w' (delK j O) nx := by
 have fi : feet η w (.loc j) h0 e.g := feet.own he
 have back : ∀ {i h}, lkp i (delK j O) = some h → i ≠ j ∧ lkp i O = some h := fun {i h} hi => by
   have hne : i ≠ j := fun e => by subst e; rw [YX] at hi; cases hi
   exact ⟨hne, by rw [← U4 j O i hne]; exact hi⟩
 have keep : ∀ {i h}, lkp i (delK j O) = some h → ∀ k, feet η w (.loc i) h k → w'.heap[k]? = w.heap[k]? := fun {i h} hi k f => hother k fun hk => H.own.2 i j h h0 k (back hi).2 hj (back hi).1 f hk
 have bk : ∀ {i h}, lkp i (delK j O) = some h → ∀ k, feet η w' (.loc i) h k → feet η w (.loc i) h k := fun {i h} hi k f => H.stands List.prefix_rfl (back hi).2 (keep hi) f
 refine ⟨H.pre, H.len, ⟨fun i h hi => ⟨(H.own.1 i h (back hi).2).1.keep (keep hi), fun k f => (H.own.1 i h (back hi).2).2 k (bk hi k f)⟩, fun i i' h h' k hi hi' hne f f' => H.own.2 i i' h h' k (back hi).2 (back hi').2 hne (bk hi k f) (bk hi' k f')⟩,
   ⟨ho.trans H.fr.os, ht.trans H.fr.tape, hp.trans H.fr.output, Nat.le_trans H.fr.drawn hdr, by rw [hsz]; exact H.fr.size, fun k hk hF => ?_⟩, H.sok⟩
 rw [hother k ?_]
 · exact H.fr.block k hk hF
 · intro hke
   rcases (H.own.1 j h0 hj).2 k hke with h | h
   · exact hF h
   · omega
theorem Z8X {f f' : List Nat} (h : farV f = farV f') : f = f' := by
 unfold farV at h
 simp only [Value.tuple.injEq] at h
 exact (List.map_inj_right (fun a b hab => by simp only [Value.int.injEq, true_and] at hab; omega)).1 (congrArg Array.toList h)
theorem Z3d {F : Fence} {P : Program} {fn : Func} {tmps : Array Value} {R : Ending → World → Prop} {ds : List Deferred} : ∀ {f : List Nat} {w : World}, (∀ n ∈ f, w.heap[n]? = some (.deferred (some []))) → f.Nodup →
   (∀ w', (∀ k, k ∉ f → w'.heap[k]? = w.heap[k]?) → w'.heap.size = w.heap.size → w'.os = w.os → w'.tape = w.tape → w'.output = w.output → w'.drawn = w.drawn → LeavesInM F 0 P fn tmps R ds .returning w') → LeavesInM F 0 P fn tmps R (farD f ++ ds) .returning w
 | [], w, _, _, h => h w (fun _ _ => rfl) rfl rfl rfl rfl rfl
 | n :: f, w, hs, hn, h => by
   have hn' := List.nodup_cons.1 hn
   have h6 := hs n (List.mem_cons_self ..)
   refine ⟨(fun h => by cases h), .inl ⟨n, w.putObj n (.deferred none), rfl, run_takeDeferred h6, ?_⟩⟩
   refine Z3d (fun m hm => ?_) hn'.2 fun w' h1 h2 h3 h4 h5 h6 => h w' (fun k hk => ?_) (h2.trans World.putObj_size) h3 h4 h5 h6
   · rw [World.putObj_heap_other (by rintro rfl; exact hn'.1 hm)]
     exact hs m (List.mem_cons_of_mem _ hm)
   · rw [h1 k fun hm => hk (List.mem_cons_of_mem _ hm)]
     exact World.putObj_heap_other (by rintro rfl; exact hk (List.mem_cons_self ..))
theorem Z0u {M : Mx} {F : Fence} {P : Program} {fn : Func} {tmps : Array Value} {R : Ending → World → Prop} {η : Env} {nx : Nat} : ∀ (m : Nat) {l : List SV} {ds : List Deferred} {O : Hps} {w : World} {K : Hps → Prop}, l.length ≤ m → DfL η l ds → HeapOK M η w O nx → Z1y l O K →
   (∀ w' O', HeapOK M η w' O' nx → K O' → LeavesInM F 0 P fn tmps R [] .returning w') → LeavesInM F 0 P fn tmps R ds .returning w
 | _, [], ds, O, w, K, _, hd, H, h, hK => by
   simp only [DfL] at hd
   subst hd
   exact hK w O H h
 | 0, _ :: _, ds, O, w, K, hm, hd, H, h, hK => by simp at hm
 | m + 1, c :: l, ds, O, w, K, hm, hd, H, h, hK => by
   have last : ∀ {j : Nat} {f : List Nat} {e : Ent} {r : List Deferred} {l' : List SV}, l'.length ≤ m → lkp j O = some (.dfr f) → η[j]? = some (some e) → DfL η l' r → Z1y l' (delK j O) K → LeavesInM F 0 P fn tmps R (farD f ++ { target := .collected e.g, args := #[] } :: r) .returning w := by
     intro j f e r l' hm' hj h1 h3 h
     have hs := (H.own.1 j _ hj).1
     simp only [HpSat] at hs
     obtain ⟨e', h4, h5, h6, h7, h8⟩ := hs
     rw [show η.get (.loc j) = some (some e) from h1] at h4
     injection h4 with h4
     injection h4 with h4
     subst h4
     have h8 := List.nodup_cons.1 h8
     refine Z3d h7 h8.2 fun w1 g1 g2 g3 g4 g5 g6 => ?_
     have h6' : w1.heap[e.g]? = some (.deferred (some [])) := (g1 _ h8.1).trans h6
     refine ⟨(fun h => by cases h), .inl ⟨e.g, w1.putObj e.g (.deferred none), rfl, run_takeDeferred h6', ?_⟩⟩
     refine Z0u m hm' h3 (H.drop hj h1 (fun k hk => ?_) (World.putObj_size.trans g2) g3 g4 g5 (by show w.drawn ≤ w1.drawn; omega)) h hK
     rw [World.putObj_heap_other fun e' => hk ⟨e, h1, .inl e'.symm⟩]
     exact g1 k fun hm => hk ⟨e, h1, .inr hm⟩
   simp only [List.length_cons] at hm
   unfold Z1y at h
   split at h
   · rename_i j _ _ _
     split at h
     case h_2 => exact h.out.elim
     rename_i hj
     rw [YV] at h
     simp only [DfL] at hd
     obtain ⟨e, r, h1, rfl, h3⟩ := hd
     exact last (f := []) (by omega) hj h1 h3 h
   · rename_i v
     split at h
     case h_2 => exact h.out.elim
     rename_i j _ _ _ l'
     split at h
     case h_2 => exact h.out.elim
     rename_i f hj
     obtain ⟨hv, h⟩ := h
     rw [YV] at h
     simp only [DfL] at hd
     obtain ⟨f', r', h1, rfl, e, r, h2, rfl, h3⟩ := hd
     obtain rfl := Z8X (hv.symm.trans h1)
     exact last (by simp only [List.length_cons] at hm; omega) hj h2 h3 h
   · exact h.out.elim
theorem Z74 {M : Mx} {F : Fence} {P : Program} {fn : Func} {tmps : Array Value} {R : Ending → World → Prop} {η : Env} {nx : Nat} {fr : Fr} {ds : List Deferred} {O : Hps} {w : World} {K : Hps → Prop} (hd : DfOK η ds (lkp DS fr)) (H : HeapOK M η w O nx) (h : Z2c fr O K)
   (hK : ∀ w' O', HeapOK M η w' O' nx → K O' → LeavesInM F 0 P fn tmps R [] .returning w') : LeavesInM F 0 P fn tmps R ds .returning w := by
 unfold Z2c at h
 split at h
 · rename_i v hv
   rw [hv] at hd
   split at h
   · exact Z0u _ (Nat.le_refl _) hd H h hK
   · rename_i hnd
     have : ds = [] := by
       cases v <;> first | exact hd | exact (hnd _ rfl).elim
     subst this
     exact hK w O H h
 · rename_i hv
   rw [hv] at hd
   have hd : ds = [] := hd
   subst hd
   exact hK w O H h
theorem Z3e {M : Mx} (hT : TabOK M.P M.C.T) {fn : Func} {res : List ResultVar} (hres : fn.results = res.toArray) {K : SV → Hps → Nat → Prop} {η : Env} {fr : Fr} {O : Hps} {nx : Nat} {a : Act} {w : World} (hm : Models M η fr O nx a w)
   (h : Z2c fr O fun O => Z1a M.C fr O res fun vs => K (Z2b vs) O nx) {R : Ending → World → Prop} (hR : ∀ w' O' v r, HeapOK M η w' O' nx → Den η r v → K r O' nx → R (.returned v) w') : LeavesInM Fence.wide 0 M.P fn a.tmps R a.defers .returning w := by
 refine Z74 hm.defers hm.heap h fun w' O' H' hr => ?_
 obtain ⟨svs, rvs, h1, h2, h3⟩ := Z0t hT H' hm.frame hr
 have hrun : (results fn a.tmps).run M.P w' = .ok (if h : rvs.length = 1 then rvs[0]'(by omega) else .tuple ⟨rvs⟩) w' := by
   have hh : (res.toArray.mapM (Z1z a.tmps)).run M.P w' = .ok ⟨rvs⟩ w' := by
     rw [Array.mapM_eq_mapM_toList]
     simp only [Sem.run_map, h3, Result.andThen_ok]
   rw [Z5N, hres]
   simp only [Sem.run_bind, hh, Result.andThen_ok, Sem.run_pure]
   rfl
 have hden : Den η (Z2b svs) (if h : rvs.length = 1 then rvs[0]'(by omega) else .tuple ⟨rvs⟩) := by
   have hl := ZE h2
   match svs, h2, hl with
   | [], h2, hl =>
     simp only [DenL] at h2; subst h2
     simp only [Z2b, Den, DenL]
     exact ⟨[], by simp, rfl⟩
   | [s], h2, hl =>
     simp only [DenL] at h2
     obtain ⟨u, us, rfl, h4, rfl⟩ := h2
     simpa [Z2b] using h4
   | s :: s' :: r, h2, hl =>
     simp only [List.length_cons] at hl
     rw [dif_neg (by omega)]
     simp only [Z2b, Den]
     exact ⟨rvs, rfl, h2⟩
 exact ⟨_, hrun, hR w' O' _ _ H' hden h1⟩
theorem Z75 {n : Nat} {args : List SV} {t : Nat} {v : SV} (h : lkp t (Vx n args) = some v) : n ≤ t ∧ t < n + args.length := by
 induction args generalizing n with
 | nil => simp [Vx, lkp] at h
 | cons a l ih =>
   simp only [Vx, Z7] at h
   split at h
   · rename_i e; subst e; simp
   · have := ih h; simp only [List.length_cons]; omega
theorem Z54 {η : Env} {args : List SV} (h : args.length ≤ DS) : DfOK η [] (lkp DS (Vx 0 args)) := by
 cases hv : lkp DS (Vx 0 args) with
 | none => exact rfl
 | some v => have := Z75 hv; omega
structure DoesW (G : World → Prop) (P : Program) (T : Tab) (f : FuncId) (k : Nat) (args : List SV) (O S : Hps) (Q : SV → Hps → Nat → Prop) : Prop where
 out : ∀ (M : Mx) (vs : List Value), M.P = P → M.C.T = T → M.F = YB M.η0 M.w0 O → M.C.S = shB S → HeapOK M M.η0 M.w0 O k → DenL M.η0 args vs → G M.w0 →
   Invokes M.P f ⟨vs⟩ M.w0 fun v w' => ∃ r O' nx' η', Q r O' nx' ∧ M.η0 <+: η' ∧ HeapOK M η' w' O' nx' ∧ Den η' r v
theorem Does.enterW {G : World → Prop} {P : Program} {T : Tab} {f g : FuncId} {k : Nat} {args : List SV} {O S : Hps} {Q : SV → Hps → Nat → Prop} {fn : Func} {c : Code} (hT : TabOK P T) (hcall : ∀ args w, (callFunc f args).run P w = .ok (.enter g args) w)
   (hf : P.funcs[g]? = some fn) (hb : fn.body = some c) (N : Nat) (hN : fn.ntmps = N) (hlen : Nat.ble args.length N = true) (res : List ResultVar) (hres : fn.results = res.toArray)
   (h : ∀ w0 F η0, η0.length = k → G w0 → F = YB η0 w0 O → run ⟨P, ⟨T, N, shB S, none⟩, w0, F, η0⟩ c (Vx 0 args) O k (endQ ⟨P, ⟨T, N, shB S, none⟩, w0, F, η0⟩ res Q)) (hND : Nat.ble N DS = true := by rfl) : DoesW G P T f k args O S Q := by
 refine ⟨fun M vs hP hT' hF hS H hd hG => .inl ⟨g, by rw [hP]; exact hcall _ _, ?_⟩⟩
 obtain ⟨P', ⟨T', N', S', ro'⟩, w0, F, η0⟩ := M
 simp only at hP hT' hF hS H hd hG ⊢
 subst hP hT' hS
 have hk : η0.length = k := H.len
 have H' : HeapOK ⟨P', ⟨T', N, shB S, none⟩, w0, F, η0⟩ η0 w0 O k := ⟨H.pre, H.len, H.own, H.fr, H.sok⟩
 have hl := ZE hd
 refine callsIn_wide (n := 0) |>.1 (callsIn_of_wp_marks hf hb trivial ?_)
 have hm : Models ⟨P', ⟨T', N, shB S, none⟩, w0, F, η0⟩ η0 (Vx 0 args) O k { tmps := ⟨vs⟩ ++ Array.replicate (fn.ntmps - (Array.mk vs).size) undef, defers := [] } w0 := by
   refine ⟨H', ?_, Nat.le_of_ble_eq_true hND, Z54 (Nat.le_trans (Nat.le_of_ble_eq_true hlen) (Nat.le_of_ble_eq_true hND)) , (fun l j h => by cases h), ?_⟩
   · have := Nat.le_of_ble_eq_true hlen
     simp only [Array.size_append, Array.size_replicate, hN, List.size_toArray]
     show vs.length + (N - vs.length) = N
     omega
   · intro t sv ht
     obtain ⟨v, _, h1, h2⟩ := Z2d hd ht
     have hlt := (List.getElem?_eq_some_iff.1 h1).1
     simp only [Nat.sub_zero] at h1 hlt
     rw [Array.getD_eq_getD_getElem?, Array.getElem?_append_left (by simpa using hlt)]
     have : (Array.mk vs)[t]? = some v := by simpa using h1
     rw [this]; exact h2
 refine Code.wpIn_mono ?_ (ZT hT c (h w0 F η0 hk hG hF) η0 _ w0 hm)
 have fin : ∀ {η1 : Env} {fr1 : Fr} {O1 : Hps} {nx1 : Nat} {a : Act} {w1 : World}, Models ⟨P', ⟨T', N, shB S, none⟩, w0, F, η0⟩ η1 fr1 O1 nx1 a w1 → (Z2c fr1 O1 fun O1 => Z1a ⟨T', N, shB S, none⟩ fr1 O1 res fun vs => Z8V ⟨P', ⟨T', N, shB S, none⟩, w0, F, η0⟩ O1 nx1 Q vs) →
     LeavesInM Fence.wide 0 P' fn a.tmps (fun e w' => ∃ v, e = .returned v ∧ ∃ r O' nx' η', Q r O' nx' ∧ η0 <+: η' ∧ HeapOK ⟨P', ⟨T', N', shB S, ro'⟩, w0, F, η0⟩ η' w' O' nx' ∧ Den η' r v) a.defers .returning w1 := by
   intro η1 fr1 O1 nx1 a w1 hm1 hr
   refine Z3e (M := ⟨P', ⟨T', N, shB S, none⟩, w0, F, η0⟩) (K := fun r O nx => FIN ⟨P', ⟨T', N, shB S, none⟩, w0, F, η0⟩ O nx r Q) hT hres hm1 (by simpa only [Z8W] using hr) fun w2 O2 v r H2 hd2 hk => ?_
   obtain ⟨r', O', nx', η', h5, h6, h7, h8⟩ := hk.out η1 w2 v H2 hd2
   exact ⟨v, rfl, r', O', nx', η', h5, h6, ⟨h7.pre, h7.len, h7.own, h7.fr, h7.sok⟩, h8⟩
 intro e a w hq
 cases e with
 | normal => obtain ⟨η1, fr1, O1, nx1, hm1, hq⟩ := hq; exact fin hm1 hq
 | ret => obtain ⟨η1, fr1, O1, nx1, hm1, hq⟩ := hq; exact fin hm1 hq
 | exit id => obtain ⟨η1, fr1, O1, nx1, hm1, hq⟩ := hq; exact hq.out.elim
 | goto l => exact hq.elim
 | panic ch => exact hq.elim
 | outgrown => exact hq.elim
theorem Does.enter {P : Program} {T : Tab} {f g : FuncId} {k : Nat} {args : List SV} {O S : Hps} {Q : SV → Hps → Nat → Prop} {fn : Func} {c : Code} (hT : TabOK P T) (hcall : ∀ args w, (callFunc f args).run P w = .ok (.enter g args) w)
   (hf : P.funcs[g]? = some fn) (hb : fn.body = some c) (N : Nat) (hN : fn.ntmps = N) (hlen : Nat.ble args.length N = true) (res : List ResultVar) (hres : fn.results = res.toArray)
   (h : ∀ w0 F η0, η0.length = k → run ⟨P, ⟨T, N, shB S, none⟩, w0, F, η0⟩ c (Vx 0 args) O k (endQ ⟨P, ⟨T, N, shB S, none⟩, w0, F, η0⟩ res Q)) (hND : Nat.ble N DS = true := by rfl) : Does P T f k args O S Q :=
 ⟨fun M vs a1 a2 a3 a4 a5 a6 => (Does.enterW (G := fun _ => True) hT hcall hf hb N hN hlen res hres (fun w0 F η0 hk _ _ => h w0 F η0 hk) hND).out M vs a1 a2 a3 a4 a5 a6 trivial⟩
theorem IF.tt {J : Type} {A B : J → Prop} {j : J} (h : A j) : IF true A B j := ⟨fun _ => h, fun e => by cases e⟩
theorem IF.ff {J : Type} {A B : J → Prop} {j : J} (h : B j) : IF false A B j := ⟨fun e => (by cases e), fun _ => h⟩
theorem IF.yes {J : Type} {b : Bool} {A B : J → Prop} {j : J} (e : b = true) (h : A j) : IF b A B j := ⟨fun _ => h, fun e' => by rw [e] at e'; cases e'⟩
theorem IF.no {J : Type} {b : Bool} {A B : J → Prop} {j : J} (e : b = false) (h : B j) : IF b A B j := ⟨fun e' => (by rw [e] at e'; cases e'), fun _ => h⟩
theorem GET.at {rs : List (List SV)} {i : Nat} {K : List SV → Prop} {row : List SV} (h : rs[i]? = some row) (k : K row) : GET rs i K := ⟨row, h, k⟩
theorem GET.map {α : Type} {f : α → List SV} {xs : List α} {i : Nat} {K : List SV → Prop} (h : i < xs.length) (k : K (f xs[i])) : GET (xs.map f) i K := ⟨f xs[i], by simp [List.getElem?_eq_getElem h], k⟩
theorem GETG.map {α : Type} [Inhabited α] {f : α → List SV} {xs : List α} {i : Nat} {g : Prop} {K : List SV → Prop} (h : g → i < xs.length) (k : K (f (xs.getD i default))) : GETG g (xs.map f) i K :=
 ⟨f (xs.getD i default), fun hg => by have := h hg; simp [List.getElem?_eq_getElem this, List.getD], k⟩
def ZM (L : List Nat) (nx : Nat) (j : Nat) : Nat := if j < L.length then L.getD j 0 else nx + (j - L.length)
def YF (ks : List Nat) : Hps → Hps
 | [] => []
 | (i, h) :: r => match ks.any (Nat.beq i) with | true => YF ks r | false => (i, h) :: YF ks r
def renO (σ : Nat → Nat) : Hps → Hps
 | [] => []
 | (i, h) :: r => (σ i, renH σ h) :: renO σ r
def Zi : Hps → List Nat
 | [] => []
 | (i, _) :: r => i :: Zi r
theorem X6 {O : Hps} {i : Nat} {h : Hp} (hi : lkp i O = some h) : i ∈ Zi O := by
 induction O with
 | nil => simp [lkp] at hi
 | cons p O ih =>
   obtain ⟨j, g⟩ := p
   rw [Z7] at hi
   split at hi
   · rename_i e; subst e; exact List.mem_cons_self ..
   · exact List.mem_cons_of_mem _ (ih hi)
theorem VP {ks : List Nat} : ∀ {O : Hps} {i : Nat} {h : Hp}, lkp i (YF ks O) = some h → i ∉ ks ∧ lkp i O = some h
 | [], i, h, hi => by simp [YF, lkp] at hi
 | (j, g) :: O, i, h, hi => by
   unfold YF at hi
   have hany : ks.any (Nat.beq j) = true ↔ j ∈ ks := by
     rw [List.any_eq_true]
     exact ⟨fun ⟨x, hx, hb⟩ => by rw [Zk hb]; exact hx, fun h => ⟨j, h, YW j⟩⟩
   split at hi
   · rename_i hk
     obtain ⟨h1, h2⟩ := VP hi
     refine ⟨h1, ?_⟩
     rw [Z7, if_neg ?_]
     · exact h2
     · intro e; subst e; exact h1 (hany.1 hk)
   · rename_i hk
     rw [Z7] at hi
     split at hi
     · rename_i e
       subst e
       injection hi with hi; subst hi
       refine ⟨fun h => ?_, by rw [Z7, if_pos rfl]⟩
       rw [hany.2 h] at hk; cases hk
     · rename_i e
       obtain ⟨h1, h2⟩ := VP hi
       exact ⟨h1, by rw [Z7, if_neg e]; exact h2⟩
theorem Z55 {σ : Nat → Nat} : ∀ {O : Hps} {i : Nat} {h : Hp}, lkp i (renO σ O) = some h → ∃ j g, lkp j O = some g ∧ σ j = i ∧ h = renH σ g
 | [], i, h, hi => by simp [renO, lkp] at hi
 | (j, g) :: O, i, h, hi => by
   simp only [renO] at hi
   rw [Z7] at hi
   split at hi
   · rename_i e
     injection hi with hi
     exact ⟨j, g, by rw [Z7, if_pos rfl], e.symm, hi.symm⟩
   · rename_i e
     obtain ⟨j1, g1, h1, h2, h3⟩ := Z55 hi
     have hne : j1 ≠ j := by intro e'; subst e'; exact e h2.symm
     exact ⟨j1, g1, by rw [Z7, if_neg hne]; exact h1, h2, h3⟩
theorem X7 {α : Type} {xs ys : List (Nat × α)} {i : Nat} {v : α} (h : lkp i (xs ++ ys) = some v) : lkp i xs = some v ∨ (lkp i xs = none ∧ lkp i ys = some v) := by
 induction xs with
 | nil => exact .inr ⟨rfl, h⟩
 | cons p xs ih =>
   obtain ⟨j, u⟩ := p
   rw [List.cons_append, Z7] at h
   rw [Z7]
   split at h
   · rename_i e; rw [if_pos e]; exact .inl h
   · rename_i e; rw [if_neg e]; exact ih h
theorem Invokes.mono {P : Program} {f : FuncId} {args : Array Value} {w : World} {R R' : Value → World → Prop} (h : Invokes P f args w R) (hr : ∀ v w', R v w' → R' v w') : Invokes P f args w R' := by
 rcases h with ⟨g, h1, h2⟩ | ⟨v, w', h1, h2⟩
 · exact .inl ⟨g, h1, h2.mono fun e w' ⟨v, h3, h4⟩ => ⟨v, h3, hr v w' h4⟩⟩
 · exact .inr ⟨v, w', h1, hr v w' h2⟩
theorem Z8Y {S : Hps} {b : Blk} {h : Hp} (hb : lkpB b (shB S) = some h) : ∃ j, b = .loc j ∧ (j, h) ∈ S := by
 induction S with
 | nil => simp [shB, lkpB] at hb
 | cons p S ih =>
   obtain ⟨j, g⟩ := p
   simp only [shB, List.map_cons, lkpB] at hb
   split at hb
   · rename_i e
     injection hb with hb; subst hb
     exact ⟨j, blkEq_iff.1 e, List.mem_cons_self ..⟩
   · obtain ⟨j', h1, h2⟩ := ih hb
     exact ⟨j', h1, List.mem_cons_of_mem _ h2⟩
theorem CALL.of {M : Mx} {f : FuncId} {args : List SV} {O : Hps} {nx : Nat} {K : SV → Hps → Nat → Prop} {k : Nat} {argsc : List SV} {Oc Sc : Hps} {Q : SV → Hps → Nat → Prop} (L : List Nat) (sp : Does M.P M.C.T f k argsc Oc Sc Q)
   (hL : L.length = k) (hLn : ∀ i ∈ L, i < nx) (ha : args = renL (ZM L nx) argsc) (hb : Y6 k argsc = true)
   (hO : ∀ p ∈ Oc, p.1 < k ∧ lkp (ZM L nx p.1) O = some (renH (ZM L nx) p.2) ∧ Za k p.2 = true)
   (hOn : ∀ j ∈ Zi Oc, ∀ j' ∈ Zi Oc, ZM L nx j = ZM L nx j' → j = j')
   (hS : ∀ p ∈ Sc, p.1 < k ∧ Xw M.C O (.loc (ZM L nx p.1)) = some (renH (ZM L nx) p.2) ∧ Za k p.2 = true ∧ ZM L nx p.1 ∉ (Zi Oc).map (ZM L nx))
   (hK : ∀ r O' nx', Q r O' nx' → K (ren (ZM L nx) r) (renO (ZM L nx) O' ++ YF ((Zi Oc).map (ZM L nx)) O) (nx + (nx' - k))) : CALL M f args O nx K := by
 refine ⟨fun η w vs H hd => ?_⟩
 generalize hσ : ZM L nx = σ at *
 have hσlt : ∀ j, j < k → ∃ y, L[j]? = some (σ j) ∧ σ j < nx ∧ η[σ j]? = some y := by
   intro j hj
   have hj' : j < L.length := by omega
   have e : σ j = L[j] := by rw [← hσ]; simp [ZM, hj', List.getD]
   have hlt : σ j < nx := by rw [e]; exact hLn _ (List.getElem_mem hj')
   refine ⟨η[σ j]'(by rw [H.len]; exact hlt), by rw [e]; exact List.getElem?_eq_getElem hj', hlt, List.getElem?_eq_getElem _⟩
 have hσge : ∀ j, k ≤ j → σ j = nx + (j - k) := by
   intro j hj; rw [← hσ]; simp only [ZM, hL]; rw [if_neg (by omega)]
 obtain ⟨ηc, hηc⟩ : ∃ ηc : Env, ηc = L.map (fun i => (η[i]?).getD none) := ⟨_, rfl⟩
 have hclen : ηc.length = k := by rw [hηc]; simp [hL]
 have hcget : ∀ j, j < k → ηc[j]? = η[σ j]? := by
   intro j hj
   obtain ⟨y, h1, h2, h3⟩ := hσlt j hj
   rw [hηc, List.getElem?_map, h1]
   simp [h3]
 have hbwd : Bwd η ηc σ k := fun j x hj hx => by rw [hcget j hj]; exact hx
 have hdc : DenL ηc argsc vs := DenL.unren hbwd hb (by rw [← ha]; exact hd)
 have hOl : ∀ j h, lkp j Oc = some h → j < k ∧ lkp (σ j) O = some (renH σ h) ∧ Za k h = true := fun j h hj => hO (j, h) (V4 hj)
 have hto : ∀ {j : Nat}, j < k → ∀ {h : Hp} {w : World} {n : Nat}, feet ηc w (.loc j) h n → feet η w (.loc (σ j)) (renH σ h) n := fun {j} hj {h w n} f => f.ren fun x hx => by rw [← hcget j hj]; exact hx
 have hF : ∀ n, YB ηc w Oc n → ∃ j h, lkp j Oc = some h ∧ feet η w (.loc (σ j)) (renH σ h) n ∧ (M.F n ∨ M.w0.heap.size ≤ n) := by
   rintro n ⟨j, h, h1, f⟩
   obtain ⟨p1, p2, _⟩ := hOl j h h1
   exact ⟨j, h, h1, hto p1 f, (H.own.1 _ _ p2).2 n (hto p1 f)⟩
 have Hc : HeapOK { P := M.P, C := { M.C with S := shB Sc }, w0 := w, F := YB ηc w Oc, η0 := ηc } ηc w Oc k := by
   refine ⟨List.prefix_rfl, hclen, ⟨?_, ?_⟩, FrW.refl _ _, ?_⟩
   · intro j h hj
     obtain ⟨p1, p2, p3⟩ := hOl j h hj
     exact ⟨(H.own.1 _ _ p2).1.unren hbwd p1 p3, fun n f => .inl ⟨j, h, hj, f⟩⟩
   · intro j j' h h' n hj hj' hne f f'
     obtain ⟨p1, p2, _⟩ := hOl j h hj
     obtain ⟨q1, q2, _⟩ := hOl j' h' hj'
     exact H.own.2 _ _ _ _ n p2 q2 (fun hh => hne (hOn j (X6 hj) j' (X6 hj') hh)) (hto p1 f) (hto q1 f')
   · intro b h hbl
     cases b with
     | glob g =>
       have hp : XT h = true := List.all_eq_true.1 M.C.T.gplain (g, h) (V4 hbl)
       obtain ⟨s1, s2⟩ := H.sok (.glob g) h hbl
       refine ⟨(H.shared (b := .glob g) hbl).plain hp, fun n f => ?_⟩
       obtain ⟨t1, t2⟩ := s2 g ⟨⟨g, 0, 0⟩, rfl, .inl rfl⟩
       have hw : w.heap[g]? = M.w0.heap[g]? := H.fr.block g t1 t2
       have f0 : feet M.η0 M.w0 (.glob g) h n := by
         obtain ⟨e, h1, h2⟩ := f
         cases h1
         exact ⟨⟨g, 0, 0⟩, rfl, h2.imp id fun h => h.keep hw⟩
       obtain ⟨t1, t2⟩ := s2 n f0
       refine ⟨Nat.lt_of_lt_of_le t1 H.fr.size, fun hbb => ?_⟩
       obtain ⟨_, _, _, _, q4⟩ := hF _ hbb
       rcases q4 with q4 | q4
       · exact t2 q4
       · omega
     | loc j0 =>
     obtain ⟨j, hj0, hm⟩ := Z8Y hbl
     injection hj0 with hj0
     subst j0
     obtain ⟨p1, p2, p3, p4⟩ := hS (j, h) hm
     simp only at p1 p2 p3 p4
     refine ⟨(H.look p2).unren hbwd p1 p3, fun n f => ?_⟩
     have f1 := hto p1 f
     refine ⟨(H.look p2).feet_lt f1, fun hbb => ?_⟩
     obtain ⟨j', h', q1, fq, q4⟩ := hF _ hbb
     obtain ⟨r1, r2, _⟩ := hOl j' h' q1
     simp only [Xw] at p2
     cases ho : lkp (σ j) O with
     | some g =>
       have hne : σ j' ≠ σ j := fun hh => p4 (by rw [← hh]; exact List.mem_map_of_mem (X6 q1))
       rw [ho] at p2
       injection p2 with p2
       subst p2
       exact H.own.2 _ _ _ _ n r2 ho hne fq f1
     | none =>
       rw [ho] at p2
       obtain ⟨s1, s2⟩ := H.sok (.loc (σ j)) _ p2
       obtain ⟨x', hx', _⟩ := s1.lt
       have f2 : feet M.η0 M.w0 (.loc (σ j)) (renH σ h) n := (f1.less H.pre hx').keep fun e he => H.fr.block e.g (s2 e.g (feet.own he)).1 (s2 e.g (feet.own he)).2
       obtain ⟨t1, t2⟩ := s2 n f2
       rcases q4 with q4 | q4
       · exact t2 q4
       · omega
 refine (sp.out { P := M.P, C := { M.C with S := shB Sc }, w0 := w, F := YB ηc w Oc, η0 := ηc } vs rfl rfl rfl rfl Hc hdc).mono ?_
 rintro v w' ⟨r, O', nx', η', hq, hpre, H', hdr⟩
 have hk' : k ≤ nx' := by rw [← H'.len, ← hclen]; exact hpre.length_le
 have hfwd : Fwd η' (η ++ η'.drop k) σ := by
   intro i x hx
   by_cases hi : i < k
   · obtain ⟨y, h1, h2, h3⟩ := hσlt i hi
     rw [List.getElem?_append_left (by rw [H.len]; exact h2)]
     have : η'[i]? = ηc[i]? := by
       obtain ⟨t, rfl⟩ := hpre
       rw [List.getElem?_append_left (by rw [hclen]; exact hi)]
     rw [← hcget i hi, ← this]; exact hx
   · rw [hσge i (by omega), List.getElem?_append_right (by rw [H.len]; omega), H.len, List.getElem?_drop]
     rw [show k + (nx + (i - k) - nx) = i by omega]; exact hx
 have hpre' : η <+: η ++ η'.drop k := List.prefix_append _ _
 have hfr : FrW w w' (YB ηc w Oc) := H'.fr
 refine ⟨ren σ r, _, _, η ++ η'.drop k, hpre', ?_, hdr.ren hfwd, hK r O' nx' hq⟩
 have hin : ∀ {i h}, lkp i (renO σ O') = some h → ∃ j g, lkp j O' = some g ∧ σ j = i ∧ h = renH σ g ∧ HpSat (η ++ η'.drop k) w' true (.loc i) h ∧ ∀ n, feet (η ++ η'.drop k) w' (.loc i) h n → feet η' w' (.loc j) g n ∧ (YB ηc w Oc n ∨ w.heap.size ≤ n) := by
   intro i h hi
   obtain ⟨j, g, h1, h2, h3⟩ := Z55 hi
   obtain ⟨p1, p2⟩ := H'.own.1 j g h1
   obtain ⟨x, hx, _⟩ := p1.lt
   have hx' : (η ++ η'.drop k)[σ j]? = some x := hfwd j x hx
   refine ⟨j, g, h1, h2, h3, ?_, ?_⟩
   · rw [h3, ← h2]; exact p1.ren hfwd
   · intro n f
     rw [h3, ← h2] at f
     have f' : feet η' w' (.loc j) g n := f.unren fun y hy => by rw [hx'] at hy; injection hy with hy; rw [← hy]; exact hx
     exact ⟨f', p2 n f'⟩
 have hout : ∀ {i h}, lkp i (YF ((Zi Oc).map σ) O) = some h → lkp i O = some h ∧ ∀ n, feet η w (.loc i) h n → n < w.heap.size ∧ ¬ YB ηc w Oc n := by
   intro i h hi
   obtain ⟨h1, h2⟩ := VP hi
   refine ⟨h2, fun n f => ⟨(H.own.1 i h h2).1.feet_lt f, fun hbb => ?_⟩⟩
   obtain ⟨j', h', q1, fq, q4⟩ := hF _ hbb
   obtain ⟨r1, r2, _⟩ := hOl j' h' q1
   have hne : σ j' ≠ i := fun hh => h1 (by rw [← hh]; exact List.mem_map_of_mem (X6 q1))
   exact H.own.2 _ _ _ _ n r2 h2 hne fq f
 have hkeep : ∀ {i h}, lkp i (YF ((Zi Oc).map σ) O) = some h → ∀ n, feet η w (.loc i) h n → w'.heap[n]? = w.heap[n]? := fun hi n f => hfr.block n ((hout hi).2 n f).1 ((hout hi).2 n f).2
 have hback : ∀ {i h}, lkp i (YF ((Zi Oc).map σ) O) = some h → ∀ n, feet (η ++ η'.drop k) w' (.loc i) h n → feet η w (.loc i) h n := fun hi n f => H.stands hpre' (hout hi).1 (hkeep hi) f
 refine ⟨H.pre.trans hpre', ?_, ⟨?_, ?_⟩, H.fr.trans hfr (fun n hn => let ⟨_, _, _, _, h⟩ := hF n hn; h), H.sok⟩
 · rw [List.length_append, List.length_drop, H.len, H'.len]
 · intro i h hi
   rcases X7 hi with hi | ⟨_, hi⟩
   · obtain ⟨j, g, h1, h2, h3, h4, h5⟩ := hin hi
     refine ⟨h4, fun n f => ?_⟩
     rcases (h5 n f).2 with hb' | hb'
     · obtain ⟨_, _, _, _, hh⟩ := hF _ hb'; exact hh
     · exact .inr (Nat.le_trans H.fr.size hb')
   · have h3 := H.own.1 i h (hout hi).1
     exact ⟨(h3.1.keep (hkeep hi)).mono hpre', fun n f => h3.2 n (hback hi n f)⟩
 · intro i i' h h' n hi hi' hne f f'
   rcases X7 hi with hi | ⟨_, hi⟩ <;> rcases X7 hi' with hi' | ⟨_, hi'⟩
   · obtain ⟨j, g, h1, h2, h3, h4, h5⟩ := hin hi
     obtain ⟨j', g', h1', h2', h3', h4', h5'⟩ := hin hi'
     exact H'.own.2 j j' g g' n h1 h1' (fun hj => hne (by rw [← h2, ← h2', hj])) (h5 n f).1 (h5' n f').1
   · obtain ⟨j, g, h1, h2, h3, h4, h5⟩ := hin hi
     obtain ⟨h7, h8⟩ := (hout hi').2 n (hback hi' n f')
     rcases (h5 n f).2 with hb' | hb'
     · exact h8 hb'
     · omega
   · obtain ⟨j, g, h1, h2, h3, h4, h5⟩ := hin hi'
     obtain ⟨h7, h8⟩ := (hout hi).2 n (hback hi n f)
     rcases (h5 n f').2 with hb' | hb'
     · exact h8 hb'
     · omega
   · exact H.own.2 i i' h h' n (hout hi).1 (hout hi').1 hne (hback hi n f) (hback hi' n f')
theorem CALL.val {M : Mx} {f : FuncId} {args : List SV} {O : Hps} {nx : Nat} {K : SV → Hps → Nat → Prop} {r : SV} (sp : Does M.P M.C.T f 0 args [] [] fun r' O' nx' => r' = r ∧ O' = [] ∧ nx' = 0) (hp : YG args = true) (hr : plain r = true) (hK : K r O nx) : CALL M f args O nx K := by
 refine CALL.of [] sp rfl (fun i hi => by cases hi) (Yb _ hp).symm (ZJ 0 hp) (fun p hp => by cases hp) (fun j hj => by cases hj) (fun p hp => by cases hp) ?_
 rintro r' O' nx' ⟨rfl, rfl, rfl⟩
 rw [Jm _ hr]
 have : YF ((Zi []).map (ZM [] nx)) O = O := by
   clear hK sp
   induction O with
   | nil => rfl
   | cons p O ih => obtain ⟨i, h⟩ := p; simp only [YF, Zi, List.map_nil, List.any_nil] at ih ⊢; rw [ih]
 rw [this]
 simpa [renO] using hK
def Val (r0 : SV) : SV → Hps → Nat → Prop := fun r O nx => r = r0 ∧ O = [] ∧ nx = 0
theorem CALL.value {M : Mx} {f : FuncId} {args : List SV} {O : Hps} {nx : Nat} {K : SV → Hps → Nat → Prop} {r : SV} (sp : Does M.P M.C.T f 0 args [] [] (Val r)) (hp : YG args = true) (hr : plain r = true) (hK : K r O nx) : CALL M f args O nx K := CALL.val sp hp hr hK
def SubS (C : Cx) (O : Hps) (σ : Nat → Nat) (k : Nat) : Hps → Prop
 | [] => True
 | (i, h) :: r => (Nat.blt i k = true ∧ Xw C O (.loc (σ i)) = some (renH σ h) ∧ Za k h = true) ∧ SubS C O σ k r
theorem SubS.at {C : Cx} {O : Hps} {σ : Nat → Nat} {k : Nat} : ∀ {S : Hps}, SubS C O σ k S → ∀ p ∈ S, p.1 < k ∧ Xw C O (.loc (σ p.1)) = some (renH σ p.2) ∧ Za k p.2 = true
 | [], _, p, hp => by cases hp
 | (i, h) :: r, hs, p, hp => by
   rcases List.mem_cons.1 hp with rfl | hp
   · exact ⟨by simpa [Nat.blt_eq] using hs.1.1, hs.1.2⟩
   · exact SubS.at hs.2 p hp
theorem VQ : ∀ O : Hps, YF [] O = O
 | [] => rfl
 | (i, h) :: O => by
   have ih := VQ O
   simp only [YF, List.any_nil] at ih ⊢
   rw [ih]
theorem CALL.look {M : Mx} {f : FuncId} {args : List SV} {O : Hps} {nx : Nat} {K : SV → Hps → Nat → Prop} {k : Nat} {argsc : List SV} {Sc : Hps} {Q : SV → Hps → Nat → Prop} (L : List Nat) (sp : Does M.P M.C.T f k argsc [] Sc Q)
   (hL : L.length = k) (hLn : L.all (fun i => Nat.blt i nx) = true) (ha : args = renL (ZM L nx) argsc) (hb : Y6 k argsc = true) (hS : SubS M.C O (ZM L nx) k Sc)
   (hK : ∀ r O' nx', Q r O' nx' → K (ren (ZM L nx) r) (renO (ZM L nx) O' ++ O) (nx + (nx' - k))) : CALL M f args O nx K := by
 refine CALL.of L sp hL (fun i hi => by have := List.all_eq_true.1 hLn i hi; simpa [Nat.blt_eq] using this) ha hb (fun p hp => by cases hp) (fun j hj => by cases hj) (fun p hp => ?_) (fun r O' nx' h => ?_)
 · obtain ⟨h1, h2, h3⟩ := hS.at p hp
   exact ⟨h1, h2, h3, fun h => by cases h⟩
 · have := hK r O' nx' h
   simpa [Zi, VQ] using this
def ValK (k : Nat) (r0 : SV) : SV → Hps → Nat → Prop := fun r O nx => r = r0 ∧ O = [] ∧ nx = k
theorem CALL.looks {M : Mx} {f : FuncId} {args : List SV} {O : Hps} {nx : Nat} {K : SV → Hps → Nat → Prop} {k : Nat} {argsc : List SV} {Sc : Hps} {r : SV} (L : List Nat) (sp : Does M.P M.C.T f k argsc [] Sc (ValK k r))
   (hL : L.length = k) (hLn : L.all (fun i => Nat.blt i nx) = true) (ha : args = renL (ZM L nx) argsc) (hb : Y6 k argsc = true) (hS : SubS M.C O (ZM L nx) k Sc) (hK : K (ren (ZM L nx) r) O nx) : CALL M f args O nx K := by
 refine CALL.look L sp hL hLn ha hb hS ?_
 rintro r' O' nx' ⟨rfl, rfl, rfl⟩
 simpa [renO] using hK
theorem Does.says {P : Program} {T : Tab} {f : FuncId} {args : List SV} {r : SV} (h : ∀ η w vs, DenL η args vs → ∃ v, (callFunc f ⟨vs⟩).run P w = .ok (.value v) w ∧ Den η r v) : Does P T f 0 args [] [] (Val r) := by
 refine ⟨fun M vs hP hT hF hS H hd => ?_⟩
 obtain ⟨v, h1, h2⟩ := h M.η0 M.w0 vs hd
 exact .inr ⟨v, M.w0, by rw [hP]; exact h1, r, [], 0, M.η0, ⟨rfl, rfl, rfl⟩, List.prefix_rfl, ⟨H.pre, H.len, ⟨fun i h hi => by simp [lkp] at hi, fun i j h h' n hi => by simp [lkp] at hi⟩, H.fr, H.sok⟩, h2⟩
theorem FIN.val {M : Mx} {O : Hps} {nx k : Nat} {r : SV} {Q : SV → Hps → Nat → Prop} (hk : M.η0.length = k) (hp : plain r = true) (hQ : Q r [] k) : FIN M O nx r Q := by
 refine ⟨fun η w v H hd => ⟨r, [], k, M.η0, hQ, List.prefix_rfl, ⟨List.prefix_rfl, hk, ⟨fun i h hi => by simp [lkp] at hi, fun i j h h' n hi => by simp [lkp] at hi⟩, H.fr, H.sok⟩, ?_⟩⟩
 have hb : Bwd η M.η0 (fun i => i) 0 := fun i x hi => by omega
 exact Den.unren hb (XL 0 hp) (by rw [Jm _ hp]; exact hd)
theorem FIN.value {M : Mx} {O : Hps} {nx : Nat} {r r0 : SV} (hk : M.η0.length = 0) (hp : plain r = true) (hQ : r = r0) : FIN M O nx r (Val r0) := FIN.val hk hp ⟨hQ, rfl, rfl⟩
theorem FIN.valueK {M : Mx} {O : Hps} {nx k : Nat} {r r0 : SV} (hk : M.η0.length = k) (hp : plain r = true) (hQ : r = r0) : FIN M O nx r (ValK k r0) := FIN.val hk hp ⟨hQ, rfl, rfl⟩
def Yh (k : Nat) (τ : List Nat) (j : Nat) : Nat := if j < k then j else τ.getD (j - k) 0
theorem HeapOK.names {M : Mx} {η : Env} {w : World} {O : Hps} {nx k : Nat} (H : HeapOK M η w O nx) (hk : M.η0.length = k) (τ : List Nat) {Oc : Hps} (hτ : ∀ i ∈ τ, i < nx)
   (hO : ∀ p ∈ Oc, p.1 < k + τ.length ∧ lkp (Yh k τ p.1) O = some (renH (Yh k τ) p.2) ∧ Za (k + τ.length) p.2 = true)
   (hn : ∀ j ∈ Zi Oc, ∀ j' ∈ Zi Oc, Yh k τ j = Yh k τ j' → j = j') : ∃ η', M.η0 <+: η' ∧ HeapOK M η' w Oc (k + τ.length) ∧ Bwd η η' (Yh k τ) (k + τ.length) := by
 generalize hσ : Yh k τ = σ at *
 obtain ⟨η', hη'⟩ : ∃ η' : Env, η' = M.η0 ++ τ.map (fun i => (η[i]?).getD none) := ⟨_, rfl⟩
 have hget : ∀ j, j < k + τ.length → η'[j]? = η[σ j]? := by
   intro j hj
   rw [hη', ← hσ]
   by_cases h : j < k
   · rw [List.getElem?_append_left (by omega)]
     simp only [Yh, if_pos h]
     obtain ⟨t, ht⟩ := H.pre
     rw [← ht, List.getElem?_append_left (by omega)]
   · rw [List.getElem?_append_right (by omega), hk, List.getElem?_map]
     have hlt : j - k < τ.length := by omega
     simp only [Yh, if_neg h, List.getElem?_eq_getElem hlt, Option.map_some, List.getD, Option.getD_some]
     have := hτ _ (List.getElem_mem hlt)
     rw [List.getElem?_eq_getElem (by rw [H.len]; exact this)]
     rfl
 have hbwd : Bwd η η' σ (k + τ.length) := fun j x hj hx => by rw [hget j hj]; exact hx
 have hOl : ∀ j h, lkp j Oc = some h → j < k + τ.length ∧ lkp (σ j) O = some (renH σ h) ∧ Za (k + τ.length) h = true := fun j h hj => hO (j, h) (V4 hj)
 refine ⟨η', by rw [hη']; exact List.prefix_append _ _, ⟨by rw [hη']; exact List.prefix_append _ _, by rw [hη']; simp [hk], ⟨?_, ?_⟩, H.fr, H.sok⟩, hbwd⟩
 · intro j h hj
   obtain ⟨p1, p2, p3⟩ := hOl j h hj
   exact ⟨(H.own.1 _ _ p2).1.unren hbwd p1 p3, fun n f => (H.own.1 _ _ p2).2 n (f.ren fun x hx => by rw [← hget j p1]; exact hx)⟩
 · intro j j' h h' n hj hj' hne f f'
   obtain ⟨p1, p2, _⟩ := hOl j h hj
   obtain ⟨q1, q2, _⟩ := hOl j' h' hj'
   exact H.own.2 _ _ _ _ n p2 q2 (fun hh => hne (hn j (X6 hj) j' (X6 hj') hh)) (f.ren fun x hx => by rw [← hget j p1]; exact hx) (f'.ren fun x hx => by rw [← hget j' q1]; exact hx)
theorem FIN.keep {M : Mx} {O : Hps} {nx k : Nat} {r : SV} {Q : SV → Hps → Nat → Prop} (hk : M.η0.length = k) (τ : List Nat) {rc : SV} {Oc : Hps} (hτ : ∀ i ∈ τ, i < nx) (hr : r = ren (Yh k τ) rc) (hb : ZI (k + τ.length) rc = true)
   (hO : ∀ p ∈ Oc, p.1 < k + τ.length ∧ lkp (Yh k τ p.1) O = some (renH (Yh k τ) p.2) ∧ Za (k + τ.length) p.2 = true)
   (hn : ∀ j ∈ Zi Oc, ∀ j' ∈ Zi Oc, Yh k τ j = Yh k τ j' → j = j') (hQ : Q rc Oc (k + τ.length)) : FIN M O nx r Q := by
 refine ⟨fun η w v H hd => ?_⟩
 obtain ⟨η', h1, h2, h3⟩ := H.names hk τ hτ hO hn
 exact ⟨rc, Oc, k + τ.length, η', hQ, h1, h2, Den.unren h3 hb (by rw [← hr]; exact hd)⟩
def SubFr (σ : Nat → Nat) (m : Nat) (fr : Fr) : Fr → Prop
 | [] => True
 | (t, v) :: r => (lkp t fr = some (ren σ v) ∧ ZI m v = true) ∧ SubFr σ m fr r
theorem SubFr.at {σ : Nat → Nat} {m : Nat} {fr : Fr} : ∀ {fr' : Fr}, SubFr σ m fr fr' → ∀ t v, lkp t fr' = some v → lkp t fr = some (ren σ v) ∧ ZI m v = true
 | [], _, t, v, h => by simp [lkp] at h
 | (d, u) :: r, hs, t, v, h => by
   rw [Z7] at h
   split at h
   · rename_i e; subst e; injection h with h; subst h; exact hs.1
   · exact SubFr.at hs.2 t v h
def SubO (σ : Nat → Nat) (m : Nat) (O : Hps) : Hps → Prop
 | [] => True
 | (i, h) :: r => (Nat.blt i m = true ∧ lkp (σ i) O = some (renH σ h) ∧ Za m h = true) ∧ SubO σ m O r
theorem SubO.at {σ : Nat → Nat} {m : Nat} {O : Hps} : ∀ {O' : Hps}, SubO σ m O O' → ∀ p ∈ O', p.1 < m ∧ lkp (σ p.1) O = some (renH σ p.2) ∧ Za m p.2 = true
 | [], _, p, hp => by cases hp
 | (i, h) :: r, hs, p, hp => by
   rcases List.mem_cons.1 hp with rfl | hp
   · exact ⟨by simpa [Nat.blt_eq] using hs.1.1, hs.1.2⟩
   · exact SubO.at hs.2 p hp
def Z4e : Option SV → Bool
 | some (.dfs _) => true
 | _ => false
def UZ (fr fr' : Fr) : Bool := match Z4e (lkp DS fr) with
 | true => Z4e (lkp DS fr')
 | false => !(Z4e (lkp DS fr'))
theorem DfOK.no {η : Env} {ds : List Deferred} {v : Option SV} (h : Z4e v = false) : DfOK η ds v ↔ ds = [] := by
 cases v with
 | none => exact Iff.rfl
 | some v => cases v <;> first | exact Iff.rfl | cases h
theorem DfOK.goes {η η' : Env} {σ : Nat → Nat} {m : Nat} {fr fr' : Fr} {ds : List Deferred} (hb : Bwd η η' σ m) (hd : UZ fr fr' = true) (hf : ∀ v, lkp DS fr' = some v → lkp DS fr = some (ren σ v) ∧ ZI m v = true) (h : DfOK η ds (lkp DS fr)) : DfOK η' ds (lkp DS fr') := by
 unfold UZ at hd
 split at hd
 · cases hv : lkp DS fr' with
   | none => rw [hv] at hd; cases hd
   | some v =>
     rw [hv] at hd
     cases v with
     | dfs l =>
       obtain ⟨h1, h2⟩ := hf _ hv
       rw [h1] at h
       simp only [DfOK, ren] at h ⊢
       exact DfL.unren hb (by simpa only [ZI] using h2) h
     | _ => cases hd
 · rename_i h1
   rw [DfOK.no h1] at h
   rw [DfOK.no (by simpa using hd)]; exact h
def W0 (ro : Option (Nat × Nat)) (σ : Nat → Nat) (m : Nat) : Bool := match ro with
 | none => true
 | some p => Nat.blt p.2 m && Nat.beq (σ p.2) p.2
theorem Z3f {ro : Option (Nat × Nat)} {σ : Nat → Nat} {m l j : Nat} (h : W0 ro σ m = true) (hr : ro = some (l, j)) : j < m ∧ σ j = j := by
 subst hr
 simp only [W0, Bool.and_eq_true, Nat.blt_eq] at h
 exact ⟨h.1, Zk h.2⟩
theorem GOES.keep {M : Mx} {fr : Fr} {O : Hps} {nx k : Nat} {fr' : Fr} {O' : Hps} (hk : M.η0.length = k) (τ : List Nat) (hτ : τ.all (fun i => Nat.blt i nx) = true) (hf : SubFr (Yh k τ) (k + τ.length) fr fr') (hO : SubO (Yh k τ) (k + τ.length) O O')
   (hn : (Zi O').all (fun j => (Zi O').all fun j' => !(Nat.beq (Yh k τ j) (Yh k τ j')) || Nat.beq j j') = true) (hd : UZ fr fr' = true := by rfl) (hro : W0 M.C.ro (Yh k τ) (k + τ.length) = true := by rfl) : GOES M fr O nx fr' O' (k + τ.length) := by
 refine ⟨fun η a w hm => ?_⟩
 obtain ⟨η', h1, h2, h3⟩ := hm.heap.names hk τ (fun i hi => by have := List.all_eq_true.1 hτ i hi; simpa [Nat.blt_eq] using this) hO.at (fun j hj j' hj' he => by
   have := List.all_eq_true.1 (List.all_eq_true.1 hn j hj) j' hj'
   simp only [he, YW, Bool.not_true, Bool.false_or] at this
   exact Zk this)
 refine ⟨η', h2, hm.size, hm.nds, hm.defers.goes h3 hd (fun v hv => hf.at DS v hv), fun l j hj => ?_, fun t v ht => ?_⟩
 · obtain ⟨h4, h5⟩ := Z3f hro hj
   obtain ⟨e, h6, h7⟩ := hm.ro l j hj
   exact ⟨e, h3 j _ h4 (by rw [h5]; exact h6), h7⟩
 obtain ⟨h4, h5⟩ := hf.at t v ht
 exact Den.unren h3 h5 (hm.frame t _ h4)
theorem Does.calls {P : Program} {T : Tab} {g : FuncId} {args : List SV} {r : SV} {vs : List Value} {w : World} (sp : Does P T g 0 args [] [] (Val r)) (eg : ∀ args w, (callFunc g args).run P w = .ok (.enter g args) w) (hd : DenL [] args vs)
   (hg : ∀ g h, lkp g T.globs = some h → HpSat [] w false (.glob g) h ∧ g < w.heap.size) :
   Calls P g ⟨vs⟩ w fun e w' => ∃ v, e = .returned v ∧ Den [] r v ∧ FrW w w' fun _ => False := by
 have H : HeapOK ⟨P, ⟨T, 0, [], none⟩, w, fun _ => False, []⟩ [] w [] 0 := ⟨List.prefix_rfl, rfl, ⟨fun i h hi => by simp [lkp] at hi, fun i j h h' n hi => by simp [lkp] at hi⟩, FrW.refl _ _, fun b h hb => by
   cases b with
   | loc i => simp [lkS, lkpB] at hb
   | glob g =>
     obtain ⟨h1, h2⟩ := hg g h hb
     exact ⟨h1, fun k f => ⟨h1.feet_lt f, fun h => h⟩⟩⟩
 have hF : (fun _ => False : Nat → Prop) = YB [] w [] := by
   funext n; simp [YB, lkp]
 rcases sp.out ⟨P, ⟨T, 0, [], none⟩, w, fun _ => False, []⟩ vs rfl rfl hF rfl H hd with ⟨g', h1, h2⟩ | ⟨v, w', h1, _⟩
 · rw [eg] at h1
   injection h1 with h1 _
   injection h1 with h1 _
   subst h1
   refine h2.mono fun e w' he => ?_
   obtain ⟨v, rfl, r', O', nx', η', ⟨rfl, rfl, rfl⟩, _, h4, h5⟩ := he
   have : η' = [] := List.length_eq_zero_iff.1 h4.len
   subst this
   exact ⟨v, rfl, h5, h4.fr⟩
 · rw [eg] at h1; cases h1
section
variable {σ : Nat → Nat}
theorem Z2h (h : ∀ j, σ j = j) : ∀ b, renB σ b = b
 | .glob g => rfl
 | .loc i => by simp only [renB, h]
mutual
theorem Z1D (h : ∀ j, σ j = j) : ∀ v, ren σ v = v
 | .bool _ => rfl
 | .int _ _ => rfl
 | .str _ => rfl
 | .val _ => rfl
 | .any => rfl
 | .nb _ => rfl
 | .dfs l => by simp only [ren, V8 h l]
 | .yf b => by simp only [ren, Z2h h]
 | .mp b => by simp only [ren, Z2h h]
 | .ptr b _ _ _ => by simp only [ren, Z2h h]
 | .sl b _ _ _ _ => by simp only [ren, Z2h h]
 | .agg cs => by simp only [ren, V8 h cs]
 | .arr _ rs => by simp only [ren, Uj h rs]
 | .tup vs => by simp only [ren, V8 h vs]
 | .ifc _ v => by simp only [ren, Z1D h v]
 | .fn _ a b => by simp only [ren, V8 h a, V8 h b]
theorem V8 (h : ∀ j, σ j = j) : ∀ vs, renL σ vs = vs
 | [] => rfl
 | c :: cs => by simp only [renL, Z1D h c, V8 h cs]
theorem Uj (h : ∀ j, σ j = j) : ∀ vs, YU σ vs = vs
 | [] => rfl
 | c :: cs => by simp only [YU, V8 h c, Uj h cs]
end
theorem Z7e (h : ∀ j, σ j = j) : ∀ fr, renF σ fr = fr
 | [] => rfl
 | (t, v) :: r => by simp only [renF, Z1D h v, Z7e h r]
theorem ZaQ (h : ∀ j, σ j = j) : ∀ c, renC σ c = c
 | .v s => by simp only [renC, Z1D h]
 | .kid _ rs => by simp only [renC, Uj h]
theorem Z58 (h : ∀ j, σ j = j) : ∀ r, Uc σ r = r
 | [] => rfl
 | c :: cs => by simp only [Uc, ZaQ h, Z58 h cs]
theorem Z3k (h : ∀ j, σ j = j) : ∀ r, YP σ r = r
 | [] => rfl
 | c :: cs => by simp only [YP, Z58 h, Z3k h cs]
theorem ZaR (h : ∀ j, σ j = j) : ∀ hp, renH σ hp = hp
 | .deep _ _ _ => by simp only [renH, Z3k h]
 | .box _ => by simp only [renH, V8 h]
 | .rows _ _ => by simp only [renH, Uj h]
 | .siter _ _ => rfl
 | .tbl _ => rfl
 | .bld _ _ _ => rfl
 | .dfr _ => rfl
 | .lp _ _ fr => by simp only [renH, Z7e h]
 | .mp _ => by simp only [renH, Uj h]
end
def CutFr (m : Nat) (fr : Fr) : Fr → Prop
 | [] => True
 | (t, v) :: r => (lkp t fr = some v ∧ ZI m v = true) ∧ CutFr m fr r
def CutO (m : Nat) (O : Hps) : Hps → Prop
 | [] => True
 | (i, h) :: r => (lkp i O = some h ∧ Nat.blt i m = true ∧ Za m h = true) ∧ CutO m O r
theorem CutFr.at {m : Nat} {fr : Fr} : ∀ {fr' : Fr}, CutFr m fr fr' → ∀ t v, lkp t fr' = some v → lkp t fr = some v ∧ ZI m v = true
 | [], _, t, v, h => by simp [lkp] at h
 | (d, u) :: r, hs, t, v, h => by
   rw [Z7] at h
   split at h
   · rename_i e; subst e; injection h with h; subst h; exact hs.1
   · exact CutFr.at hs.2 t v h
theorem CutO.at {m : Nat} {O : Hps} : ∀ {O' : Hps}, CutO m O O' → ∀ i h, lkp i O' = some h → lkp i O = some h ∧ i < m ∧ Za m h = true
 | [], _, t, v, h => by simp [lkp] at h
 | (d, u) :: r, hs, t, v, h => by
   rw [Z7] at h
   split at h
   · rename_i e; subst e; injection h with h; subst h
     exact ⟨hs.1.1, by simpa [Nat.blt_eq] using hs.1.2.1, hs.1.2.2⟩
   · exact CutO.at hs.2 t v h
variable {M : Mx} {fr fr' : Fr} {O O' : Hps} {nx : Nat}
theorem GOES.cut {k : Nat} (m : Nat) (hk : M.η0.length = k) (hkm : Nat.ble k m = true) (hmn : Nat.ble m nx = true) (hf : CutFr m fr fr') (hO : CutO m O O') (hd : UZ fr fr' = true := by rfl) (hro : W0 M.C.ro id m = true := by rfl) : GOES M fr O nx fr' O' m := by
 have hkm := Nat.le_of_ble_eq_true hkm
 have hmn := Nat.le_of_ble_eq_true hmn
 refine ⟨fun η a w hm => ?_⟩
 have hid : ∀ j : Nat, id j = j := fun _ => rfl
 have hbwd : Bwd η (η.take m) id m := fun i x hi hx => by
   simp only [id] at hx
   rw [List.getElem?_take, if_pos hi]; exact hx
 have hlen : (η.take m).length = m := by rw [List.length_take, hm.heap.len]; omega
 refine ⟨η.take m, ⟨?_, hlen, ⟨fun i h hi => ?_, fun i j h h' n hi hj hij f f' => ?_⟩, hm.heap.fr, hm.heap.sok⟩, hm.size, hm.nds, hm.defers.goes hbwd hd (fun v hv => by rw [Z1D hid]; exact hf.at DS v hv), fun l j hj => ?_, fun t v ht => ?_⟩
 · obtain ⟨t, ht⟩ := hm.heap.pre
   refine ⟨t.take (m - k), ?_⟩
   rw [← ht, List.take_append, hk, List.take_of_length_le (l := M.η0) (by omega)]
 · obtain ⟨h1, h2, h3⟩ := hO.at i h hi
   refine ⟨HpSat.unren hbwd h2 h3 ?_, fun n f => (hm.heap.own.1 i h h1).2 n (f.mono (List.take_prefix m η))⟩
   rw [ZaR hid]; exact (hm.heap.own.1 i h h1).1
 · obtain ⟨h1, h2, h3⟩ := hO.at i h hi
   obtain ⟨h4, h5, h6⟩ := hO.at j h' hj
   exact hm.heap.own.2 i j h h' n h1 h4 hij (f.mono (List.take_prefix m η)) (f'.mono (List.take_prefix m η))
 · obtain ⟨h4, _⟩ := Z3f hro hj
   obtain ⟨e, h6, h7⟩ := hm.ro l j hj
   exact ⟨e, hbwd j _ h4 h6, h7⟩
 · obtain ⟨h1, h2⟩ := hf.at t v ht
   exact Den.unren hbwd h2 (by rw [Z1D hid]; exact hm.frame t v h1)
def cutK (fr : Fr) : Fr → Prop
 | [] => True
 | (t, v) :: r => match lkp t fr with
   | some u => u = v ∧ cutK fr r
   | none => False
def Z7f (O : Hps) : Hps → Prop
 | [] => True
 | (i, h) :: r => match lkp i O with
   | some g => g = h ∧ Z7f O r
   | none => False
def JH (m : Nat) : Fr → Bool
 | [] => true
 | (_, v) :: r => ZI m v && JH m r
def Zd (m : Nat) : Hps → Bool
 | [] => true
 | (i, h) :: r => Nat.blt i m && (Za m h && Zd m r)
theorem Z7g {m : Nat} {fr : Fr} : ∀ {fr' : Fr}, cutK fr fr' → JH m fr' = true → CutFr m fr fr'
 | [], _, _ => trivial
 | (t, v) :: r, h, b => by
   simp only [cutK] at h
   simp only [JH, Bool.and_eq_true] at b
   split at h
   · rename_i u hu
     obtain ⟨rfl, h⟩ := h
     exact ⟨⟨hu, b.1⟩, Z7g h b.2⟩
   · exact h.elim
theorem Z7h {m : Nat} {O : Hps} : ∀ {O' : Hps}, Z7f O O' → Zd m O' = true → CutO m O O'
 | [], _, _ => trivial
 | (t, v) :: r, h, b => by
   simp only [Z7f] at h
   simp only [Zd, Bool.and_eq_true] at b
   split at h
   · rename_i u hu
     obtain ⟨rfl, h⟩ := h
     exact ⟨⟨hu, b.1, b.2.1⟩, Z7h h b.2.2⟩
   · exact h.elim
theorem GOES.cutting {k m : Nat} (hk : M.η0.length = k) (hkm : Nat.ble k m = true) (hmn : Nat.ble m nx = true) (hbf : JH m fr' = true) (hbo : Zd m O' = true) (hf : cutK fr fr') (hO : Z7f O O') (hd : UZ fr fr' = true := by rfl) (hro : W0 M.C.ro id m = true := by rfl) : GOES M fr O nx fr' O' m :=
 GOES.cut m hk hkm hmn (Z7g hf hbf) (Z7h hO hbo) hd hro
theorem GOES.trans {fr2 : Fr} {O2 : Hps} {n1 n2 : Nat} (h : GOES M fr O nx fr' O' n1) (k : GOES M fr' O' n1 fr2 O2 n2) : GOES M fr O nx fr2 O2 n2 :=
 ⟨fun η a w hm => let ⟨η1, h1⟩ := h.out η a w hm; k.out η1 a w h1⟩
theorem GOES.nil (t es : Nat) (h0 : lkp t fr = some (.val (.slice none 0 0))) : GOES M fr O nx ((t, .sl (.loc nx) 0 es 0 none) :: fr) ((nx, .rows es []) :: O) (nx + 1) := by
 refine ⟨fun η a w hm => ?_⟩
 have hpre : η <+: η ++ [none] := List.prefix_append _ _
 have hnew : (η ++ [none])[nx]? = some none := by rw [List.getElem?_append_right (by rw [hm.heap.len]; omega), hm.heap.len]; simp
 refine ⟨η ++ [none], hm.heap.push none (fun _ _ => rfl) (Nat.le_refl _) rfl rfl rfl (Nat.le_refl _) (.inl ⟨hnew, rfl⟩) (fun k f => (feet.none (b := .loc nx) hnew f).elim) (fun k f => (feet.none (b := .loc nx) hnew f).elim), hm.size, hm.nds, ?_, VO hpre hm.ro, fun u v hu => ?_⟩
 · have hdf := hm.defers.mono hpre
   rw [Z7]
   split
   · rename_i e
     rw [e, h0, DfOK.no rfl] at hdf
     rw [DfOK.no rfl]; exact hdf
   · exact hdf
 · rw [Z7] at hu
   split at hu
   · rename_i e; subst e; injection hu with hu; subst hu
     have := hm.frame u _ h0
     simp only [Den] at this ⊢
     exact .inl ⟨hnew, this.1, trivial⟩
   · exact Den.mono hpre (hm.frame u v hu)
theorem LOOP.goes {body : Code} {Q : Post} {n1 : Nat} (h : GOES M fr O nx fr' O' n1) (k : LOOP M body fr' O' n1 Q) : LOOP M body fr O nx Q :=
 ⟨fun η a w hm => let ⟨η1, h1⟩ := h.out η a w hm; k.out η1 a w h1⟩
theorem LOOP.nil {body : Code} {Q : Post} (t es : Nat) (h0 : lkp t fr = some (.val (.slice none 0 0))) (k : LOOP M body ((t, .sl (.loc nx) 0 es 0 none) :: fr) ((nx, .rows es []) :: O) (nx + 1) Q) : LOOP M body fr O nx Q := LOOP.goes (GOES.nil t es h0) k
theorem FIN.rows {k : Nat} {r : SV} {Q : SV → Hps → Nat → Prop} (hk : M.η0.length = k) (i es len : Nat) {rs : List (List SV)} (hr : r = .sl (.loc i) 0 es len none) (hO : lkp i O = some (.rows es rs)) (hi : Nat.blt i nx = true) (hp : Zr rs = true)
   (hQ : Q (.sl (.loc k) 0 es len none) [(k, .rows es rs)] (k + 1)) : FIN M O nx r Q := by
 have hi : i < nx := by simpa [Nat.blt_eq] using hi
 have hf : Yh k [i] k = i := by simp [Yh]
 refine FIN.keep hk [i] (rc := .sl (.loc k) 0 es len none) (Oc := [(k, .rows es rs)]) (fun j hj => by simp at hj; omega) (by rw [hr]; simp only [ren, renB, hf]) (by simp [ZI, Ud, Nat.blt_eq]) ?_ ?_ hQ
 · intro p hp'
   simp only [List.mem_singleton] at hp'
   subst hp'
   refine ⟨by simp, ?_, by simp only [Za, Z0 _ hp]⟩
   simp only [renH, hf, Z9 _ hp, hO]
 · intro j hj j' hj' _
   simp [Zi] at hj hj'
   omega
def Z94 (k : Nat) (l : List UInt8) : SV → Hps → Nat → Prop := fun r O nx => r = .sl (.loc k) 0 1 l.length none ∧ O = [(k, .rows 1 (l.map bytesRow))] ∧ nx = k + 1
theorem Z5V (l : List UInt8) : Zr (l.map bytesRow) = true := ZZ _ (fun _ => rfl) l
theorem Z95 {L : List Nat} {nx k : Nat} (hL : L.length = k) : ZM L nx k = nx := by simp [ZM, hL]
theorem CALL.bytes {f : FuncId} {args : List SV} {K : SV → Hps → Nat → Prop} {l : List UInt8} (sp : Does M.P M.C.T f 0 args [] [] (Z94 0 l)) (hp : YG args = true)
   (hK : K (.sl (.loc nx) 0 1 l.length none) ((nx, .rows 1 (l.map bytesRow)) :: O) (nx + 1)) : CALL M f args O nx K := by
 refine CALL.of [] sp rfl (fun i hi => by cases hi) (Yb _ hp).symm (ZJ 0 hp) (fun p hp => by cases hp) (fun j hj => by cases hj) (fun p hp => by cases hp) ?_
 rintro r' O' nx' ⟨rfl, rfl, rfl⟩
 simp only [ren, renB, renO, renH, Z9 _ (Z5V l), Z95 (L := []) (nx := nx) (k := 0) rfl, Zi, List.map_nil, VQ, List.cons_append, List.nil_append]
 exact hK
def Z5W : List Nat → Fr → (Fr → Prop) → Prop
 | [], fr, K => match lkp DS fr with
   | some v => K [(DS, v)]
   | none => K []
 | t :: ts, fr, K => match lkp t fr with
   | some v => Z5W ts fr fun r => K ((t, v) :: r)
   | none => STOP "kept"
def appK : Fr → Fr → (Fr → Prop) → Prop
 | [], r, K => K r
 | (t, v) :: l, r, K => appK l r fun r => K ((t, v) :: r)
def appO : Hps → (Hps → Prop) → Prop
 | [], K => K []
 | (t, v) :: l, K => appO l fun r => K ((t, v) :: r)
theorem Z0H : ∀ {ts : List Nat} {fr : Fr} {K : Fr → Prop}, Z5W ts fr K → ∃ r, K r
 | [], fr, K, h => by
   simp only [Z5W] at h
   split at h
   · exact ⟨_, h⟩
   · exact ⟨_, h⟩
 | t :: ts, fr, K, h => by
   simp only [Z5W] at h
   split at h
   · obtain ⟨r, hr⟩ := Z0H h; exact ⟨_, hr⟩
   · exact h.out.elim
theorem Z2i : ∀ {l r : Fr} {K : Fr → Prop}, appK l r K ↔ K (l ++ r)
 | [], r, K => Iff.rfl
 | (t, v) :: l, r, K => by simp only [appK, List.cons_append, Z2i]
theorem Z59 : ∀ {l : Hps} {K : Hps → Prop}, appO l K ↔ K l
 | [], K => Iff.rfl
 | (t, v) :: l, K => by simp only [appO, Z59]
theorem LOOP.go {body : Code} {Q : Post} (hT : TabOK M.P M.C.T) (ks : List Nat) {X : Type} (P : X → Prop) (chg : X → Fr) (Ox : X → Hps) (n0 : Nat) (μ : X → Nat) (x0 : X) (hP : P x0)
   (h : Z5W ks fr fun fr0 => (appK (chg x0) fr0 fun fr' => appO (Ox x0) fun O' => GOES M fr O nx fr' O' n0) ∧
     ∀ x, P x → appK (chg x) fr0 fun fr1 => appO (Ox x) fun O1 => run M body fr1 O1 n0 fun e fr O nx => match e with
       | .normal => ∃ x', P x' ∧ μ x' < μ x ∧ appK (chg x') fr0 fun fr' => appO (Ox x') fun O' => GOES M fr O nx fr' O' n0
       | e => Q e fr O nx) : LOOP M body fr O nx Q := by
 obtain ⟨fr0, h1, h2⟩ := Z0H h
 simp only [Z2i, Z59] at h1 h2
 exact LOOP.inv hT P (fun x => (chg x ++ fr0, Ox x, n0)) μ x0 hP h1 h2
theorem GETG.at {rs : List (List SV)} {i : Nat} {g : Prop} {K : List SV → Prop} {row : List SV} (h : rs[i]? = some row) (k : K row) : GETG g rs i K := ⟨row, fun _ => h, k⟩
theorem Z8 {a : Int} (h1 : -9223372036854775808 ≤ a) (h2 : a ≤ 9223372036854775807) : IntKind.i64.wrap a = a := IntWalk.i64_in _ ⟨by omega, by omega⟩
theorem Zg {a : Int} (h1 : -2147483648 ≤ a) (h2 : a ≤ 2147483647) : IntKind.i32.wrap a = a := IntWalk.i32_in _ ⟨by omega, by omega⟩
theorem hsB : (∀ (p : Prop) [Decidable p], (decide p = true) = p) ∧ (∀ (p : Prop) [Decidable p], (decide p = false) ↔ ¬ p) ∧ (∀ b : Bool, (¬ b = true) = (b = false)) ∧ (∀ b : Bool, (¬ b = false) = (b = true)) ∧ (∀ a b : Bool, ((!a) = b) ↔ (a = !b)) ∧
   ((!true) = false) ∧ ((!false) = true) ∧ (∀ a b : Bool, ((a && b) = true) = (a = true ∧ b = true)) ∧ (∀ a b : Bool, ((a || b) = true) = (a = true ∨ b = true)) ∧ (∀ a b : Bool, ((a && b) = false) = (a = true → b = false)) ∧ (∀ a b : Bool, ((a || b) = false) = (a = false ∧ b = false)) ∧
   (∀ {α : Type} [BEq α] [LawfulBEq α] (a b : α), ((a != b) = true) ↔ a ≠ b) ∧ (∀ {α : Type} [BEq α] [LawfulBEq α] (a b : α), ((a != b) = false) ↔ a = b) ∧ (∀ {α : Type} [BEq α] [LawfulBEq α] (a b : α), ((a == b) = true) ↔ a = b) ∧ (∀ {α : Type} [BEq α] [LawfulBEq α] (a b : α), ((a == b) = false) ↔ a ≠ b) ∧
   (∀ {α : Type} (a b : α), (a ≠ b) = ¬ (a = b)) ∧ (∀ c : Bool, (bif c then c else false) = c) ∧ (∀ a b : Bool, (bif a then b else false) = (a && b)) ∧ (∀ a b : Bool, (bif a then true else b) = (a || b)) ∧ (∀ a b : Bool, (bif a then b else true) = (!a || b)) ∧ (∀ a b : Bool, (bif a then false else b) = (!a && b)) :=
 ⟨fun p _ => by simp, fun p _ => by simp, fun b => by simp, fun b => by simp, fun a b => by cases a <;> cases b <;> simp, rfl, rfl, fun a b => by simp, fun a b => by simp, fun a b => by simp, fun a b => by simp, fun a b => by simp, fun a b => by simp, fun a b => by simp, fun a b => by simp,
   fun a b => rfl, fun c => by cases c <;> rfl, fun a b => by cases a <;> rfl, fun a b => by cases a <;> rfl, fun a b => by cases a <;> rfl, fun a b => by cases a <;> rfl⟩
theorem hsC : (∀ a b : Int, (¬ a < b) ↔ b ≤ a) ∧ (∀ a b : Int, (¬ a ≤ b) ↔ b < a) ∧ (decide True = true) ∧ (decide False = false) ∧ (∀ {α : Type} (a b : α), (bif true then a else b) = a) ∧ (∀ {α : Type} (a b : α), (bif false then a else b) = b) ∧
   (∀ b : Bool, (true || b) = true) ∧ (∀ b : Bool, (b || true) = true) ∧ (∀ b : Bool, (false || b) = b) ∧ (∀ b : Bool, (b || false) = b) ∧ (∀ b : Bool, (true && b) = b) ∧ (∀ b : Bool, (b && true) = b) ∧ (∀ b : Bool, (false && b) = false) ∧ (∀ b : Bool, (b && false) = false) ∧
   (∀ p : Prop, (True ∨ p) = True) ∧ (∀ p : Prop, (p ∨ True) = True) ∧ (∀ p : Prop, (False ∨ p) = p) ∧ (∀ p : Prop, (p ∨ False) = p) ∧ (∀ p : Prop, (True ∧ p) = p) ∧ (∀ p : Prop, (p ∧ True) = p) ∧ (∀ p : Prop, (False ∧ p) = False) ∧ (∀ p : Prop, (p ∧ False) = False) ∧
   ((¬ True) = False) ∧ ((¬ False) = True) ∧ ((false = true) = False) ∧ ((true = false) = False) ∧ (∀ p q : Prop, (¬ (p ∨ q)) ↔ (¬ p ∧ ¬ q)) ∧ (∀ p q : Prop, (¬ (p ∧ q)) ↔ (p → ¬ q)) ∧ (∀ p : Prop, (¬ ¬ p) ↔ p) :=
 ⟨fun a b => Int.not_lt, fun a b => Int.not_le, by simp, by simp, fun a b => rfl, fun a b => rfl, fun b => by simp, fun b => by simp, fun b => by simp, fun b => by simp, fun b => by simp, fun b => by simp, fun b => by simp, fun b => by simp, fun p => by simp, fun p => by simp, fun p => by simp, fun p => by simp, fun p => by simp, fun p => by simp, fun p => by simp, fun p => by simp,
   by simp, by simp, by simp, by simp, fun p q => by simp, fun p q => by simp, fun p => Classical.not_not⟩
theorem lnB : (∀ {α : Type} (a : α) (l : List α), (a :: l).length = l.length + 1) ∧ (∀ {α : Type}, ([] : List α).length = 0) ∧ (∀ {α : Type} (a b : List α), (a ++ b).length = a.length + b.length) ∧ (∀ p : Prop, (True ∧ p) = p) ∧ (∀ p : Prop, (p ∧ True) = p) :=
 ⟨fun a l => rfl, rfl, fun a b => List.length_append, fun p => by simp, fun p => by simp⟩
theorem Zu {xs : List (List SV)} {m n k b : Nat} (B : Nat) (hb : Nat.ble b B = true) (hB : Nat.ble 1 B = true) (h1 : xs.length = m) (h2 : n ≤ k) (h3 : min (2 * (n + m)) ((n + m) + (n + m) / 4 + 192) * B ≤ 281474976710656) : xs.length = m ∧ n ≤ k ∧ n + m ≤ 9223372036854775807 ∧ min (2 * (n + m)) ((n + m) + (n + m) / 4 + 192) * b ≤ 281474976710656 := by
 have hb := Nat.le_of_ble_eq_true hb
 have hB := Nat.le_of_ble_eq_true hB
 refine ⟨h1, h2, ?_, Nat.le_trans (Nat.mul_le_mul_left _ hb) h3⟩
 have : n + m ≤ min (2 * (n + m)) ((n + m) + (n + m) / 4 + 192) * B := Nat.le_trans (by omega) (Nat.le_mul_of_pos_right _ hB)
 omega
theorem Wv {O : Hps} {b : Blk} {r len : Nat} {lim : Option Nat} {n : Nat} (h : n ≤ len) : (n : Int) ≤ (reach O b r len lim : Nat) := by
 have : len ≤ reach O b r len lim := by
   unfold reach
   split
   · exact Nat.le_refl _
   · split
     · exact Nat.le_max_left _ _
     · exact Nat.le_refl _
 omega
end Go.Sx
namespace Go.Our
open Go.Sx
abbrev Sm (s : List UInt8) : Prop := s.length ≤ 1152921504606846976
abbrev bn (c : UInt8) : Int := (c.toNat : Int)
def Zab (r : Int) : Prop := 0 ≤ r ∧ r ≤ 1114111 ∧ (r < 55296 ∨ 57343 < r)
instance (r : Int) : Decidable (Zab r) := by unfold Zab; infer_instance
def r2 (a b : Int) : Int := a % 32 * 64 + b % 64
def r3 (a b c : Int) : Int := (a % 16 * 64 + b % 64) * 64 + c % 64
def r4 (a b c d : Int) : Int := ((a % 8 * 64 + b % 64) * 64 + c % 64) * 64 + d % 64
def decB (m a b c d : Int) : Int × Int :=
 if a < 128 then (a, 1)
 else if a < 192 then (0, 0)
 else if a < 224 then
   if 2 ≤ m ∧ (128 ≤ b ∧ b < 192) ∧ 128 ≤ r2 a b then (r2 a b, 2) else (0, 0)
 else if a < 240 then
   if 3 ≤ m ∧ (128 ≤ b ∧ b < 192) ∧ (128 ≤ c ∧ c < 192) ∧ 2048 ≤ r3 a b c ∧ (r3 a b c < 55296 ∨ 57343 < r3 a b c) then (r3 a b c, 3) else (0, 0)
 else if a < 248 then
   if 4 ≤ m ∧ (128 ≤ b ∧ b < 192) ∧ (128 ≤ c ∧ c < 192) ∧ (128 ≤ d ∧ d < 192) ∧ 65536 ≤ r4 a b c d ∧ r4 a b c d ≤ 1114111 then (r4 a b c d, 4) else (0, 0)
 else (0, 0)
def Xn (s : List UInt8) (i : Int) : Int × Int := if i < 0 ∨ (s.length : Int) ≤ i then (0, 0) else decB (s.length - i) (XE s i) (XE s (i + 1)) (XE s (i + 2)) (XE s (i + 3))
theorem ZbU (m a b c d : Int) (h : 1 ≤ m) : (decB m a b c d).2 = 0 ∨ 1 ≤ (decB m a b c d).2 ∧ (decB m a b c d).2 ≤ 4 ∧ (decB m a b c d).2 ≤ m := by
 unfold decB
 (repeat' split) <;> simp <;> omega
theorem Z5a (s : List UInt8) (i : Int) : (Xn s i).2 = 0 ∨ 1 ≤ (Xn s i).2 ∧ (Xn s i).2 ≤ 4 ∧ (Xn s i).2 ≤ s.length - i := by
 unfold Xn
 split
 · simp
 · exact ZbU _ _ _ _ _ (by omega)
def chk (s : List UInt8) (i : Nat) : Int :=
 if h : i < s.length ∧ (Xn s i).2 ≠ 0 then chk s (i + (Xn s i).2.toNat) else if i < s.length then i else -1
termination_by s.length - i
decreasing_by have := Z5a s i; omega
structure Tm where
 k : Int
 t : List UInt8
 y : List UInt8
 l : List UInt8
 deriving DecidableEq
structure Qd where
 s : Tm
 p : Tm
 o : Tm
 g : Tm
 deriving DecidableEq
abbrev TmSm (x : Tm) : Prop := Sm x.t ∧ Sm x.y ∧ Sm x.l
abbrev QdSm (q : Qd) : Prop := TmSm q.s ∧ TmSm q.p ∧ TmSm q.o ∧ TmSm q.g
def Tm.sv (x : Tm) : SV := .agg [.int .i64 x.k, .str x.t, .str x.y, .str x.l]
def Qd.sv (q : Qd) : SV := .agg [.int .i64 q.s.k, .str q.s.t, .str q.s.y, .str q.s.l, .int .i64 q.p.k, .str q.p.t, .str q.p.y, .str q.p.l, .int .i64 q.o.k, .str q.o.t, .str q.o.y, .str q.o.l, .int .i64 q.g.k, .str q.g.t, .str q.g.y, .str q.g.l]
def ZC : Tm := ⟨0, [], [], []⟩
end Go.Our
namespace Go.Sx
open Go
def subK (σ : Nat → Nat) (fr : Fr) : Fr → Prop
 | [] => True
 | (t, v) :: r => match lkp t fr with
   | some u => u = ren σ v ∧ subK σ fr r
   | none => False
def Z7i (σ : Nat → Nat) (O : Hps) : Hps → Prop
 | [] => True
 | (i, h) :: r => match lkp (σ i) O with
   | some g => g = renH σ h ∧ Z7i σ O r
   | none => False
theorem Z7j {σ : Nat → Nat} {m : Nat} {fr : Fr} : ∀ {fr' : Fr}, subK σ fr fr' → JH m fr' = true → SubFr σ m fr fr'
 | [], _, _ => trivial
 | (t, v) :: r, h, b => by
   simp only [subK] at h
   simp only [JH, Bool.and_eq_true] at b
   split at h
   · rename_i u hu
     obtain ⟨rfl, h⟩ := h
     exact ⟨⟨hu, b.1⟩, Z7j h b.2⟩
   · exact h.elim
theorem Z7k {σ : Nat → Nat} {m : Nat} {O : Hps} : ∀ {O' : Hps}, Z7i σ O O' → Zd m O' = true → SubO σ m O O'
 | [], _, _ => trivial
 | (t, v) :: r, h, b => by
   simp only [Z7i] at h
   simp only [Zd, Bool.and_eq_true] at b
   split at h
   · rename_i u hu
     obtain ⟨rfl, h⟩ := h
     exact ⟨⟨b.1, hu, b.2.1⟩, Z7k h b.2.2⟩
   · exact h.elim
theorem GOES.keeping {M : Mx} {fr : Fr} {O : Hps} {nx k : Nat} {fr' : Fr} {O' : Hps} (hk : M.η0.length = k) (τ : List Nat) (hτ : τ.all (fun i => Nat.blt i nx) = true)
   (hn : (Zi O').all (fun j => (Zi O').all fun j' => !(Nat.beq (Yh k τ j) (Yh k τ j')) || Nat.beq j j') = true)
   (hbf : JH (k + τ.length) fr' = true) (hbo : Zd (k + τ.length) O' = true) (hf : subK (Yh k τ) fr fr') (hO : Z7i (Yh k τ) O O') (hd : UZ fr fr' = true := by rfl) (hro : W0 M.C.ro (Yh k τ) (k + τ.length) = true := by rfl) : GOES M fr O nx fr' O' (k + τ.length) :=
 GOES.keep hk τ hτ (Z7j hf hbf) (Z7k hO hbo) hn hd hro
theorem ZP {b b' : Blk} {r es n n' : Nat} {lim : Option Nat} (hb : b = b') (hn : n = n') : SV.sl b r es n lim = SV.sl b' r es n' lim := by rw [hb, hn]
theorem Zf {es : Nat} {rs rs' : List (List SV)} {σ : Nat → Nat} (hp : Zr rs' = true) (h : rs = rs') : Hp.rows es rs = renH σ (.rows es rs') := by rw [Yc σ (h := .rows es rs') hp, h]
theorem Does.mono {P : Program} {T : Tab} {f : FuncId} {k : Nat} {args : List SV} {O S : Hps} {Q Q' : SV → Hps → Nat → Prop} (h : Does P T f k args O S Q) (hq : ∀ r O nx, Q r O nx → Q' r O nx) : Does P T f k args O S Q' :=
 ⟨fun M vs h1 h2 h3 h4 h5 h6 => (h.out M vs h1 h2 h3 h4 h5 h6).mono fun v w' ⟨r, O', nx', η', a, b⟩ => ⟨r, O', nx', η', hq _ _ _ a, b⟩⟩
end Go.Sx
namespace Go.Our
open Go.Sx
section
variable {s : List UInt8} {i : Int}
end
abbrev deco (s : List UInt8) (i : Nat) : Nat × Nat := Utf8.decode ⟨s.toArray⟩ i
def Z7N (c : Int) : Prop := c ≤ 32 ∨ c = 60 ∨ c = 62 ∨ c = 34 ∨ c = 123 ∨ c = 125 ∨ c = 124 ∨ c = 94 ∨ c = 96 ∨ c = 92
instance (c : Int) : Decidable (Z7N c) := by unfold Z7N; infer_instance
def Zb0 (c : Int) : Bool := decide (Z7N c)
def anyB (p : Int → Bool) (s : List UInt8) (i : Nat) : Bool :=
 if h : i < s.length then p (XE s i) || anyB p s (i + 1) else false
termination_by s.length - i
def refM (s : List UInt8) : Int :=
 if 65536 < s.length then 2 else if 0 ≤ chk s 0 then 40 else if anyB Zb0 s 0 then 50 else 0
def Z2w (c : Int) : Prop := (97 ≤ c ∧ c ≤ 122) ∨ (65 ≤ c ∧ c ≤ 90)
def SchI (c : Int) : Prop := (48 ≤ c ∧ c ≤ 57) ∨ c = 43 ∨ c = 45 ∨ c = 46
instance (c : Int) : Decidable (Z2w c) := by unfold Z2w; infer_instance
instance (c : Int) : Decidable (SchI c) := by unfold SchI; infer_instance
def schM (s : List UInt8) (i : Nat) : Int :=
 if h : i < s.length then if XE s i = 58 then i else if Z2w (XE s i) ∨ i ≠ 0 ∧ SchI (XE s i) then schM s (i + 1) else 0 else 0
termination_by s.length - i
def iriM (s : List UInt8) : Int := if refM s ≠ 0 then refM s else if schM s 0 = 0 then 51 else 0
def Zb1 (r : Int) : Prop := (65 ≤ r ∧ r ≤ 90) ∨ (97 ≤ r ∧ r ≤ 122) ∨ (192 ≤ r ∧ r ≤ 214) ∨ (216 ≤ r ∧ r ≤ 246) ∨ (248 ≤ r ∧ r ≤ 767) ∨ (880 ≤ r ∧ r ≤ 893) ∨ (895 ≤ r ∧ r ≤ 8191) ∨ (8204 ≤ r ∧ r ≤ 8205) ∨ (8304 ≤ r ∧ r ≤ 8591) ∨ (11264 ≤ r ∧ r ≤ 12271) ∨ (12289 ≤ r ∧ r ≤ 55295) ∨ (63744 ≤ r ∧ r ≤ 64975) ∨ (65008 ≤ r ∧ r ≤ 65533) ∨ (65536 ≤ r ∧ r ≤ 983039)
instance (r : Int) : Decidable (Zb1 r) := by unfold Zb1; infer_instance
def Z5l (r : Int) : Prop := Zb1 r ∨ r = 95
instance (r : Int) : Decidable (Z5l r) := by unfold Z5l; infer_instance
def Z3E (r : Int) : Prop := 48 ≤ r ∧ r ≤ 57
instance (r : Int) : Decidable (Z3E r) := by unfold Z3E; infer_instance
def Z4r (r : Int) : Prop := Z5l r ∨ Z3E r ∨ r = 45 ∨ r = 183 ∨ (768 ≤ r ∧ r ≤ 879) ∨ r = 8255 ∨ r = 8256
instance (r : Int) : Decidable (Z4r r) := by unfold Z4r; infer_instance
def Z5m (r : Int) : Prop := Z5l r ∨ Z3E r
instance (r : Int) : Decidable (Z5m r) := by unfold Z5m; infer_instance
def Zc1 (s : List UInt8) (i e : Nat) : Nat :=
 if h : (Xn s i).2 ≠ 0 ∧ ((Xn s i).1 = 46 ∨ Z4r (Xn s i).1) then
   Zc1 s (i + (Xn s i).2.toNat) (if (Xn s i).1 = 46 then e else i + (Xn s i).2.toNat)
 else e
termination_by s.length - i
decreasing_by
 have := Z5a s i
 omega
def runM (p : Int → Prop) [DecidablePred p] (s : List UInt8) (i : Int) : Int :=
 if (Xn s i).2 = 0 ∨ ¬ p (Xn s i).1 then 0 else (Zc1 s (i.toNat + (Xn s i).2.toNat) (i.toNat + (Xn s i).2.toNat) : Int) - i
def Zc2 (s : List UInt8) : Int := if runM Z5m s 0 = 0 ∨ runM Z5m s 0 ≠ s.length then 60 else 0
def allB (p : Int → Bool) (s : List UInt8) (i : Nat) : Bool := !anyB (fun c => !p c) s i
def Zb2 (c : Int) : Bool := decide (Z2w c)
def Z3F (c : Int) : Bool := decide (Z3E c)
def Zh (pure : Bool) (c : Int) : Bool := Zb2 c || (!pure && Z3F c)
def Z3G (s : List UInt8) (least most : Int) (pure : Bool) : Bool := allB (Zh pure) s 0 && decide (least ≤ s.length ∧ (s.length : Int) ≤ most)
def Z2x (s : List UInt8) : Bool := s == [120] || s == [88]
def Z9g (s : List UInt8) : Bool := Z3G s 5 8 false || Z3G s 4 4 false && Z3F (XE s 0)
def Zb3 (s : List UInt8) : Bool := Z3G s 2 2 true || decide (s.length = 3) && Z3F (XE s 0) && Z3F (XE s 1) && Z3F (XE s 2)
def lowB (c : UInt8) : UInt8 := if 65 ≤ c.toNat ∧ c.toNat ≤ 90 then UInt8.ofNat (c.toNat + 32) else c
def Z3H (s : List UInt8) : List UInt8 := s.map lowB
end Go.Our
