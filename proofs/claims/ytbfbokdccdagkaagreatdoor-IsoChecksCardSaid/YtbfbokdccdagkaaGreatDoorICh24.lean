/- Part 24: MapM. Conditions: as each part says. -/
import Derived.Test.YtbfbokdccdagkaaGreatDoorICh8
set_option linter.unusedVariables false
set_option linter.unusedSimpArgs false
namespace Go.Our
open Go.Sx
abbrev KS : Bool × List CK := (false, [CK.str])
theorem Z5s (a b : List UInt8) : W1 KS (.str a) (.str b) = (a == b) := by simp [W1, JS, ZR, Zn]
theorem Vd (a : List UInt8) : J8 KS (.str a) = true := by simp [J8, JS, ZR, Zn]
def StrRows (rs : List (List SV)) : Prop := ∀ r ∈ rs, ∃ (k : List UInt8) (v : SV), r = [.str k, v]
theorem StrRows.ok {rs : List (List SV)} (h : StrRows rs) : Vy KS rs := fun r hr => let ⟨k, v, e⟩ := h r hr; ⟨_, v, e, Vd k⟩
def valM (rs : List (List SV)) (a : List UInt8) : Option SV := (YP KS (.str a) 0 rs).map Prod.snd
theorem Z3g (key : SV) : ∀ (rs : List (List SV)) (i j : Nat), (YP KS key i rs).map Prod.snd = (YP KS key j rs).map Prod.snd
 | [], i, j => rfl
 | r :: rs, i, j => by
   unfold YP
   split
   · split
     · rfl
     · exact Z3g key rs (i + 1) (j + 1)
   · rfl
theorem J0 (k a : List UInt8) (v : SV) (rs : List (List SV)) : valM ([.str k, v] :: rs) a = if a = k then some v else valM rs a := by
 unfold valM
 conv => lhs; unfold YP
 simp only [Z5s]
 by_cases e : a = k
 · subst e; simp
 · have : (a == k) = false := by simpa using e
   rw [this, if_neg e]
   exact Z3g _ rs 1 0
theorem Z6l {rs : List (List SV)} (h : StrRows rs) (k a : List UInt8) (v : SV) (hk : valM rs k = none) : valM (rs ++ [[.str k, v]]) a = if a = k then some v else valM rs a := by
 induction rs with
 | nil => rw [List.nil_append, J0]
 | cons r rs ih =>
   obtain ⟨k', v', rfl⟩ := h r (List.mem_cons_self ..)
   rw [J0] at hk
   have hne : k ≠ k' := fun e => by rw [if_pos e] at hk; cases hk
   rw [if_neg hne] at hk
   rw [List.cons_append, J0, J0, ih (fun r hr => h r (List.mem_cons_of_mem _ hr)) hk]
   by_cases e : a = k'
   · subst e; rw [if_pos rfl, if_pos rfl, if_neg (fun e => hne e.symm)]
   · rw [if_neg e, if_neg e]
theorem Z2f {k : List UInt8} {v : SV} : ∀ {rs : List (List SV)} (h : StrRows rs) {i j : Nat} {u : SV} (hf : YP KS (.str k) i rs = some (i + j, u)) (a : List UInt8), StrRows (rs.modify j (putV v)) ∧ valM (rs.modify j (putV v)) a = if a = k then some v else valM rs a
 | [], h, i, j, u, hf, a => by simp [YP] at hf
 | r :: rs, h, i, j, u, hf, a => by
   obtain ⟨k', v', rfl⟩ := h r (List.mem_cons_self ..)
   have ht : StrRows rs := fun r hr => h r (List.mem_cons_of_mem _ hr)
   unfold YP at hf
   simp only [Z5s] at hf
   by_cases e : k = k'
   · subst e
     simp at hf
     obtain ⟨rfl, _⟩ := hf
     rw [List.modify_zero_cons]
     refine ⟨fun r hr => ?_, ?_⟩
     · rcases List.mem_cons.1 hr with rfl | hr
       · exact ⟨k, v, rfl⟩
       · exact ht r hr
     · show valM ([.str k, v] :: rs) a = _
       rw [J0, J0]
       by_cases e : a = k
       · rw [if_pos e, if_pos e]
       · rw [if_neg e, if_neg e, if_neg e]
   · have hb : (k == k') = false := by simpa using e
     rw [hb] at hf
     simp only at hf
     cases j with
     | zero =>
       have hge : ∀ (rs : List (List SV)) (m n : Nat) (x : SV), YP KS (.str k) m rs = some (n, x) → m ≤ n := by
         intro rs
         induction rs with
         | nil => intro m n x hh; simp [YP] at hh
         | cons r rs ih =>
           intro m n x hh
           unfold YP at hh
           split at hh
           · split at hh
             · injection hh with hh; injection hh with h1 h2; omega
             · have := ih _ _ _ hh; omega
           · cases hh
       have := hge _ _ _ _ hf
       omega
     | succ j =>
       obtain ⟨h1, h2⟩ := Z2f ht (i := i + 1) (j := j) (u := u) (by rw [hf, show i + 1 + j = i + (j + 1) by omega]) a
       rw [List.modify_succ_cons]
       refine ⟨fun r hr => ?_, ?_⟩
       · rcases List.mem_cons.1 hr with rfl | hr
         · exact ⟨k', v', rfl⟩
         · exact h1 r hr
       · rw [J0, J0, h2]
         by_cases e2 : a = k'
         · subst e2; rw [if_pos rfl, if_pos rfl, if_neg (fun e3 => e e3.symm)]
         · rw [if_neg e2, if_neg e2]
theorem Z7a {rs : List (List SV)} (h : StrRows rs) (k : List UInt8) (v : SV) (a : List UInt8) : StrRows (setM KS (.str k) v rs) ∧ valM (setM KS (.str k) v rs) a = if a = k then some v else valM rs a := by
 unfold setM
 cases hf : YP KS (.str k) 0 rs with
 | none =>
   simp only
   refine ⟨fun r hr => ?_, Z6l h k a v (by unfold valM; rw [hf]; rfl)⟩
   rcases List.mem_append.1 hr with hr | hr
   · exact h r hr
   · have := List.mem_singleton.1 hr; subst this; exact ⟨k, v, rfl⟩
 | some x =>
   obtain ⟨j, u⟩ := x
   simp only
   exact Z2f h (i := 0) (j := j) (u := u) (by rw [hf, Nat.zero_add]) a
def J7 (ps : List Pr) : Nat → List (List SV)
 | 0 => []
 | n + 1 => setM KS (.str (ps.getD (ps.length - (n + 1)) ([], [])).1) (.int .i64 ((ps.length - (n + 1) : Nat) : Int)) (J7 ps n)
theorem JC (ps : List Pr) : ∀ n, StrRows (J7 ps n)
 | 0 => fun r hr => by cases hr
 | n + 1 => (Z7a (JC ps n) _ _ []).1
theorem Z3h (ps : List Pr) (a : List UInt8) : ∀ n, n ≤ ps.length → valM (J7 ps n) a = ((ps.drop (ps.length - n)).findIdx? fun p => decide (p.1 = a)).map fun i => SV.int .i64 ((ps.length - n + i : Nat) : Int)
 | 0, h => by rw [Nat.sub_zero, List.drop_length]; rfl
 | n + 1, h => by
   have hlt : ps.length - (n + 1) < ps.length := by omega
   have hd : ps.drop (ps.length - (n + 1)) = ps[ps.length - (n + 1)] :: ps.drop (ps.length - n) := by
     rw [List.drop_eq_getElem_cons hlt, show ps.length - (n + 1) + 1 = ps.length - n by omega]
   have hg : ps.getD (ps.length - (n + 1)) ([], []) = ps[ps.length - (n + 1)] := by simp [List.getD, hlt]
   unfold J7
   rw [(Z7a (JC ps n) _ _ a).2, Z3h ps a n (by omega), hd, hg, List.findIdx?_cons]
   by_cases e : ps[ps.length - (n + 1)].1 = a
   · rw [if_pos e.symm, decide_eq_true e]; simp
   · rw [if_neg (fun h => e h.symm), decide_eq_false e]
     simp only [Bool.false_eq_true, if_false, Option.map_map]
     congr 1
     funext i
     simp only [Function.comp]
     rw [show ps.length - (n + 1) + (i + 1) = ps.length - n + i by omega]
theorem Z5t (ps : List Pr) (a : List UInt8) : valM (J7 ps ps.length) a = (ps.findIdx? fun p => decide (p.1 = a)).map fun (i : Nat) => SV.int .i64 (i : Int) := by
 have := Z3h ps a ps.length (Nat.le_refl _)
 simpa using this
end Go.Our
