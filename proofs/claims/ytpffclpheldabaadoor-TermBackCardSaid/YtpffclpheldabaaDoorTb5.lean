/- TermBack: the row and its card out of the walk. Conditions: none beyond the statement's own. -/
import Derived.Test.YtpffclpheldabaaDoorCards
import Derived.Test.YtpffclpheldabaaDoorTie
import Derived.Test.YtpffclpheldabaaDoorTb4
/- Language tags: letters great or small; what stands in them. No program in sight. -/
set_option linter.unusedVariables false
set_option linter.unusedSimpArgs false
namespace Go.Our
open Go.Sx
theorem byte_eq {c d : UInt8} (h : c.toNat = d.toNat) : c = d := UInt8.toNat.inj h
theorem lowB_toNat (c : UInt8) : (lowB c).toNat = if 65 ≤ c.toNat ∧ c.toNat ≤ 90 then c.toNat + 32 else c.toNat := by
  have := c.toNat_lt
  unfold lowB
  split
  · rw [UInt8.toNat_ofNat_of_lt' (by show c.toNat + 32 < 256; omega)]
  · rfl
theorem lowB_low (c : UInt8) : lowB (lowB c) = lowB c := by
  apply byte_eq
  rw [lowB_toNat, lowB_toNat]
  (repeat' split) <;> omega
theorem lower_low (s : List UInt8) : lowerM (lowerM s) = lowerM s := by
  unfold lowerM
  rw [List.map_map]
  congr 1
  funext c
  exact lowB_low c
theorem lower_len (s : List UInt8) : (lowerM s).length = s.length := by simp [lowerM]
theorem lowB_45 (c : UInt8) : lowB c = 45 ↔ c = 45 := by
  constructor
  · intro h
    have := congrArg UInt8.toNat h
    rw [lowB_toNat] at this
    apply byte_eq
    show c.toNat = 45
    have h2 : (45 : UInt8).toNat = 45 := rfl
    split at this <;> omega
  · rintro rfl; rfl
theorem letterB_low (c : UInt8) : letterB (bn (lowB c)) = letterB (bn c) := decide_eq_decide.2 (by
  unfold LetterI bn
  rw [lowB_toNat]
  split <;> omega)
theorem digitB_low (c : UInt8) : digitB (bn (lowB c)) = digitB (bn c) := decide_eq_decide.2 (by
  unfold DigitI bn
  rw [lowB_toNat]
  split <;> omega)
theorem partB_low (pure : Bool) (c : UInt8) : partB pure (bn (lowB c)) = partB pure (bn c) := by
  unfold partB; rw [letterB_low, digitB_low]
theorem byteAt_low (s : List UInt8) (i : Nat) : byteAt (lowerM s) i = bn (lowB (s.getD i 0)) := by
  unfold byteAt lowerM
  rw [Int.toNat_natCast, List.getD_eq_getElem?_getD, List.getElem?_map, List.getD_eq_getElem?_getD]
  cases s[i]? <;> rfl
theorem byteAt_bn (s : List UInt8) (i : Nat) : byteAt s i = bn (s.getD i 0) := by unfold byteAt; rw [Int.toNat_natCast]
theorem allB_all (p : Int → Bool) : ∀ s : List UInt8, allB p s 0 = s.all fun c => p (bn c)
  | s => by
    have key : ∀ (n i : Nat), s.length - i = n → allB p s i = (s.drop i).all fun c => p (bn c) := by
      intro n
      induction n with
      | zero => intro i h; rw [allB_end (by omega), List.drop_eq_nil_of_le (by omega)]; rfl
      | succ n ih =>
        intro i h
        rw [allB_at (by omega), drop_cons (by omega), List.all_cons, ih (i + 1) (by omega), byteAt_bn]
    exact key _ 0 rfl
theorem made_low (s : List UInt8) (a b : Int) (pure : Bool) : madeM (lowerM s) a b pure = madeM s a b pure := by
  unfold madeM
  rw [allB_all, allB_all, lower_len]
  congr 1
  unfold lowerM
  rw [List.all_map]
  congr 1
  funext c
  exact partB_low pure c
theorem private_low (s : List UInt8) : privateM (lowerM s) = privateM s := by
  rw [private_lower, private_lower, lower_low]
theorem variant_low (s : List UInt8) : variantM (lowerM s) = variantM s := by
  unfold variantM
  rw [made_low, made_low]
  have h : byteAt (lowerM s) 0 = bn (lowB (s.getD 0 0)) := byteAt_low s 0
  have h2 : byteAt s 0 = bn (s.getD 0 0) := byteAt_bn s 0
  rw [h, h2, digitB_low]
theorem region_low (s : List UInt8) : regionM (lowerM s) = regionM s := by
  unfold regionM
  rw [made_low, lower_len]
  have h0 : byteAt (lowerM s) 0 = bn (lowB (s.getD 0 0)) := byteAt_low s 0
  have h1 : byteAt (lowerM s) 1 = bn (lowB (s.getD 1 0)) := byteAt_low s 1
  have h2 : byteAt (lowerM s) 2 = bn (lowB (s.getD 2 0)) := byteAt_low s 2
  have g0 : byteAt s 0 = bn (s.getD 0 0) := byteAt_bn s 0
  have g1 : byteAt s 1 = bn (s.getD 1 0) := byteAt_bn s 1
  have g2 : byteAt s 2 = bn (s.getD 2 0) := byteAt_bn s 2
  rw [h0, h1, h2, g0, g1, g2, digitB_low, digitB_low, digitB_low]
theorem single_low (s : List UInt8) : singleM (lowerM s) = singleM s := by unfold singleM; rw [made_low, private_low]
theorem span_low (a : Int) : ∀ l : List (List UInt8), spanM (partOK a) (l.map lowerM) = spanM (partOK a) l
  | [] => rfl
  | s :: l => by
    simp only [List.map_cons, spanM, partOK, made_low]
    have := span_low a l
    unfold partOK at this
    rw [this]
theorem ext_low : ∀ (n : Nat) (l : List (List UInt8)), extP n (l.map lowerM) = (extP n l).map lowerM
  | 0, l => rfl
  | _ + 1, [] => rfl
  | n + 1, s :: l => by
    simp only [List.map_cons, extP, made_low]
    split
    · exact ext_low n l
    · rfl
theorem lang_low (l : List (List UInt8)) : langP (l.map lowerM) = (langP l).map (List.map lowerM) := by
  cases l with
  | nil => rfl
  | cons s l =>
    simp only [List.map_cons, langP, made_low, lower_len]
    split
    · split
      · rfl
      · rw [ext_low]; rfl
    · rfl
theorem skip_low {p : List UInt8 → Bool} (hp : ∀ s, p (lowerM s) = p s) (l : List (List UInt8)) : skipIf p (l.map lowerM) = (skipIf p l).map lowerM := by
  cases l with
  | nil => rfl
  | cons s l =>
    simp only [List.map_cons, skipIf, hp]
    split <;> rfl
theorem vars_low : ∀ (l seen : List (List UInt8)), varsP seen (l.map lowerM) = (varsP seen l).map fun x => (x.1.map lowerM, x.2)
  | [], seen => rfl
  | s :: l, seen => by
    simp only [List.map_cons, varsP, variant_low, lower_low]
    split
    · split
      · rfl
      · exact vars_low l _
    · rfl
theorem exts_low : ∀ (n : Nat) (l seen : List (List UInt8)), l.length ≤ n → extsP seen (l.map lowerM) = (extsP seen l).map (List.map lowerM)
  | 0, [], seen, _ => by simp [extsP]
  | 0, s :: l, seen, h => by simp at h
  | n + 1, [], seen, _ => by simp [extsP]
  | n + 1, s :: l, seen, h => by
    simp only [List.length_cons] at h
    rw [List.map_cons, extsP, extsP]
    simp only [single_low, span_low, lower_low]
    split
    · split
      · rfl
      · rw [← List.map_drop, exts_low n _ _ (by simp; omega)]
    · rfl
theorem last_low (l : List (List UInt8)) : lastP (l.map lowerM) = lastP l := by
  cases l with
  | nil => rfl
  | cons s l => simp only [List.map_cons, lastP, private_low, span_low, List.length_map]
theorem head_low (l : List (List UInt8)) : headIs privateM (l.map lowerM) = headIs privateM l := by
  cases l with
  | nil => rfl
  | cons s l => simp only [List.map_cons, headIs, private_low]
theorem rest_low (l : List (List UInt8)) : restP (l.map lowerM) = (restP l).map (List.map lowerM) := by
  unfold restP
  rw [skip_low (fun s => made_low s 4 4 true), skip_low region_low, vars_low]
  cases varsP [] (skipIf regionM (skipIf (fun s => madeM s 4 4 true) l)) with
  | none => rfl
  | some x => exact exts_low _ _ _ (Nat.le_refl _)
theorem tag_low (l : List (List UInt8)) : tagP (l.map lowerM) = tagP l := by
  unfold tagP
  rw [head_low, last_low, lang_low]
  split
  · rfl
  · cases langP l with
    | none => rfl
    | some l =>
      simp only [Option.map_some, rest_low]
      cases restP l with
      | none => rfl
      | some l => simp only [Option.map_some, last_low]
theorem split_low : ∀ s : List UInt8, splitM (lowerM s) = (splitM s).map lowerM
  | [] => rfl
  | c :: t => by
    have ih := split_low t
    have hne := split_ne t
    have e : lowerM (c :: t) = lowB c :: lowerM t := rfl
    rw [e, splitM, splitM]
    by_cases h : c = 45
    · rw [if_pos ((lowB_45 c).2 h), if_pos h, ih]; rfl
    · rw [if_neg (fun hh => h ((lowB_45 c).1 hh)), if_neg h, ih]
      cases hc : splitM t with
      | nil => exact (hne hc).elim
      | cons a r => rfl
/-- A tag in lower case is one just if it is one. -/
theorem tag_lower (s : List UInt8) : tagP (splitM (lowerM s)) = tagP (splitM s) := by rw [split_low, tag_low]

/-! ### What stands in a tag -/
abbrev okP (p : List UInt8) : Prop := ∀ c ∈ p, partB false (bn c) = true
theorem made_ok {s : List UInt8} {a b : Int} {pure : Bool} (h : madeM s a b pure = true) : okP s := by
  unfold madeM at h
  rw [allB_all, Bool.and_eq_true, List.all_eq_true] at h
  intro c hc
  have := h.1 c hc
  unfold partB at this ⊢
  cases pure <;> simp_all
theorem private_ok {s : List UInt8} (h : privateM s = true) : okP s := by
  unfold privateM at h
  simp only [Bool.or_eq_true, beq_iff_eq] at h
  rcases h with rfl | rfl
  · intro c hc; rw [List.mem_singleton.1 hc]; decide
  · intro c hc; rw [List.mem_singleton.1 hc]; decide
theorem span_ok {a : Int} : ∀ {l : List (List UInt8)}, (∀ p ∈ l.drop (spanM (partOK a) l), okP p) → ∀ p ∈ l, okP p
  | [], _, p, hp => by cases hp
  | s :: l, h, p, hp => by
    unfold spanM at h
    split at h
    · rename_i h1
      rcases List.mem_cons.1 hp with rfl | hp
      · exact made_ok h1
      · exact span_ok (by simpa using h) p hp
    · exact h p (by simpa using hp)
theorem last_ok {l : List (List UInt8)} (h : lastP l = true) : ∀ p ∈ l, okP p := by
  cases l with
  | nil => intro p hp; cases hp
  | cons s l =>
    simp only [lastP] at h
    split at h
    · rename_i h1
      have h := of_decide_eq_true h
      intro p hp
      rcases List.mem_cons.1 hp with rfl | hp
      · exact private_ok h1
      · exact span_ok (a := 1) (by rw [h.2, List.drop_length]; intro p hp; cases hp) p hp
    · cases h
theorem ext_ok : ∀ {n : Nat} {l : List (List UInt8)}, (∀ p ∈ extP n l, okP p) → ∀ p ∈ l, okP p
  | 0, l, h => h
  | _ + 1, [], h => h
  | n + 1, s :: l, h => by
    unfold extP at h
    split at h
    · rename_i h1
      intro p hp
      rcases List.mem_cons.1 hp with rfl | hp
      · exact made_ok h1
      · exact ext_ok h p hp
    · exact h
theorem lang_ok {l l' : List (List UInt8)} (h : langP l = some l') (hl : ∀ p ∈ l', okP p) : ∀ p ∈ l, okP p := by
  cases l with
  | nil => intro p hp; cases hp
  | cons s l =>
    simp only [langP] at h
    split at h
    · rename_i h1
      intro p hp
      rcases List.mem_cons.1 hp with rfl | hp
      · exact made_ok h1
      · split at h
        · cases h; exact hl p hp
        · cases h; exact ext_ok hl p hp
    · cases h
theorem skip_ok {q : List UInt8 → Bool} (hq : ∀ s, q s = true → okP s) {l : List (List UInt8)} (h : ∀ p ∈ skipIf q l, okP p) : ∀ p ∈ l, okP p := by
  cases l with
  | nil => intro p hp; cases hp
  | cons s l =>
    simp only [skipIf] at h
    split at h
    · rename_i h1
      intro p hp
      rcases List.mem_cons.1 hp with rfl | hp
      · exact hq _ h1
      · exact h p hp
    · exact h
theorem region_ok {s : List UInt8} (h : regionM s = true) : okP s := by
  unfold regionM at h
  simp only [Bool.or_eq_true, Bool.and_eq_true, decide_eq_true_eq] at h
  rcases h with h | ⟨⟨⟨h, h0⟩, h1⟩, h2⟩
  · exact made_ok h
  · have g0 : byteAt s 0 = bn (s.getD 0 0) := byteAt_bn s 0
    have g1 : byteAt s 1 = bn (s.getD 1 0) := byteAt_bn s 1
    have g2 : byteAt s 2 = bn (s.getD 2 0) := byteAt_bn s 2
    rw [g0] at h0; rw [g1] at h1; rw [g2] at h2
    match s, h with
    | [a, b, c], _ =>
      intro x hx
      simp only [List.mem_cons, List.not_mem_nil, or_false] at hx
      unfold partB
      rcases hx with rfl | rfl | rfl
      · simpa using .inr h0
      · simpa using .inr h1
      · simpa using .inr h2
theorem variant_ok {s : List UInt8} (h : variantM s = true) : okP s := by
  unfold variantM at h
  simp only [Bool.or_eq_true, Bool.and_eq_true] at h
  rcases h with h | h
  · exact made_ok h
  · exact made_ok h.1
theorem vars_ok : ∀ {l seen l' seen' : List (List UInt8)}, varsP seen l = some (l', seen') → (∀ p ∈ l', okP p) → ∀ p ∈ l, okP p
  | [], _, _, _, _, _, p, hp => by cases hp
  | s :: l, seen, l', seen', h, hl, p, hp => by
    unfold varsP at h
    split at h
    · rename_i h1
      split at h
      · cases h
      · rcases List.mem_cons.1 hp with rfl | hp
        · exact variant_ok h1
        · exact vars_ok h hl p hp
    · cases h; exact hl p hp
theorem exts_ok : ∀ (n : Nat) {l seen l' : List (List UInt8)}, l.length ≤ n → extsP seen l = some l' → (∀ p ∈ l', okP p) → ∀ p ∈ l, okP p
  | _, [], _, _, _, _, _, p, hp => by cases hp
  | 0, s :: l, _, _, h, _, _, _, _ => by simp at h
  | n + 1, s :: l, seen, l', hn, h, hl, p, hp => by
    simp only [List.length_cons] at hn
    rw [extsP] at h
    split at h
    · rename_i h1
      split at h
      · cases h
      · rcases List.mem_cons.1 hp with rfl | hp
        · unfold singleM at h1; rw [Bool.and_eq_true] at h1; exact made_ok h1.1
        · exact span_ok (exts_ok n (by simp; omega) h hl) p hp
    · cases h; exact hl p hp
theorem tag_ok {l : List (List UInt8)} (h : tagP l = true) : ∀ p ∈ l, okP p := by
  unfold tagP at h
  split at h
  · exact last_ok h
  · split at h
    · cases h
    · rename_i l1 h1
      split at h
      · cases h
      · rename_i l2 h2
        unfold restP at h2
        split at h2
        · cases h2
        · rename_i l3 seen h3
          exact lang_ok h1 (skip_ok (fun s hs => made_ok hs) (skip_ok (fun s hs => region_ok hs) (vars_ok h3 (exts_ok _ (Nat.le_refl _) h2 (last_ok h)))))
theorem split_mem : ∀ {s : List UInt8}, (∀ p ∈ splitM s, okP p) → ∀ c ∈ s, langB (bn c)
  | [], _, c, hc => by cases hc
  | x :: t, h, c, hc => by
    have hne := split_ne t
    rw [splitM] at h
    by_cases h45 : x = 45
    · rw [if_pos h45] at h
      rcases List.mem_cons.1 hc with rfl | hc
      · rw [h45]; unfold langB; decide
      · exact split_mem (fun p hp => h p (List.mem_cons_of_mem _ hp)) c hc
    · rw [if_neg h45] at h
      cases hs : splitM t with
      | nil => exact (hne hs).elim
      | cons a r =>
        rw [hs] at h
        simp only at h
        have hx := h (x :: a) List.mem_cons_self
        rcases List.mem_cons.1 hc with rfl | hc
        · have h1 := hx c List.mem_cons_self
          unfold partB letterB digitB LetterI DigitI at h1
          unfold langB
          simp only [Bool.or_eq_true, Bool.and_eq_true, Bool.not_false, true_and] at h1
          rcases h1 with h1 | h1
          · have := of_decide_eq_true h1; omega
          · have := of_decide_eq_true h1; omega
        · refine split_mem (fun p hp => ?_) c hc
          rw [hs] at hp
          rcases List.mem_cons.1 hp with rfl | hp
          · exact fun y hy => hx y (List.mem_cons_of_mem _ hy)
          · exact h p (List.mem_cons_of_mem _ hp)
/-- What stands in a tag may stand behind an @. -/
theorem tag_lang {s : List UInt8} (h : tagP (splitM s) = true) : ∀ c ∈ s, langB (bn c) := split_mem (tag_ok h)
end Go.Our
/- Terms and texts there and back, in plain words. No program in sight. -/
set_option linter.unusedVariables false
set_option linter.unusedSimpArgs false
namespace Go.Our
open Go.Sx
/-! ### Behind a text -/
section
variable (A B : List UInt8)
theorem drop_app (i : Nat) : (A ++ B).drop (A.length + i) = B.drop i := by rw [List.drop_append]; simp
theorem byteAt_app (i : Nat) : byteAt (A ++ B) (A.length + i : Nat) = byteAt B i := by
  unfold byteAt
  rw [Int.toNat_natCast, Int.toNat_natCast]
  rw [List.getD_eq_getElem?_getD, List.getD_eq_getElem?_getD, List.getElem?_append_right (by omega), Nat.add_sub_cancel_left]
theorem nextAt_app (i : Nat) : nextAt (A ++ B) (A.length + i : Nat) = nextAt B i := by
  rcases Nat.lt_or_ge i B.length with h | h
  · rw [nextAt_drop (by simp; omega), nextAt_drop (by omega), Int.toNat_natCast, Int.toNat_natCast, drop_app]
  · unfold nextAt; rw [if_pos (by simp; omega), if_pos (by omega)]
theorem escapeM_app (way : Int) (i : Nat) : escapeM way (A ++ B) (A.length + i) = escapeM way B i := by
  rw [← escapeM_drop way (A ++ B), ← escapeM_drop way B, drop_app]
def shiftE (k : Nat) : (Nat × Int) ⊕ List UInt8 → (Nat × Int) ⊕ List UInt8
  | .inl e => .inl (k + e.1, e.2)
  | .inr l => .inr l
theorem shift_pre (k : Nat) (l : List UInt8) (x : (Nat × Int) ⊕ List UInt8) : shiftE k (pre l x) = pre l (shiftE k x) := by cases x <;> rfl
theorem unesc_app (way : Int) (i : Nat) : unescM way (A ++ B) (A.length + i) = shiftE A.length (unescM way B i) := by
  have hb := fun i => byteAt_app A B i
  have he := fun i => escapeM_app A B way i
  have hn := fun i => nextAt_app A B i
  induction i using unescM.induct way B with
  | case1 i h h1 h2 => rw [unesc_bad h h1 h2, unesc_bad (by simp; omega) (by rw [hb, h1]) (by rw [he, h2])]; rfl
  | case2 i h h1 h2 ih => rw [unesc_esc h h1 h2, unesc_esc (by simp; omega) (by rw [hb, h1]) (by rw [he]; exact h2), he, Nat.add_assoc, ih, shift_pre]
  | case3 i h h1 h2 => rw [unesc_wrong h h1 h2, unesc_wrong (by simp; omega) (by rw [hb]; exact h1) (by rw [hn, h2])]; rfl
  | case4 i h h1 h2 ih => rw [unesc_next h h1 h2, unesc_next (by simp; omega) (by rw [hb]; exact h1) (by rw [hn]; exact h2), hn, Nat.add_assoc, ih, shift_pre]
  | case5 i h => rw [unesc_end (s := B) (by omega), unesc_end (s := A ++ B) (by simp; omega)]; rfl
def shiftQ (k : Nat) : Nat ⊕ Nat → Nat ⊕ Nat
  | .inl e => .inl (k + e)
  | .inr e => .inr (k + e)
theorem quot_app (i : Nat) (sl : Bool) : quotM (A ++ B) (A.length + i) sl = shiftQ A.length (quotM B i sl) := by
  have hb := fun i => byteAt_app A B i
  induction i, sl using quotM.induct B with
  | case1 i sl h h1 => rw [quot_nl h h1, quot_nl (by simp; omega) (by rw [hb]; exact h1)]; rfl
  | case2 i h h1 ih => rw [quot_sl h h1, quot_sl (by simp; omega) (by rw [hb]; exact h1), Nat.add_assoc, ih]
  | case3 i sl h h1 h2 h3 ih =>
    have : sl = false := by simpa using h2
    subst this
    rw [quot_bs h h3, quot_bs (by simp; omega) (by rw [hb]; exact h3), Nat.add_assoc, ih]
  | case4 i sl h h1 h2 h3 h4 =>
    have : sl = false := by simpa using h2
    subst this
    rw [quot_q h h4, quot_q (by simp; omega) (by rw [hb]; exact h4)]; rfl
  | case5 i sl h h1 h2 h3 h4 ih =>
    have : sl = false := by simpa using h2
    subst this
    rw [quot_on h h1 h3 h4, quot_on (by simp; omega) (by rw [hb]; exact h1) (by rw [hb]; exact h3) (by rw [hb]; exact h4), Nat.add_assoc, ih]
  | case6 i sl h => rw [quot_end (s := B) (by omega), quot_end (s := A ++ B) (by simp; omega)]; simp [shiftQ]
theorem chk_app (i : Nat) : chk (A ++ B) (A.length + i) = -1 ↔ chk B i = -1 := by
  have hn := fun i => nextAt_app A B i
  induction i using chk.induct B with
  | case1 i h ih => rw [chk_step h.1 h.2, chk_step (by simp; omega) (by rw [hn]; exact h.2), hn, Nat.add_assoc]; exact ih
  | case2 i h hlt =>
    have h0 : (nextAt B i).2 = 0 := by
      apply Classical.byContradiction; intro hh; exact h ⟨hlt, hh⟩
    rw [chk_bad hlt h0, chk_bad (by simp; omega) (by rw [hn]; exact h0)]; omega
  | case3 i h hlt => rw [chk_end (s := B) (by omega), chk_end (s := A ++ B) (by simp; omega)]
theorem runGo_app (i e : Nat) : runGo (A ++ B) (A.length + i) (A.length + e) = A.length + runGo B i e := by
  have hn := fun i => nextAt_app A B i
  induction i, e using runGo.induct B with
  | case1 i e h1 ih =>
    rw [runGo_step h1, runGo_step (by rw [hn]; exact h1), hn, Nat.add_assoc]
    by_cases h2 : (nextAt B i).1 = 46
    · rw [dif_pos h2] at ih; rw [if_pos h2, if_pos h2, ih]
    · rw [dif_neg h2] at ih; rw [if_neg h2, if_neg h2, ih]
  | case2 i e h1 => rw [runGo_stop h1, runGo_stop (by rw [hn]; exact h1)]
theorem run_app (p : Int → Prop) [DecidablePred p] (i : Nat) : runM p (A ++ B) (A.length + i : Nat) = runM p B i := by
  unfold runM
  rw [nextAt_app]
  simp only [Int.toNat_natCast]
  rw [Nat.add_assoc, runGo_app]
  split
  · rfl
  · omega
theorem langEnd_app (i : Nat) : langEnd (A ++ B) (A.length + i) = A.length + langEnd B i := by
  have hb := fun i => byteAt_app A B i
  induction i using langEnd.induct B with
  | case1 i h ih => rw [langEnd_step h.1 h.2, langEnd_step (by simp; omega) (by rw [hb]; exact h.2), Nat.add_assoc, ih]
  | case2 i h => rw [langEnd_stop h, langEnd_stop (by rw [hb]; intro hh; exact h ⟨by simp at hh; omega, hh.2⟩)]
end
/-! ### A scalar's bytes are read as it -/
theorem dec_enc {r : Int} (h : Scalar r) (R : List UInt8) : dec (encM r ++ R) = (r, ((encM r).length : Int)) := by
  obtain ⟨h0, h1, h2⟩ := h
  have bb : ∀ x : Int, 0 ≤ x ∧ x < 256 → bn (byteOf x) = x := fun x hx => byteOf_bn hx
  unfold dec
  have hl := enc_len h0
  rw [if_neg (by intro hh; have := congrArg List.length hh; rw [List.length_append, List.length_nil] at this; omega)]
  rcases (by omega : r < 128 ∨ (128 ≤ r ∧ r < 2048) ∨ (2048 ≤ r ∧ r < 65536) ∨ 65536 ≤ r) with c | c | c | c
  · have e : encM r = [byteOf r] := by unfold encM encI; rw [if_pos c]; rfl
    rw [e]
    simp only [List.cons_append, List.nil_append, List.getD_cons_zero, List.length_cons, List.length_nil]
    rw [bb _ (by omega)]
    unfold decB
    rw [if_pos c]; rfl
  · have e : encM r = [byteOf (192 + r / 64), byteOf (128 + r % 64)] := by
      unfold encM encI
      simp (disch := omega) only [↓if_pos, ↓if_neg, List.map_cons, List.map_nil]
    rw [e]
    simp only [List.cons_append, List.nil_append, List.getD_cons_zero, List.getD_cons_succ, List.length_cons, List.length_nil]
    rw [bb _ (by omega), bb _ (by omega)]
    unfold decB r2
    simp (disch := omega) only [↓if_pos, ↓if_neg]
    rw [show (192 + r / 64) % 32 * 64 + (128 + r % 64) % 64 = r by omega]; rfl
  · have e : encM r = [byteOf (224 + r / 4096), byteOf (128 + r / 64 % 64), byteOf (128 + r % 64)] := by
      unfold encM encI
      simp (disch := omega) only [↓if_pos, ↓if_neg, List.map_cons, List.map_nil]
    rw [e]
    simp only [List.cons_append, List.nil_append, List.getD_cons_zero, List.getD_cons_succ, List.length_cons, List.length_nil]
    rw [bb _ (by omega), bb _ (by omega), bb _ (by omega)]
    unfold decB r3
    simp (disch := omega) only [↓if_pos, ↓if_neg]
    rw [show ((224 + r / 4096) % 16 * 64 + (128 + r / 64 % 64) % 64) * 64 + (128 + r % 64) % 64 = r by omega]; rfl
  · have e : encM r = [byteOf (240 + r / 262144), byteOf (128 + r / 4096 % 64), byteOf (128 + r / 64 % 64), byteOf (128 + r % 64)] := by
      unfold encM encI
      simp (disch := omega) only [↓if_pos, ↓if_neg, List.map_cons, List.map_nil]
    rw [e]
    simp only [List.cons_append, List.nil_append, List.getD_cons_zero, List.getD_cons_succ, List.length_cons, List.length_nil]
    rw [bb _ (by omega), bb _ (by omega), bb _ (by omega), bb _ (by omega)]
    unfold decB r4
    simp (disch := omega) only [↓if_pos, ↓if_neg]
    rw [show (((240 + r / 262144) % 8 * 64 + (128 + r / 4096 % 64) % 64) * 64 + (128 + r / 64 % 64) % 64) * 64 + (128 + r % 64) % 64 = r by omega]; rfl
theorem next_encM {r : Int} (h : Scalar r) (R : List UInt8) : nextAt (encM r ++ R) 0 = (r, ((encM r).length : Int)) := by
  have hl := enc_len h.1
  rw [nextAt_drop (by simp; omega)]
  exact dec_enc h R
theorem chk_encM {r : Int} (h : Scalar r) (R : List UInt8) : chk (encM r ++ R) 0 = -1 ↔ chk R 0 = -1 := by
  have hl := enc_len h.1
  have hn : nextAt (encM r ++ R) ((0 : Nat) : Int) = (r, ((encM r).length : Int)) := next_encM h R
  rw [chk_step (by simp; omega) (by rw [hn]; simp only; omega), hn]
  simp only [Int.toNat_natCast]
  rw [Nat.zero_add]
  exact chk_app (encM r) R 0
/-- What is read of escapes is UTF-8. -/
theorem unesc_chk (way : Int) (s : List UInt8) (i : Nat) : ∀ l, unescM way s i = .inr l → chk l 0 = -1 := by
  induction i using unescM.induct way s with
  | case1 i h h1 h2 => intro l hl; rw [unesc_bad h h1 h2] at hl; cases hl
  | case2 i h h1 h2 ih =>
    intro l hl
    rw [unesc_esc h h1 h2] at hl
    have hs := (escapeM_n way s i).resolve_left h2
    cases hc : unescM way s (i + (escapeM way s i).2.toNat) with
    | inl e => rw [hc] at hl; cases hl
    | inr t =>
      rw [hc] at hl
      simp only [pre, Sum.inr.injEq] at hl
      rw [← hl, chk_encM hs.2.2]; exact ih t hc
  | case3 i h h1 h2 => intro l hl; rw [unesc_wrong h h1 h2] at hl; cases hl
  | case4 i h h1 h2 ih =>
    intro l hl
    rw [unesc_next h h1 h2] at hl
    cases hc : unescM way s (i + (nextAt s i).2.toNat) with
    | inl e => rw [hc] at hl; cases hl
    | inr t =>
      rw [hc] at hl
      simp only [pre, Sum.inr.injEq] at hl
      rw [← hl, chk_encM (nextAt_scalar h h2)]; exact ih t hc
  | case5 i h => intro l hl; rw [unesc_end (by omega)] at hl; cases hl; exact chk_end (Nat.zero_le _)
end Go.Our
/- Escapes there and back, in plain words. No program in sight. -/
set_option linter.unusedVariables false
set_option linter.unusedSimpArgs false
namespace Go.Our
open Go.Sx
theorem hexV_D {k : Int} (h : 0 ≤ k ∧ k < 16) : hexV (bn (hexD k)) = k := by
  have := small_all (k := 16) (p := fun k => hexV (bn (hexD k)) == k) (by decide +kernel) h
  simpa using this
theorem hexD_in {k : Int} (h : 0 ≤ k ∧ k < 16) : (48 ≤ bn (hexD k) ∧ bn (hexD k) ≤ 57) ∨ (65 ≤ bn (hexD k) ∧ bn (hexD k) ≤ 70) := by
  have := small_all (k := 16) (p := fun k => decide ((48 ≤ bn (hexD k) ∧ bn (hexD k) ≤ 57) ∨ (65 ≤ bn (hexD k) ∧ bn (hexD k) ≤ 70))) (by decide +kernel) h
  simpa using this
theorem numM_hex4 {r : Int} (h : Scalar r) (h2 : r < 65536) (R : List UInt8) : numM ([92, 117] ++ hex4 r ++ R) 2 4 = r := by
  have h0 := h.1
  have e0 : byteAt ([92, 117] ++ hex4 r ++ R) ((2 : Nat) : Int) = bn (hexD (r / 4096 % 16)) := rfl
  have e1 : byteAt ([92, 117] ++ hex4 r ++ R) ((2 + 1 : Nat) : Int) = bn (hexD (r / 256 % 16)) := rfl
  have e2 : byteAt ([92, 117] ++ hex4 r ++ R) ((2 + 1 + 1 : Nat) : Int) = bn (hexD (r / 16 % 16)) := rfl
  have e3 : byteAt ([92, 117] ++ hex4 r ++ R) ((2 + 1 + 1 + 1 : Nat) : Int) = bn (hexD (r % 16)) := rfl
  have hl : ([92, 117] ++ hex4 r ++ R).length = 6 + R.length := by simp [hex4]; omega
  have hr : numR ([92, 117] ++ hex4 r ++ R) 2 4 0 = some r := by
    rw [numR_step (by omega) (by rw [e0, hexV_D (by omega)]; omega), e0, hexV_D (by omega)]
    rw [numR_step (by omega) (by rw [e1, hexV_D (by omega)]; omega), e1, hexV_D (by omega)]
    rw [numR_step (by omega) (by rw [e2, hexV_D (by omega)]; omega), e2, hexV_D (by omega)]
    rw [numR_step (by omega) (by rw [e3, hexV_D (by omega)]; omega), e3, hexV_D (by omega), numR]
    congr 1
    omega
  unfold numM
  rw [hr]
  simp only
  rw [if_pos h]
theorem unesc_of {way r : Int} {w R : List UInt8} (h0 : 0 < w.length) (hb : byteAt (w ++ R) ((0 : Nat) : Int) = 92) (he : escapeM way (w ++ R) 0 = (r, (w.length : Int))) : unescM way (w ++ R) 0 = pre (encM r) (shiftE w.length (unescM way R 0)) := by
  rw [unesc_esc (by simp; omega) hb (by rw [he]; simp only; omega), he]
  simp only [Int.toNat_natCast]
  rw [Nat.zero_add]
  congr 1
  exact unesc_app w R way 0
theorem unesc_enc {way r : Int} (h : Scalar r) (h92 : r ≠ 92) (R : List UInt8) : unescM way (encM r ++ R) 0 = pre (encM r) (shiftE (encM r).length (unescM way R 0)) := by
  have hl := enc_len h.1
  have hn : nextAt (encM r ++ R) ((0 : Nat) : Int) = (r, ((encM r).length : Int)) := next_encM h R
  have hb : byteAt (encM r ++ R) ((0 : Nat) : Int) ≠ 92 := by
    intro hb
    have := next_92 (s := encM r ++ R) (i := 0) (by simp; omega) hb
    rw [hn] at this
    exact h92 (congrArg Prod.fst this)
  rw [unesc_next (by simp; omega) hb (by rw [hn]; simp only; omega), hn]
  simp only [Int.toNat_natCast]
  rw [Nat.zero_add]
  congr 1
  exact unesc_app (encM r) R way 0
theorem escape_let {x : UInt8} {r : Int} (h1 : bn x ≠ 117) (h2 : bn x ≠ 85) (h3 : letM (bn x) = r) (h4 : 0 ≤ r) (R : List UInt8) : escapeM 1 ([92, x] ++ R) 0 = (r, (([92, x] : List UInt8).length : Int)) := by
  have e : byteAt ([92, x] ++ R) ((0 + 1 : Nat) : Int) = bn x := rfl
  unfold escapeM
  rw [e, if_neg (by simp), if_neg h1, if_neg h2, if_pos ⟨rfl, by omega⟩, h3]; rfl
theorem escape_hex {way r : Int} (h : Scalar r) (h2 : r < 65536) (R : List UInt8) : escapeM way ([92, 117] ++ hex4 r ++ R) 0 = (r, (([92, 117] ++ hex4 r : List UInt8).length : Int)) := by
  have e : byteAt ([92, 117] ++ hex4 r ++ R) ((0 + 1 : Nat) : Int) = 117 := rfl
  have hn := numM_hex4 h h2 R
  have h0 := h.1
  unfold escapeM
  rw [e, if_neg (by simp [hex4]), if_pos rfl, Nat.zero_add, hn, if_pos h0]; rfl
theorem unesc_written {way r : Int} (h : Scalar r) (R : List UInt8) : unescM way (writtenM way r ++ R) 0 = pre (encM r) (shiftE (writtenM way r).length (unescM way R 0)) := by
  unfold writtenM
  split
  · rename_i hw
    subst hw
    split
    · rename_i e; subst e; exact unesc_of (by simp) rfl (escape_let (by decide) (by decide) rfl (by decide) R)
    split
    · rename_i e; subst e; exact unesc_of (by simp) rfl (escape_let (by decide) (by decide) rfl (by decide) R)
    split
    · rename_i e; subst e; exact unesc_of (by simp) rfl (escape_let (by decide) (by decide) rfl (by decide) R)
    split
    · rename_i e; subst e; exact unesc_of (by simp) rfl (escape_let (by decide) (by decide) rfl (by decide) R)
    split
    · rename_i e; subst e; exact unesc_of (by simp) rfl (escape_let (by decide) (by decide) rfl (by decide) R)
    split
    · rename_i e; subst e; exact unesc_of (by simp) rfl (escape_let (by decide) (by decide) rfl (by decide) R)
    split
    · rename_i e; subst e; exact unesc_of (by simp) rfl (escape_let (by decide) (by decide) rfl (by decide) R)
    rename_i h92
    split
    · exact unesc_of (by simp) rfl (escape_hex h (by omega) R)
    · exact unesc_enc h h92 R
  · split
    · rename_i hB
      exact unesc_of (by simp) rfl (escape_hex h (by unfold Our.Barred at hB; omega) R)
    · rename_i hB
      exact unesc_enc h (by intro hh; exact hB (by unfold Our.Barred; omega)) R
theorem unesc_escFrom (way : Int) (s : List UInt8) (i : Nat) (hc : chk s i = -1) (hi : i ≤ s.length) : unescM way (escFrom way s i) 0 = .inr (s.drop i) := by
  induction i using escFrom.induct s with
  | case1 i h ih =>
    have hn := nextAt_n s i
    rw [escFrom_step h.1 h.2, unesc_written (nextAt_scalar h.1 h.2), ih (by rw [← chk_step h.1 h.2]; exact hc) (by omega)]
    simp only [shiftE, pre]
    rw [nextAt_enc h.1 h.2, ← List.drop_drop, List.take_append_drop]
  | case2 i h =>
    have : s.length ≤ i := by
      rcases Nat.lt_or_ge i s.length with h1 | h1
      · exact absurd ⟨h1, chk_next h1 hc⟩ h
      · exact h1
    rw [escFrom_end this, unesc_end (by simp), List.drop_eq_nil_of_le this]
theorem unesc_escM {way : Int} {s : List UInt8} (h : chk s 0 < 0) : unescM way (escM way s) 0 = .inr s := by
  unfold escM
  have hg := chk_ge s 0
  rw [if_neg (by omega), unesc_escFrom way s 0 (by omega) (Nat.zero_le _)]; rfl
/-! ### Quotes -/
theorem quot_plain : ∀ (w R : List UInt8), (∀ c ∈ w, bn c ≠ 10 ∧ bn c ≠ 13 ∧ bn c ≠ 34 ∧ bn c ≠ 92) → quotM (w ++ R) 0 false = shiftQ w.length (quotM R 0 false)
  | [], R, _ => by simp only [List.nil_append, List.length_nil]; cases quotM R 0 false <;> simp [shiftQ]
  | c :: w, R, h => by
    have hc := h c List.mem_cons_self
    have e : byteAt (c :: (w ++ R)) ((0 : Nat) : Int) = bn c := rfl
    have ih := quot_plain w R (fun d hd => h d (List.mem_cons_of_mem _ hd))
    rw [List.cons_append, quot_on (by simp) (by rw [e]; omega) (by rw [e]; exact hc.2.2.2) (by rw [e]; exact hc.2.2.1)]
    have := quot_app [c] (w ++ R) 0 false
    simp only [List.length_cons, List.length_nil, List.cons_append, List.nil_append] at this
    rw [this, ih]
    cases quotM R 0 false <;> simp [shiftQ] <;> omega
theorem quot_bsx {x : UInt8} (hx : bn x ≠ 10 ∧ bn x ≠ 13) (R : List UInt8) : quotM ([92, x] ++ R) 0 false = shiftQ 2 (quotM R 0 false) := by
  rw [quot_bs (by simp) rfl, quot_sl (by simp) (by show ¬ (bn x = 10 ∨ bn x = 13); omega)]
  exact quot_app [92, x] R 0 false
theorem enc_plain {r : Int} (h : Scalar r) (h1 : r ≠ 10 ∧ r ≠ 13 ∧ r ≠ 34 ∧ r ≠ 92) : ∀ c ∈ encM r, bn c ≠ 10 ∧ bn c ≠ 13 ∧ bn c ≠ 34 ∧ bn c ≠ 92 := by
  intro c hc
  rcases Int.lt_or_le r 128 with h2 | h2
  · have e : encM r = [byteOf r] := by unfold encM encI; rw [if_pos h2]; rfl
    rw [e] at hc
    rw [List.mem_singleton.1 hc]
    have : bn (byteOf r) = r := byteOf_bn (by have := h.1; omega)
    rw [this]; exact h1
  · have := encM_high h h2 c hc
    omega
theorem hex_plain (r : Int) : ∀ c ∈ hex4 r, bn c ≠ 10 ∧ bn c ≠ 13 ∧ bn c ≠ 34 ∧ bn c ≠ 92 := by
  intro c hc
  unfold hex4 at hc
  simp only [List.mem_cons, List.not_mem_nil, or_false] at hc
  rcases hc with rfl | rfl | rfl | rfl
  · have := hexD_in (k := r / 4096 % 16) (by omega); omega
  · have := hexD_in (k := r / 256 % 16) (by omega); omega
  · have := hexD_in (k := r / 16 % 16) (by omega); omega
  · have := hexD_in (k := r % 16) (by omega); omega
theorem quot_written {r : Int} (h : Scalar r) (R : List UInt8) : quotM (writtenM 1 r ++ R) 0 false = shiftQ (writtenM 1 r).length (quotM R 0 false) := by
  unfold writtenM
  rw [if_pos rfl]
  split
  · exact quot_bsx (by decide) R
  split
  · exact quot_bsx (by decide) R
  split
  · exact quot_bsx (by decide) R
  split
  · exact quot_bsx (by decide) R
  split
  · exact quot_bsx (by decide) R
  split
  · exact quot_bsx (by decide) R
  split
  · exact quot_bsx (by decide) R
  split
  · rw [List.append_assoc, quot_bsx (by decide), quot_plain _ R (hex_plain r)]
    cases quotM R 0 false <;> simp [shiftQ] <;> omega
  · exact quot_plain _ R (enc_plain h (by omega))
theorem quot_escFrom (s : List UInt8) (i : Nat) (R : List UInt8) (hc : chk s i = -1) : quotM (escFrom 1 s i ++ 34 :: R) 0 false = .inr (escFrom 1 s i).length := by
  induction i using escFrom.induct s with
  | case1 i h ih =>
    rw [escFrom_step h.1 h.2, List.append_assoc, quot_written (nextAt_scalar h.1 h.2), ih (by rw [← chk_step h.1 h.2]; exact hc)]
    simp [shiftQ]
  | case2 i h =>
    have : s.length ≤ i := by
      rcases Nat.lt_or_ge i s.length with h1 | h1
      · exact absurd ⟨h1, chk_next h1 hc⟩ h
      · exact h1
    rw [escFrom_end this]
    exact quot_q (by simp) rfl
theorem quot_escM {s : List UInt8} (h : chk s 0 < 0) (R : List UInt8) : quotM (escM 1 s ++ 34 :: R) 0 false = .inr (escM 1 s).length := by
  unfold escM
  have hg := chk_ge s 0
  rw [if_neg (by omega)]
  exact quot_escFrom s 0 R (by omega)
/-! ### Brackets -/
theorem written_no62 {r : Int} (h : Scalar r) : ∀ c ∈ writtenM 2 r, c ≠ 62 := by
  have key : ∀ c : UInt8, bn c ≠ 62 → c ≠ 62 := fun c hc e => hc (by rw [e]; rfl)
  intro c hc
  unfold writtenM at hc
  rw [if_neg (by decide)] at hc
  split at hc
  · rcases List.mem_append.1 hc with hc | hc
    · simp only [List.mem_cons, List.not_mem_nil, or_false] at hc
      rcases hc with rfl | rfl <;> decide
    · apply key
      unfold hex4 at hc
      simp only [List.mem_cons, List.not_mem_nil, or_false] at hc
      rcases hc with rfl | rfl | rfl | rfl
      · have := hexD_in (k := r / 4096 % 16) (by omega); omega
      · have := hexD_in (k := r / 256 % 16) (by omega); omega
      · have := hexD_in (k := r / 16 % 16) (by omega); omega
      · have := hexD_in (k := r % 16) (by omega); omega
  · rename_i hB
    apply key
    rcases Int.lt_or_le r 128 with h2 | h2
    · have e : encM r = [byteOf r] := by unfold encM encI; rw [if_pos h2]; rfl
      rw [e] at hc
      rw [List.mem_singleton.1 hc]
      have : bn (byteOf r) = r := byteOf_bn (by have := h.1; omega)
      rw [this]
      intro h62
      exact hB (by unfold Our.Barred; omega)
    · have := encM_high h h2 c hc
      omega
theorem esc_no62 (s : List UInt8) (i : Nat) : ∀ c ∈ escFrom 2 s i, c ≠ 62 := by
  induction i using escFrom.induct s with
  | case1 i h ih =>
    rw [escFrom_step h.1 h.2]
    intro c hc
    rcases List.mem_append.1 hc with hc | hc
    · exact written_no62 (nextAt_scalar h.1 h.2) c hc
    · exact ih c hc
  | case2 i h => rw [escFrom, dif_neg h]; intro c hc; cases hc
theorem escM_no62 (s : List UInt8) : ∀ c ∈ escM 2 s, c ≠ 62 := by
  unfold escM
  split
  · intro c hc; cases hc
  · exact esc_no62 s 0
theorem idx_consE (b c : UInt8) (l : List UInt8) : Lib.indexByte (b :: l) c = if b = c then 0 else if Lib.indexByte l c = -1 then -1 else Lib.indexByte l c + 1 := by
  conv => lhs; unfold Lib.indexByte
  simp
theorem idx_at : ∀ (L R : List UInt8), (∀ c ∈ L, c ≠ 62) → Lib.indexByte (L ++ 62 :: R) 62 = L.length
  | [], R, _ => by rw [List.nil_append, idx_consE, if_pos rfl]; rfl
  | b :: L, R, h => by
    rw [List.cons_append, idx_consE, if_neg (h b List.mem_cons_self), idx_at L R (fun c hc => h c (List.mem_cons_of_mem _ hc)), if_neg (by omega)]
    simp
theorem iriAt_ang (A y R : List UInt8) (h : iriM y = 0) : iriAt (A ++ (angM y ++ R)) A.length = .inr (y, (A.length : Int) + (angM y).length) := by
  have e : angM y ++ R = 60 :: (escM 2 y ++ 62 :: R) := by unfold angM; simp
  have hd : (A ++ (angM y ++ R)).drop (A.length + 1) = escM 2 y ++ 62 :: R := by rw [drop_app, e]; rfl
  have hl : ((angM y).length : Int) = (escM 2 y).length + 2 := by unfold angM; simp; omega
  unfold iriAt
  rw [hd, idx_at _ _ (escM_no62 y), if_neg (by omega), Int.toNat_natCast, List.take_left' rfl, unesc_escM (refM_ok h).2]
  simp only
  rw [if_neg (by simpa using h), hl]
  congr 2
  omega
end Go.Our
/- Terms and texts there and back: a well-formed term's text is read as it; what is read is well formed. No program in sight. -/
set_option linter.unusedVariables false
set_option linter.unusedSimpArgs false
namespace Go.Our
open Go.Sx
/-! ### A label cut out -/
theorem runGo_grow (s : List UInt8) (i e : Nat) (h : e ≤ i) : e ≤ runGo s i e ∧ (runGo s i e = e ∨ i < runGo s i e) := by
  induction i, e using runGo.induct s with
  | case1 i e h1 ih =>
    have hn := nextAt_n s i
    rw [runGo_step h1]
    by_cases h2 : (nextAt s i).1 = 46
    · rw [dif_pos h2] at ih; rw [if_pos h2]; have := ih (by omega); omega
    · rw [dif_neg h2] at ih; rw [if_neg h2]; have := ih (by omega); omega
  | case2 i e h1 => rw [runGo_stop h1]; omega
theorem nextAt_front {T R : List UInt8} {i : Nat} (h : i < T.length) (h0 : (nextAt (T ++ R) i).2 ≠ 0) (h1 : (i : Int) + (nextAt (T ++ R) i).2 ≤ T.length) : nextAt T i = nextAt (T ++ R) i := by
  have hn := nextAt_n (T ++ R) i
  have hi : i < (T ++ R).length := by simp; omega
  have he := nextAt_enc hi h0
  have hsc := nextAt_scalar hi h0
  have hl := next_enc hi h0
  have hd : (T ++ R).drop i = T.drop i ++ R := by rw [List.drop_append_of_le_length (by omega)]
  rw [hd, List.take_append_of_le_length (by rw [List.length_drop]; omega)] at he
  have hT : T.drop i = encM (nextAt (T ++ R) i).1 ++ (T.drop i).drop (nextAt (T ++ R) i).2.toNat := by
    rw [he, List.take_append_drop]
  rw [nextAt_drop (s := T) (by omega), Int.toNat_natCast, hT, dec_enc hsc, hl]
theorem nextAt_stop {T : List UInt8} : (nextAt T T.length).2 = 0 := nextAt_end (Nat.le_refl _)
theorem runGo_cut (T R : List UInt8) (i e : Nat) (hei : e ≤ i) (hi : i ≤ T.length) (h : runGo (T ++ R) i e = T.length) : runGo T i e = T.length := by
  induction i, e using runGo.induct (T ++ R) with
  | case1 i e h1 ih =>
    have hn := nextAt_n (T ++ R) i
    rw [runGo_step h1] at h
    by_cases h2 : (nextAt (T ++ R) i).1 = 46
    · rw [dif_pos h2] at ih; rw [if_pos h2] at h
      have hg := runGo_grow (T ++ R) (i + (nextAt (T ++ R) i).2.toNat) e (by omega)
      rcases Nat.lt_or_ge T.length (i + (nextAt (T ++ R) i).2.toNat) with h3 | h3
      · have he : e = T.length := by omega
        have : i = T.length := by omega
        rw [this, runGo_stop (by rw [nextAt_stop]; simp)]; exact he
      · have hf := nextAt_front (T := T) (R := R) (i := i) (by omega) h1.1 (by omega)
        rw [runGo_step (by rw [hf]; exact h1), hf, if_pos h2]
        exact ih (by omega) h3 h
    · rw [dif_neg h2] at ih; rw [if_neg h2] at h
      have hg := runGo_grow (T ++ R) (i + (nextAt (T ++ R) i).2.toNat) (i + (nextAt (T ++ R) i).2.toNat) (Nat.le_refl _)
      have h3 : i + (nextAt (T ++ R) i).2.toNat ≤ T.length := by omega
      have hf := nextAt_front (T := T) (R := R) (i := i) (by omega) h1.1 (by omega)
      rw [runGo_step (by rw [hf]; exact h1), hf, if_neg h2]
      exact ih (Nat.le_refl _) h3 h
  | case2 i e h1 =>
    rw [runGo_stop h1] at h
    have : i = T.length := by omega
    rw [this, runGo_stop (by rw [nextAt_stop]; simp)]; exact h
theorem run_cut (T R : List UInt8) (h0 : 0 < T.length) (h : runM LabelI (T ++ R) 0 = T.length) : runM LabelI T 0 = T.length := by
  have hn := nextAt_n (T ++ R) 0
  unfold runM at h
  split at h
  · omega
  · rename_i h1
    simp only [Int.toNat_zero, Nat.zero_add, Int.sub_zero] at h
    have hg := runGo_grow (T ++ R) (nextAt (T ++ R) 0).2.toNat (nextAt (T ++ R) 0).2.toNat (Nat.le_refl _)
    have h3 : (nextAt (T ++ R) 0).2.toNat ≤ T.length := by omega
    have hz : ((0 : Nat) : Int) + (nextAt (T ++ R) ((0 : Nat) : Int)).2 ≤ T.length := by
      have e : nextAt (T ++ R) ((0 : Nat) : Int) = nextAt (T ++ R) 0 := rfl
      rw [e]; omega
    have hf : nextAt T 0 = nextAt (T ++ R) 0 := nextAt_front (T := T) (R := R) (i := 0) h0 (fun hh => h1 (.inl hh)) hz
    unfold runM
    rw [hf, if_neg h1]
    simp only [Int.toNat_zero, Nat.zero_add, Int.sub_zero]
    rw [runGo_cut T R _ _ (Nat.le_refl _) h3 (by omega)]
theorem label_cut {s : List UInt8} {i : Nat} (h0 : runM LabelI s i ≠ 0) : labelM ((s.drop i).take (runM LabelI s i).toNat) = 0 := by
  have hle := run_le LabelI s i
  have h1 := hle.2 (by omega)
  have hi : i < s.length := by omega
  generalize hT : (s.drop i).take (runM LabelI s i).toNat = T
  have hlen : (T.length : Int) = runM LabelI s i := by rw [← hT]; simp; omega
  have hs : s.drop i = T ++ (s.drop i).drop (runM LabelI s i).toNat := by rw [← hT, List.take_append_drop]
  have hr : runM LabelI (s.drop i) 0 = runM LabelI s i := by
    have := run_app (s.take i) (s.drop i) LabelI 0
    rw [List.take_append_drop, List.length_take, Nat.min_eq_left (by omega)] at this
    exact this.symm
  have hc : runM LabelI T 0 = T.length := run_cut T _ (by omega) (by rw [← hs, hr, hlen])
  unfold labelM
  rw [if_neg]
  rw [hc]
  omega
/-! ### What is read is well formed -/
theorem iri_tagged : iriM taggedB = 0 := by decide +kernel
theorem iri_plain : iriM plainB = 0 := by decide +kernel
theorem plain_tagged : plainB ≠ taggedB := by decide
theorem tag_empty : tagP (splitM []) = false := by decide +kernel
theorem check_iri {t : List UInt8} (h : iriM t = 0) : checkM ⟨1, t, [], []⟩ = 0 := by
  unfold checkM; simp [h]
theorem check_blank {t : List UInt8} (h : labelM t = 0) (hl : t.length ≤ 65536) : checkM ⟨2, t, [], []⟩ = 0 := by
  unfold checkM; simp [h]; omega
theorem check_lit {t y l : List UInt8} (ht : t.length ≤ 65536) (hc : chk t 0 = -1) (hy : iriM y = 0) (hl : l ≠ [] → l.length ≤ 65536 ∧ tagP (splitM l) = true ∧ lowerM l = l ∧ y = taggedB) (hn : l = [] → y ≠ taggedB) : checkM ⟨3, t, y, l⟩ = 0 := by
  unfold checkM litM
  simp only
  rw [if_neg (by omega), if_pos trivial, if_neg (by omega), if_neg (by omega), if_neg (by simp [hy])]
  by_cases h : l = []
  · rw [if_neg (fun hh => hh.1 h), if_neg (fun hh => hh.1 h), if_neg]
    rintro (hh | hh)
    · exact hh.1 h
    · exact hn h hh.2
  · obtain ⟨h1, h2, h3, h4⟩ := hl h
    rw [if_neg (fun hh => by omega), if_neg (fun hh => by rcases hh.2 with g | g; exact g h2; exact g h3), if_neg]
    rintro (hh | hh)
    · exact hh.2 h4
    · exact h hh.1
theorem iriAt_ok {s : List UInt8} {i : Nat} {t : List UInt8} {n : Int} (h : iriAt s i = .inr (t, n)) : iriM t = 0 := by
  unfold iriAt at h
  split at h
  · cases h
  · split at h
    · cases h
    · split at h
      · cases h
      · rename_i h1
        injection h with h
        have : _ = t := congrArg Prod.fst h
        rw [← this]; simpa using h1
theorem typeAt_ok {t s : List UInt8} {e : Nat} {x : Tm} {n : Int} (ht : t.length ≤ 65536) (hc : chk t 0 = -1) (h : typeAt t s e = .inr (x, n)) : checkM x = 0 := by
  unfold typeAt at h
  split at h
  · unfold tagAt at h
    split at h
    · cases h
    · rename_i hlen
      split at h
      · rename_i hp
        simp only [tagTm] at h
        injection h with h
        have hx := congrArg Prod.fst h
        simp only at hx
        rw [← hx]
        refine check_lit ht hc iri_tagged (fun _ => ⟨?_, by rw [tag_lower]; exact hp, lower_low _, rfl⟩) (fun h9 => ?_)
        · rw [lower_len]; simp; omega
        · exfalso
          have h8 : ((s.drop (e + 1)).take (langEnd s (e + 1) - (e + 1))) = [] := by
            have := congrArg List.length h9
            rw [lower_len] at this
            exact List.eq_nil_of_length_eq_zero this
          rw [h8, tag_empty] at hp; cases hp
      · cases h
  · split at h
    · split at h
      · cases h
      · split at h
        · cases h
        · rename_i y m hy
          split at h
          · cases h
          · rename_i hne
            injection h with h
            have hx := congrArg Prod.fst h
            simp only at hx
            rw [← hx]
            exact check_lit ht hc (iriAt_ok hy) (fun hh => absurd rfl hh) (fun _ => hne)
    · injection h with h
      have hx := congrArg Prod.fst h
      simp only at hx
      rw [← hx]
      exact check_lit ht hc iri_plain (fun hh => absurd rfl hh) (fun _ => plain_tagged)
theorem nextN_ok {s : List UInt8} {i : Nat} {x : Tm} {n : Int} (h : nextN s i = .inr (x, n)) : checkM x = 0 := by
  unfold nextN at h
  split at h
  · cases h
  split at h
  · cases hc : iriAt s i with
    | inl e => rw [hc] at h; cases h
    | inr y =>
      obtain ⟨t, m⟩ := y
      rw [hc] at h
      simp only [iriTm] at h
      injection h with h
      have hx := congrArg Prod.fst h
      simp only at hx
      rw [← hx]; exact check_iri (iriAt_ok hc)
  split at h
  · unfold blankAt at h
    split at h
    · cases h
    split at h
    · cases h
    split at h
    · cases h
    · rename_i h1 h2 h3
      injection h with h
      have hx := congrArg Prod.fst h
      simp only at hx
      rw [← hx]
      exact check_blank (label_cut h2) (Nat.le_trans (List.length_take_le _ _) (by omega))
  split at h
  · unfold litAt at h
    split at h
    · cases h
    · split at h
      · cases h
      · rename_i t ht
        split at h
        · cases h
        · exact typeAt_ok (by omega) (unesc_chk _ _ _ _ ht) h
  · cases h
theorem parse_ok {s : List UInt8} {x : Tm} (h : parseM s = .inr x) : checkM x = 0 := by
  unfold parseM at h
  split at h
  · cases h
  · rename_i t n hn
    split at h
    · cases h
    · cases h; exact nextN_ok hn
/-! ### A well-formed term's text is read as it -/
theorem next_ang {t : List UInt8} (h : iriM t = 0) : nextN (angM t) 0 = .inr (⟨1, t, [], []⟩, ((angM t).length : Int)) := by
  have hl : (angM t).length = (escM 2 t).length + 2 := by unfold angM; simp
  have hi := iriAt_ang [] t [] h
  simp only [List.nil_append, List.append_nil, List.length_nil] at hi
  have hb : byteAt (angM t) ((0 : Nat) : Int) = 60 := rfl
  unfold nextN
  rw [if_neg (by omega), if_pos hb, hi]
  simp only [iriTm]
  congr 2
  omega
theorem next_blank {t : List UInt8} (h : labelM t = 0) (hl : t.length ≤ 65536) : nextN ([95, 58] ++ t) 0 = .inr (⟨2, t, [], []⟩, (([95, 58] ++ t).length : Int)) := by
  have hr : runM LabelI t 0 ≠ 0 ∧ runM LabelI t 0 = t.length := by
    unfold labelM at h
    split at h
    · cases h
    · rename_i h1; omega
  have ha := run_app [95, 58] t LabelI 0
  have ha : runM LabelI ([95, 58] ++ t) ((0 + 2 : Nat) : Int) = t.length := by rw [← hr.2]; exact ha
  have hb0 : byteAt ([95, 58] ++ t) ((0 : Nat) : Int) = 95 := rfl
  have hb1 : byteAt ([95, 58] ++ t) ((0 + 1 : Nat) : Int) = 58 := rfl
  unfold nextN
  rw [if_neg (by simp), hb0, if_neg (by decide), if_pos rfl]
  unfold blankAt
  rw [ha, hb1, if_neg (by simp), if_neg (by omega), if_neg (by omega), Int.toNat_natCast]
  have hd : ([95, 58] ++ t).drop (0 + 2) = t := rfl
  rw [hd, List.take_length]
  congr 2
  simp; omega
theorem langEnd_all : ∀ {l : List UInt8}, (∀ c ∈ l, langB (bn c)) → langEnd l 0 = l.length
  | [], _ => langEnd_stop (by simp)
  | c :: l, h => by
    have hb : byteAt (c :: l) ((0 : Nat) : Int) = bn c := rfl
    rw [langEnd_step (by simp) (by rw [hb]; exact h c List.mem_cons_self)]
    have := langEnd_app [c] l 0
    simp only [List.length_cons, List.length_nil, List.cons_append, List.nil_append] at this
    rw [this, langEnd_all (fun d hd => h d (List.mem_cons_of_mem _ hd))]
    simp; omega
theorem type_back {t y l A : List UInt8} (hy : iriM y = 0) (hl : l ≠ [] → l.length ≤ 65536 ∧ tagP (splitM l) = true ∧ lowerM l = l ∧ y = taggedB) (hn : l = [] → y ≠ taggedB) :
    typeAt t (A ++ (if l ≠ [] then [64] ++ l else if y ≠ plainB then [94, 94] ++ angM y else [])) A.length = .inr (⟨3, t, y, l⟩, ((A ++ (if l ≠ [] then [64] ++ l else if y ≠ plainB then [94, 94] ++ angM y else [])).length : Int)) := by
  by_cases h : l = []
  · subst h
    rw [if_neg (by simp)]
    by_cases hp : y = plainB
    · rw [if_neg (by simp [hp])]
      subst hp
      unfold typeAt
      rw [if_neg (by simp), if_neg (by simp; omega)]; simp
    · rw [if_pos hp]
      have hlen : (angM y).length = (escM 2 y).length + 2 := by unfold angM; simp
      have e0 : byteAt (A ++ ([94, 94] ++ angM y)) ((A.length : Nat) : Int) = 94 := byteAt_app A ([94, 94] ++ angM y) 0
      have e1 : byteAt (A ++ ([94, 94] ++ angM y)) ((A.length + 1 : Nat) : Int) = 94 := byteAt_app A ([94, 94] ++ angM y) 1
      have e2 : byteAt (A ++ ([94, 94] ++ angM y)) ((A.length + 2 : Nat) : Int) = 60 := byteAt_app A ([94, 94] ++ angM y) 2
      have hi := iriAt_ang (A ++ [94, 94]) y [] hy
      have ea : (A ++ [94, 94]) ++ (angM y ++ []) = A ++ ([94, 94] ++ angM y) := by simp
      have el : (A ++ [94, 94]).length = A.length + 2 := by simp
      rw [ea, el] at hi
      have hL : (A ++ ([94, 94] ++ angM y)).length = A.length + 2 + (angM y).length := by simp; omega
      unfold typeAt
      rw [e0, e1, e2, if_neg (by simp), if_pos ⟨by rw [hL]; omega, rfl, rfl⟩, if_neg (fun hh => hh ⟨by rw [hL]; omega, rfl⟩), hi]
      simp only
      rw [if_neg (hn rfl), hL]
      congr 2
      try omega
  · obtain ⟨h1, h2, h3, h4⟩ := hl h
    rw [if_pos h]
    have e0 : byteAt (A ++ ([64] ++ l)) ((A.length : Nat) : Int) = 64 := byteAt_app A ([64] ++ l) 0
    have hL : (A ++ ([64] ++ l)).length = A.length + 1 + l.length := by simp; omega
    have hE : langEnd (A ++ ([64] ++ l)) (A.length + 1) = A.length + 1 + l.length := by
      have := langEnd_app (A ++ [64]) l 0
      have ea : (A ++ [64]) ++ l = A ++ ([64] ++ l) := by simp
      have el : (A ++ [64]).length = A.length + 1 := by simp
      rw [ea, el, langEnd_all (tag_lang h2)] at this
      exact this
    have hd : (A ++ ([64] ++ l)).drop (A.length + 1) = l := by rw [drop_app]; rfl
    unfold typeAt
    rw [e0, if_pos ⟨by omega, rfl⟩]
    unfold tagAt
    rw [hE, hd, if_neg (by omega), show A.length + 1 + l.length - (A.length + 1) = l.length by omega, List.take_length, if_pos h2, h3, hL]
    simp only [tagTm]
    rw [h4]
theorem next_lit {t y l : List UInt8} (h : checkM ⟨3, t, y, l⟩ = 0) : nextN ([34] ++ escM 1 t ++ [34] ++ (if l ≠ [] then [64] ++ l else if y ≠ plainB then [94, 94] ++ angM y else [])) 0 =
    .inr (⟨3, t, y, l⟩, (([34] ++ escM 1 t ++ [34] ++ (if l ≠ [] then [64] ++ l else if y ≠ plainB then [94, 94] ++ angM y else [])).length : Int)) := by
  have hk : litM t y l = 0 := by unfold checkM at h; simpa using h
  have hc := check_text h
  have hc1 : chk t 0 < 0 := hc.2.1 (show (3 : Int) ≠ 2 by decide)
  have hc2 := hc.2.2 rfl
  have hll : l ≠ [] → l.length ≤ 65536 ∧ tagP (splitM l) = true ∧ lowerM l = l ∧ y = taggedB := by
    intro hl
    unfold litM at hk
    (repeat' split at hk) <;> simp_all
  have hnn : l = [] → y ≠ taggedB := by
    intro hl hy
    unfold litM at hk
    (repeat' split at hk) <;> simp_all
  have hT := type_back (t := t) (A := [34] ++ escM 1 t ++ [34]) hc2.1 hll hnn
  generalize hR : (if l ≠ [] then [64] ++ l else if y ≠ plainB then [94, 94] ++ angM y else []) = R at *
  have hs : [34] ++ escM 1 t ++ [34] ++ R = [34] ++ (escM 1 t ++ 34 :: R) := by simp
  have hq : quotM ([34] ++ escM 1 t ++ [34] ++ R) (0 + 1) false = .inr (1 + (escM 1 t).length) := by
    rw [hs]
    have := quot_app [34] (escM 1 t ++ 34 :: R) 0 false
    rw [quot_escM hc1 R] at this
    exact this
  have hb : byteAt ([34] ++ escM 1 t ++ [34] ++ R) ((0 : Nat) : Int) = 34 := rfl
  have hd : (([34] ++ escM 1 t ++ [34] ++ R).drop (0 + 1)).take (1 + (escM 1 t).length - (0 + 1)) = escM 1 t := by
    rw [hs, show 1 + (escM 1 t).length - (0 + 1) = (escM 1 t).length by omega]
    exact List.take_left' rfl
  have hl : ([34] ++ escM 1 t ++ [34]).length = 1 + (escM 1 t).length + 1 := by simp; omega
  unfold nextN
  rw [if_neg (by simp), hb, if_neg (by decide), if_neg (by decide), if_pos rfl]
  unfold litAt
  rw [hq]
  simp only
  rw [hd, unesc_escM hc1]
  simp only
  rw [if_neg (by have := hc.1; simp only at this; omega), ← hl]
  exact hT
/-- There and back. -/
theorem back {x : Tm} (h : checkM x = 0) : parseM (textM x) = .inr x := by
  have key : ∀ (n : Int), nextN (textM x) 0 = .inr (x, n) → n = (textM x).length → parseM (textM x) = .inr x := by
    intro n h1 h2
    unfold parseM
    rw [h1]
    simp only
    rw [if_neg (by omega)]
  have hk := check_kind h
  obtain ⟨k, t, y, l⟩ := x
  simp only at hk
  have htx : textM ⟨k, t, y, l⟩ = if k = 1 then angM t else if k = 2 then [95, 58] ++ t else [34] ++ escM 1 t ++ [34] ++ (if l ≠ [] then [64] ++ l else if y ≠ plainB then [94, 94] ++ angM y else []) := by
    unfold textM; rw [if_neg (by simpa using h)]
  rcases hk with rfl | rfl | rfl
  · have hyl : y = [] ∧ l = [] ∧ iriM t = 0 := by
      unfold checkM at h
      simp only [true_or, if_true] at h
      split at h
      · cases h
      · rename_i h1; simp only [ne_eq, not_or, Decidable.not_not] at h1; exact ⟨h1.1, h1.2, h⟩
    obtain ⟨rfl, rfl, hi⟩ := hyl
    refine key _ ?_ rfl
    rw [htx, if_pos rfl]; exact next_ang hi
  · have hyl : y = [] ∧ l = [] ∧ labelM t = 0 ∧ t.length ≤ 65536 := by
      unfold checkM at h
      simp only [or_true, if_true] at h
      split at h
      · cases h
      · rename_i h1
        simp only [ne_eq, not_or, Decidable.not_not] at h1
        rw [if_neg (by decide)] at h
        split at h
        · cases h
        · exact ⟨h1.1, h1.2, h, by omega⟩
    obtain ⟨rfl, rfl, hi, hl⟩ := hyl
    refine key _ ?_ rfl
    rw [htx, if_neg (by decide), if_pos rfl]; exact next_blank hi hl
  · refine key _ ?_ rfl
    rw [htx, if_neg (by decide), if_neg (by decide)]; exact next_lit h
end Go.Our
/- TermBack: the law, walked. Conditions: none. -/
set_option linter.unusedVariables false
set_option linter.unusedSimpArgs false
set_option maxRecDepth 20000
namespace Go.Proofs.YtpffclpheldabaaDoor
open Go.Sx Go.Our
theorem check_sm {x : Tm} (h : checkM x = 0) : TmSm x := by
  have hc := check_text h
  have hk := check_kind h
  have hr := @refM_ok x.y
  refine ⟨by omega, ?_, ?_⟩
  · rcases (by omega : x.k = 3 ∨ x.k ≠ 3) with h3 | h3
    · have := hr (hc.2.2 h3).1; omega
    · unfold checkM at h
      rw [if_pos (by omega)] at h
      split at h
      · cases h
      · rename_i h1; simp only [ne_eq, not_or, Decidable.not_not] at h1; rw [h1.1]; simp
  · rcases (by omega : x.k = 3 ∨ x.k ≠ 3) with h3 | h3
    · have := (hc.2.2 h3).2; omega
    · unfold checkM at h
      rw [if_pos (by omega)] at h
      split at h
      · cases h
      · rename_i h1; simp only [ne_eq, not_or, Decidable.not_not] at h1; rw [h1.2]; simp
theorem text_len {x : Tm} (h : checkM x = 0) : (textM x).length ≤ 140737488351232 := by
  have hc := check_text h
  have h1 := escM_len 1 x.t
  have h2 := angM_len x.t
  have h3 := angM_len x.y
  obtain ⟨s1, s2, s3⟩ := check_sm h
  have hk := check_kind h
  have hr := @refM_ok x.y
  unfold textM
  rw [if_neg (by simpa using h)]
  split
  · omega
  split
  · simp; omega
  · have h4 := hc.2.2 (by omega)
    have h5 := hr h4.1
    split
    · simp; omega
    split
    · simp; omega
    · simp; omega
def awakeTm : Tm := ⟨3, [97, 34, 98], taggedB, [101, 110]⟩
theorem awake_check : checkM awakeTm = 0 := by decide +kernel
theorem awake_text : textM awakeTm = [34, 97, 92, 34, 98, 34, 64, 101, 110] := by decide +kernel
theorem awake_parse : parseM [34, 97, 92, 117, 48, 48, 50, 50, 98, 34, 64, 69, 78] = .inr awakeTm := by decide +kernel
theorem parseOk_does {s : List UInt8} {x : Tm} (hs : s.length ≤ 140737488351232) (h : parseM s = .inr x) : Does Tryd.prog tab 11 0 [.str s] [] [] (Val (.tup [x.sv, .val .nilIface])) := by
  have := parse_does s hs
  rw [h] at this; exact this
theorem awake_does : Does Tryd.prog tab 9 0 [] [] [] (Val (.bool true)) := by
  have ht := text_does awakeTm ⟨by decide, by decide, by decide⟩
  have hp := parseOk_does (by decide) awake_parse
  rw [awake_check, awake_text] at ht
  unfold awakeTm taggedB at ht
  refine Does.enter tabOK (g := 9) (fn := Tryd.f9) Tryd.call9 Tryd.func9 rfl 31 rfl rfl [.tmp 0] rfl ?_
  intro w0 F η0 h0
  conv => whnf
  repeat' ((first | with_reducible refine IF.tt ?_ | with_reducible refine IF.ff ?_ | with_reducible refine ADD.mk (fun _ _ => ?_) | with_reducible refine NEED.mk (Det.of rfl) ?_ | with_reducible refine FORK.mk ?_ ?_ | refine CALL.value (ht) rfl rfl ?_ | refine CALL.value (hp) rfl rfl ?_ | ((with_reducible refine NEED.mk ?_ ?_); (first | with_reducible rfl | omega | (simp (disch := omega) only [lnB, wrap64, wrap32] <;> omega) | (intro h; (try simp (disch := omega) only [hsB, hsC, lnB, wrap64, wrap32, simprocAttr] at h); (first | omega | (simp (disch := omega) only [lnB, wrap64, wrap32] <;> omega))) | (exact needApp 256 rfl rfl (by simp) (by simp) (by omega)) | (simp <;> omega))) | ((with_reducible apply GET.at); rfl) | ((with_reducible apply GETG.at); rfl) | ((with_reducible refine IF.mk (fun h => ?_) (fun h => ?_)) <;> (try simp (disch := omega) only [hsB, hsC, lnB, wrap64, wrap32, simprocAttr] at h) <;> try (exfalso; omega))) <;> conv => whnf)
  all_goals first
    | exact FIN.value h0 rfl rfl
    | (exfalso; simp_all; done)
    | trace_state
set_option maxHeartbeats 8000000 in
theorem lawBack_does (x : Tm) (s : List UInt8) (hx : TmSm x) (hs : s.length ≤ 140737488351232) : Does Tryd.prog tab 4 0 [x.sv, .str s] [] [] (Val (.bool true)) := by
  have ht := text_does x hx
  have hc := tcheck_does x hx
  have hp := parse_does s hs
  have htn : checkM x ≠ 0 → textM x = [] := fun h => by unfold textM; rw [if_pos h]
  unfold Tm.sv
  by_cases h : checkM x = 0
  · have hb := parseOk_does (text_len h) (back h)
    cases hY : parseM s with
    | inl e =>
      rw [hY] at hp
      have hp : Does Tryd.prog tab 11 0 [.str s] [] [] (NewErrT [zeroTm.sv] e.1 e.2) := hp
      refine Does.enter tabOK (g := 4) (fn := Tryd.f4) Tryd.call4 Tryd.func4 rfl 84 rfl rfl [.tmp 4] rfl ?_
      intro w0 F η0 h0
      conv => whnf
      repeat' ((first | with_reducible refine IF.tt ?_ | with_reducible refine IF.ff ?_ | with_reducible refine ADD.mk (fun _ _ => ?_) | with_reducible refine NEED.mk (Det.of rfl) ?_ | with_reducible refine FORK.mk ?_ ?_ | refine CALL.value (awake_does) rfl rfl ?_ | refine CALL.value (ht) rfl rfl ?_ | refine CALL.value (hc) rfl rfl ?_ | refine CALL.value (hb) rfl rfl ?_ | (refine CALL.errT [zeroTm.sv] hp rfl rfl ?_; conv => whnf) | ((with_reducible refine NEED.mk ?_ ?_); (first | with_reducible rfl | omega | (simp (disch := omega) only [lnB, wrap64, wrap32] <;> omega) | (intro h; (try simp (disch := omega) only [hsB, hsC, lnB, wrap64, wrap32, simprocAttr] at h); (first | omega | (simp (disch := omega) only [lnB, wrap64, wrap32] <;> omega))) | (exact needApp 256 rfl rfl (by simp) (by simp) (by omega)) | (simp <;> omega))) | ((with_reducible apply GET.at); rfl) | ((with_reducible apply GETG.at); rfl) | ((with_reducible refine IF.mk (fun h => ?_) (fun h => ?_)) <;> (try simp (disch := omega) only [hsB, hsC, lnB, wrap64, wrap32, simprocAttr] at h) <;> try (exfalso; omega))) <;> conv => whnf)
      all_goals first
        | (exfalso; simp_all; done)
        | exact FIN.value h0 rfl rfl
        | (refine FIN.value h0 rfl (congrArg SV.bool ?_); simp_all; done)
        | trace_state
    | inr u =>
      rw [hY] at hp
      have hp : Does Tryd.prog tab 11 0 [.str s] [] [] (Val (.tup [u.sv, .val .nilIface])) := hp
      have hu := parse_ok hY
      have ht2 := text_does u (check_sm hu)
      have hc2 := tcheck_does u (check_sm hu)
      have hb2 := parseOk_does (text_len hu) (back hu)
      refine Does.enter tabOK (g := 4) (fn := Tryd.f4) Tryd.call4 Tryd.func4 rfl 84 rfl rfl [.tmp 4] rfl ?_
      intro w0 F η0 h0
      conv => whnf
      repeat' ((first | with_reducible refine IF.tt ?_ | with_reducible refine IF.ff ?_ | with_reducible refine ADD.mk (fun _ _ => ?_) | with_reducible refine NEED.mk (Det.of rfl) ?_ | with_reducible refine FORK.mk ?_ ?_ | refine CALL.value (awake_does) rfl rfl ?_ | refine CALL.value (ht) rfl rfl ?_ | refine CALL.value (hc) rfl rfl ?_ | refine CALL.value (hb) rfl rfl ?_ | refine CALL.value (hp) rfl rfl ?_ | refine CALL.value (ht2) rfl rfl ?_ | refine CALL.value (hc2) rfl rfl ?_ | refine CALL.value (hb2) rfl rfl ?_ | ((with_reducible refine NEED.mk ?_ ?_); (first | with_reducible rfl | omega | (simp (disch := omega) only [lnB, wrap64, wrap32] <;> omega) | (intro h; (try simp (disch := omega) only [hsB, hsC, lnB, wrap64, wrap32, simprocAttr] at h); (first | omega | (simp (disch := omega) only [lnB, wrap64, wrap32] <;> omega))) | (exact needApp 256 rfl rfl (by simp) (by simp) (by omega)) | (simp <;> omega))) | ((with_reducible apply GET.at); rfl) | ((with_reducible apply GETG.at); rfl) | ((with_reducible refine IF.mk (fun h => ?_) (fun h => ?_)) <;> (try simp (disch := omega) only [hsB, hsC, lnB, wrap64, wrap32, simprocAttr] at h) <;> try (exfalso; omega))) <;> conv => whnf)
      all_goals first
        | (exfalso; simp_all; done)
        | exact FIN.value h0 rfl rfl
        | (refine FIN.value h0 rfl (congrArg SV.bool ?_); simp_all; done)
        | trace_state
  · have htn := htn h
    cases hY : parseM s with
    | inl e =>
      rw [hY] at hp
      have hp : Does Tryd.prog tab 11 0 [.str s] [] [] (NewErrT [zeroTm.sv] e.1 e.2) := hp
      refine Does.enter tabOK (g := 4) (fn := Tryd.f4) Tryd.call4 Tryd.func4 rfl 84 rfl rfl [.tmp 4] rfl ?_
      intro w0 F η0 h0
      conv => whnf
      repeat' ((first | with_reducible refine IF.tt ?_ | with_reducible refine IF.ff ?_ | with_reducible refine ADD.mk (fun _ _ => ?_) | with_reducible refine NEED.mk (Det.of rfl) ?_ | with_reducible refine FORK.mk ?_ ?_ | refine CALL.value (awake_does) rfl rfl ?_ | refine CALL.value (ht) rfl rfl ?_ | refine CALL.value (hc) rfl rfl ?_ | (refine CALL.errT [zeroTm.sv] hp rfl rfl ?_; conv => whnf) | ((with_reducible refine NEED.mk ?_ ?_); (first | with_reducible rfl | omega | (simp (disch := omega) only [lnB, wrap64, wrap32] <;> omega) | (intro h; (try simp (disch := omega) only [hsB, hsC, lnB, wrap64, wrap32, simprocAttr] at h); (first | omega | (simp (disch := omega) only [lnB, wrap64, wrap32] <;> omega))) | (exact needApp 256 rfl rfl (by simp) (by simp) (by omega)) | (simp <;> omega))) | ((with_reducible apply GET.at); rfl) | ((with_reducible apply GETG.at); rfl) | ((with_reducible refine IF.mk (fun h => ?_) (fun h => ?_)) <;> (try simp (disch := omega) only [hsB, hsC, lnB, wrap64, wrap32, simprocAttr] at h) <;> try (exfalso; omega))) <;> conv => whnf)
      all_goals first
        | (exfalso; simp_all; done)
        | exact FIN.value h0 rfl rfl
        | (refine FIN.value h0 rfl (congrArg SV.bool ?_); simp_all; done)
        | trace_state
    | inr u =>
      rw [hY] at hp
      have hp : Does Tryd.prog tab 11 0 [.str s] [] [] (Val (.tup [u.sv, .val .nilIface])) := hp
      have hu := parse_ok hY
      have ht2 := text_does u (check_sm hu)
      have hc2 := tcheck_does u (check_sm hu)
      have hb2 := parseOk_does (text_len hu) (back hu)
      refine Does.enter tabOK (g := 4) (fn := Tryd.f4) Tryd.call4 Tryd.func4 rfl 84 rfl rfl [.tmp 4] rfl ?_
      intro w0 F η0 h0
      conv => whnf
      repeat' ((first | with_reducible refine IF.tt ?_ | with_reducible refine IF.ff ?_ | with_reducible refine ADD.mk (fun _ _ => ?_) | with_reducible refine NEED.mk (Det.of rfl) ?_ | with_reducible refine FORK.mk ?_ ?_ | refine CALL.value (awake_does) rfl rfl ?_ | refine CALL.value (ht) rfl rfl ?_ | refine CALL.value (hc) rfl rfl ?_ | refine CALL.value (hp) rfl rfl ?_ | refine CALL.value (ht2) rfl rfl ?_ | refine CALL.value (hc2) rfl rfl ?_ | refine CALL.value (hb2) rfl rfl ?_ | ((with_reducible refine NEED.mk ?_ ?_); (first | with_reducible rfl | omega | (simp (disch := omega) only [lnB, wrap64, wrap32] <;> omega) | (intro h; (try simp (disch := omega) only [hsB, hsC, lnB, wrap64, wrap32, simprocAttr] at h); (first | omega | (simp (disch := omega) only [lnB, wrap64, wrap32] <;> omega))) | (exact needApp 256 rfl rfl (by simp) (by simp) (by omega)) | (simp <;> omega))) | ((with_reducible apply GET.at); rfl) | ((with_reducible apply GETG.at); rfl) | ((with_reducible refine IF.mk (fun h => ?_) (fun h => ?_)) <;> (try simp (disch := omega) only [hsB, hsC, lnB, wrap64, wrap32, simprocAttr] at h) <;> try (exfalso; omega))) <;> conv => whnf)
      all_goals first
        | (exfalso; simp_all; done)
        | exact FIN.value h0 rfl rfl
        | (refine FIN.value h0 rfl (congrArg SV.bool ?_); simp_all; done)
        | trace_state
end Go.Proofs.YtpffclpheldabaaDoor
/- TermBack: the row and its card out of the walk. Conditions: none beyond the statement's own. -/
set_option linter.unusedVariables false
namespace Go.Proofs.YtpffclpheldabaaDoor.termBack
open Go.ChangeShapes Go.WideShapes Go.ChangeAt Go.RowKit Go.Our
open Go.ChangeMaps (open_string shut_string)
theorem own : ownKnob Tryd.prog.godebug = none := by kernel_rfl
theorem laidOut : laidOutB Tryd.prog = true := by kernel_rfl
theorem readable : ∀ t ∈ Tryd.f4.params.toList, Tryd.prog.readableRec t = true ∧ t < Tryd.prog.types.size := by
  have h : (Tryd.f4.params.toList.all fun t => Tryd.prog.readableRec t && decide (t < Tryd.prog.types.size)) = true := by kernel_rfl
  intro t ht
  have := List.all_eq_true.1 h t ht
  simpa using this
set_option maxRecDepth 100000 in
theorem contract (H : Type) (enc : TypeId × Value → H) (W : World) (base : Nat) (args : Array Value) (ds gs : List (DataW H)) (before : List MemPlace)
    (hval : ∀ (j : Nat) t v, Tryd.f4.params[j]? = some t → args[j]? = some v → Value.okWide Tryd.prog W .any base t v)
    (hW : DataW.Whole enc Tryd.prog Tryd.f4.params.toList Rows.termBackSpec.vars false W args.toList ds gs before)
    (hsz : (DataW.weightsEach Tryd.prog (Tryd.f4.params.toList ++ (OpenSpec.ofChange Rows.termBackSpec).bare.plain.varTypes Tryd.prog) (ds ++ gs)).all (fun x => decide (x ≤ reachBytes)) = true)
    (hL : laidMetH Tryd.prog Rows.termBackRow.laid W)
    : Calls Tryd.prog 4 args W fun e W' => ∃ v, e = .returned v ∧ Rows.termBackSpec.post enc Tryd.prog Tryd.f4 false true false false W args v W' := by
  have hW' := hW
  have hlt := hW.lt
  obtain ⟨p, q, hA0, hV, rfl, hfz, hnd⟩ := hW
  have hA : DataW.TrodAll enc Tryd.prog W 0 (fun _ => true) true Tryd.f4.params.toList args.toList ds p := hA0
  rw [Tryd.params4] at hA hval
  obtain ⟨v0, vs0, d0, ds0, p0, q0, hargs, rfl, rfl, h0, r0⟩ := trodAll_cons hA
  obtain ⟨v1, vs1, d1, ds1, p1, q1, rfl, rfl, rfl, h1, r1⟩ := trodAll_cons r0
  obtain ⟨rfl, rfl, rfl⟩ := trodAll_nil r1
  obtain rfl : args = #[v0, v1] := by cases args; simp_all
  obtain ⟨rfl, rfl⟩ := trodVars_none hV
  have hlt' : ∀ x ∈ p0 ++ p1, x.block < W.heap.size := fun x hx => hlt x (by simpa using hx)
  have hsz' : (DataW.weightsEach Tryd.prog [23, 9] [d0, d1]).all (fun x => decide (x ≤ reachBytes)) = true := hsz
  simp only [DataW.weightsEach] at hsz'
  have sz0 := all_left hsz'
  have rs0 := all_right hsz'
  obtain ⟨t0, rfl, hd0, ok0⟩ := read_tm (hval 0 23 v0 rfl rfl) h0
  have sm0 := tm_sm (by rw [← hd0]; exact sz0)
  have sz1 := all_left rs0
  obtain ⟨s1, rfl, rfl, rfl, ws1⟩ := open_string Tryd.underlying9 (hval 1 9 v1 rfl rfl) h1
  refine (law_calls (lawBack_does t0 s1.data.toList sm0 (str_small sz1)) Tryd.call4 ⟨_, _, rfl, den_tm t0, _, _, rfl, den_str s1, rfl⟩ (globOf rfl hL)).mono fun e W' ⟨he, hb⟩ => ?_
  subst he
  exact ⟨_, rfl, law_post laidOut readable rfl Tryd.underlying4 hW' rfl rfl rfl rfl hb⟩
/-- A world for the witness: the settled one, each listed variable holding what its initialiser lays. -/
noncomputable def laidWorld (os : Os) : World :=
  { World.holding Tryd.prog os ⟨#[], #[], []⟩ with heap := ((((World.holding Tryd.prog os ⟨#[], #[], []⟩).heap.modify 3 fun | .cells _ t fz => .cells #[.int .u8 128, .int .u8 191, .int .u8 160, .int .u8 191, .int .u8 128, .int .u8 159, .int .u8 144, .int .u8 191, .int .u8 128, .int .u8 143, .int .u8 0, .int .u8 0, .int .u8 0, .int .u8 0, .int .u8 0, .int .u8 0, .int .u8 0, .int .u8 0, .int .u8 0, .int .u8 0, .int .u8 0, .int .u8 0, .int .u8 0, .int .u8 0, .int .u8 0, .int .u8 0, .int .u8 0, .int .u8 0, .int .u8 0, .int .u8 0, .int .u8 0, .int .u8 0] t fz | o => o).modify 0 fun | .cells _ t fz => .cells #[.int .i32 192, .int .i32 214, .int .i32 216, .int .i32 246, .int .i32 248, .int .i32 767, .int .i32 880, .int .i32 893, .int .i32 895, .int .i32 8191, .int .i32 8204, .int .i32 8205, .int .i32 8304, .int .i32 8591, .int .i32 11264, .int .i32 12271, .int .i32 12289, .int .i32 55295, .int .i32 63744, .int .i32 64975, .int .i32 65008, .int .i32 65533, .int .i32 65536, .int .i32 983039] t fz | o => o).modify 2 fun | .cells _ t fz => .cells #[.int .u8 240, .int .u8 240, .int .u8 240, .int .u8 240, .int .u8 240, .int .u8 240, .int .u8 240, .int .u8 240, .int .u8 240, .int .u8 240, .int .u8 240, .int .u8 240, .int .u8 240, .int .u8 240, .int .u8 240, .int .u8 240, .int .u8 240, .int .u8 240, .int .u8 240, .int .u8 240, .int .u8 240, .int .u8 240, .int .u8 240, .int .u8 240, .int .u8 240, .int .u8 240, .int .u8 240, .int .u8 240, .int .u8 240, .int .u8 240, .int .u8 240, .int .u8 240, .int .u8 240, .int .u8 240, .int .u8 240, .int .u8 240, .int .u8 240, .int .u8 240, .int .u8 240, .int .u8 240, .int .u8 240, .int .u8 240, .int .u8 240, .int .u8 240, .int .u8 240, .int .u8 240, .int .u8 240, .int .u8 240, .int .u8 240, .int .u8 240, .int .u8 240, .int .u8 240, .int .u8 240, .int .u8 240, .int .u8 240, .int .u8 240, .int .u8 240, .int .u8 240, .int .u8 240, .int .u8 240, .int .u8 240, .int .u8 240, .int .u8 240, .int .u8 240, .int .u8 240, .int .u8 240, .int .u8 240, .int .u8 240, .int .u8 240, .int .u8 240, .int .u8 240, .int .u8 240, .int .u8 240, .int .u8 240, .int .u8 240, .int .u8 240, .int .u8 240, .int .u8 240, .int .u8 240, .int .u8 240, .int .u8 240, .int .u8 240, .int .u8 240, .int .u8 240, .int .u8 240, .int .u8 240, .int .u8 240, .int .u8 240, .int .u8 240, .int .u8 240, .int .u8 240, .int .u8 240, .int .u8 240, .int .u8 240, .int .u8 240, .int .u8 240, .int .u8 240, .int .u8 240, .int .u8 240, .int .u8 240, .int .u8 240, .int .u8 240, .int .u8 240, .int .u8 240, .int .u8 240, .int .u8 240, .int .u8 240, .int .u8 240, .int .u8 240, .int .u8 240, .int .u8 240, .int .u8 240, .int .u8 240, .int .u8 240, .int .u8 240, .int .u8 240, .int .u8 240, .int .u8 240, .int .u8 240, .int .u8 240, .int .u8 240, .int .u8 240, .int .u8 240, .int .u8 240, .int .u8 240, .int .u8 240, .int .u8 240, .int .u8 240, .int .u8 241, .int .u8 241, .int .u8 241, .int .u8 241, .int .u8 241, .int .u8 241, .int .u8 241, .int .u8 241, .int .u8 241, .int .u8 241, .int .u8 241, .int .u8 241, .int .u8 241, .int .u8 241, .int .u8 241, .int .u8 241, .int .u8 241, .int .u8 241, .int .u8 241, .int .u8 241, .int .u8 241, .int .u8 241, .int .u8 241, .int .u8 241, .int .u8 241, .int .u8 241, .int .u8 241, .int .u8 241, .int .u8 241, .int .u8 241, .int .u8 241, .int .u8 241, .int .u8 241, .int .u8 241, .int .u8 241, .int .u8 241, .int .u8 241, .int .u8 241, .int .u8 241, .int .u8 241, .int .u8 241, .int .u8 241, .int .u8 241, .int .u8 241, .int .u8 241, .int .u8 241, .int .u8 241, .int .u8 241, .int .u8 241, .int .u8 241, .int .u8 241, .int .u8 241, .int .u8 241, .int .u8 241, .int .u8 241, .int .u8 241, .int .u8 241, .int .u8 241, .int .u8 241, .int .u8 241, .int .u8 241, .int .u8 241, .int .u8 241, .int .u8 241, .int .u8 241, .int .u8 241, .int .u8 2, .int .u8 2, .int .u8 2, .int .u8 2, .int .u8 2, .int .u8 2, .int .u8 2, .int .u8 2, .int .u8 2, .int .u8 2, .int .u8 2, .int .u8 2, .int .u8 2, .int .u8 2, .int .u8 2, .int .u8 2, .int .u8 2, .int .u8 2, .int .u8 2, .int .u8 2, .int .u8 2, .int .u8 2, .int .u8 2, .int .u8 2, .int .u8 2, .int .u8 2, .int .u8 2, .int .u8 2, .int .u8 2, .int .u8 2, .int .u8 19, .int .u8 3, .int .u8 3, .int .u8 3, .int .u8 3, .int .u8 3, .int .u8 3, .int .u8 3, .int .u8 3, .int .u8 3, .int .u8 3, .int .u8 3, .int .u8 3, .int .u8 35, .int .u8 3, .int .u8 3, .int .u8 52, .int .u8 4, .int .u8 4, .int .u8 4, .int .u8 68, .int .u8 241, .int .u8 241, .int .u8 241, .int .u8 241, .int .u8 241, .int .u8 241, .int .u8 241, .int .u8 241, .int .u8 241, .int .u8 241, .int .u8 241] t fz | o => o) }
theorem laid_met (os : Os) : laidMet Tryd.prog Rows.termBackRow.laid ((laidWorld os).forCall (fun _ _ => 0) ⟨#[], #[Value.agg #[.int .i64 0, .string ⟨#[]⟩, .string ⟨#[]⟩, .string ⟨#[]⟩], Value.string ⟨#[]⟩], []⟩).memory :=
  laidMet_of_run' 8 (by kernel_rfl) (by kernel_rfl)
theorem reads (os : Os) {H : Type} (enc : TypeId × Value → H) : ∃ places, DataW.whole enc Tryd.prog ((laidWorld os).forCall (fun _ _ => 0) ⟨#[], #[Value.agg #[.int .i64 0, .string ⟨#[]⟩, .string ⟨#[]⟩, .string ⟨#[]⟩], Value.string ⟨#[]⟩], []⟩).memory Tryd.f4.params.toList Rows.termBackSpec.vars false #[Value.agg #[.int .i64 0, .string ⟨#[]⟩, .string ⟨#[]⟩, .string ⟨#[]⟩], Value.string ⟨#[]⟩].toList 8 = some ([.agg [.lit (.int .i64 0), .lit (.string []), .lit (.string []), .lit (.string [])], .lit (.string [])], [], places) :=
  ⟨[], by kernel_rfl⟩
set_option maxRecDepth 100000 in
theorem lifted (os : Os) (started : os.Started) (H : Type) (enc : TypeId × Value → H) (F : Stop.Interp) :
    ReturnsInHanded {} Tryd.checked os 4 .any ((OpenSpec.ofChange Rows.termBackSpec).preRow enc Tryd.prog Tryd.f4 Rows.termBackRow.domain false Rows.termBackRow.laid) (((OpenSpec.ofChange Rows.termBackSpec).at F).post enc Tryd.prog Tryd.f4 false true false false) := by
  obtain ⟨places, hx⟩ := reads os enc
  refine returnsInHanded_of_row (C := Tryd.checked) (s := (OpenSpec.ofChange Rows.termBackSpec)) own started (by kernel_rfl) Tryd.func4
    (witness_row_at (enc := enc) (C := Tryd.checked) false (laidWorld os) #[.agg #[.int .i64 0, .string ⟨#[]⟩, .string ⟨#[]⟩, .string ⟨#[]⟩], .string ⟨#[]⟩] rfl (by kernel_rfl) (by kernel_rfl) (by kernel_rfl)
      (OpenSpec.preRow_of_cond 8 hx (by kernel_rfl) (fun k hk => by cases hk) (by kernel_rfl) (laid_met os))) ?_
  intro W base args ds gs before hval hW _ hcond hsz hL _ _
  exact contract H enc W base args ds gs before hval hW hsz hL
theorem said : Rows.TermBackSaid :=
  OpenClaim.holds_of_cond 4 Tryd.f4 rfl rfl rfl rfl rfl rfl rfl ⟨rfl, rfl, rfl, rfl, rfl⟩ rfl rfl rfl rfl rfl (by kernel_rfl) Tryd.func4 (by kernel_rfl)
    (of_decide_eq_true (by kernel_rfl)) (by unfold Func.isWrapper; first | (rw [if_pos (by decide +kernel)]; kernel_rfl) | (rw [if_neg (by decide +kernel)]; exact ⟨rfl, rfl⟩))
    (fun os started H enc _ F => by rw [OpenClaim.pre_eq_preRow]; exact lifted os started H enc F)
theorem plain (f : FuncId) (fn : Func) (hf : Tryd.pinned.checked.prog.funcNamed "tessera/tesseralaw07.TermBack" = some f) (hfn : Tryd.pinned.checked.prog.funcs[f]? = some fn) :
    true = Tryd.pinned.checked.prog.looks [] ∧ ∀ (j : Nat) t, fn.params[j]? = some t → Tryd.pinned.checked.prog.wantsStandIn t = false := by
  obtain rfl : f = 4 := Option.some.inj ((show Tryd.prog.funcNamed "tessera/tesseralaw07.TermBack" = some 4 by kernel_rfl).symm.trans hf) |>.symm
  obtain rfl : fn = Tryd.f4 := (Option.some.inj (Tryd.func4.symm.trans hfn)).symm
  refine ⟨by kernel_rfl, fun j t ht => ?_⟩
  have h : (Tryd.f4.params.toList.all fun t => !Tryd.prog.wantsStandIn t) = true := by kernel_rfl
  have := List.all_eq_true.1 h t (by simpa using Array.mem_of_getElem? ht)
  have e : Tryd.prog.wantsStandIn t = false := by simpa using this
  exact e
theorem card : Rows.TermBackCardSaid :=
  Claim7.holds_tied_plain_at .later [] _ _ _ _ said (fun _ h => by cases h) (by kernel_rfl) (fun _ h => by cases h) termBack_row_tie rfl ⟨rfl, rfl⟩ (by kernel_rfl) rfl plain (by kernel_rfl)
end Go.Proofs.YtpffclpheldabaaDoor.termBack
