/- TermNexts: the row and its card out of the walk. Conditions: none beyond the statement's own. -/
import Derived.Test.YtpffclpheldabaaGreatDoorCards
import Derived.Test.YtpffclpheldabaaGreatDoorTie
import Derived.Test.YtpffclpheldabaaGreatDoorTn5
/- The reference's Next and Parse, walked. Conditions: none. -/
set_option linter.unusedVariables false
set_option linter.unusedSimpArgs false
set_option maxRecDepth 20000
namespace Go.Proofs.YtpffclpheldabaaGreatDoor
open Go.Sx Go.Our
def plNext50 : Plan := (.take 0 1 (.fork 1 3 2 0 (planOf [(2, 0), (3, 1), (4, 0)]) (planOf [(3, 1), (1, 2), (4, 0)])))
def plNext51 : Plan := (.take 0 1 (.take 1 1 (.take 2 1 (.take 3 1 (.take 6 1 (.fork3 4 3 7 3 9 0 (.take 5 1 (.fork 7 3 9 0 (planOf [(8, 1), (9, 0), (10, 1), (11, 0)]) (planOf [(10, 1), (7, 2), (8, 1), (11, 0)]))) (.fork 4 3 9 0 (planOf [(5, 1), (8, 1), (9, 0), (10, 1), (11, 0)]) (planOf [(10, 1), (4, 2), (5, 1), (8, 1), (11, 0)])) (planOf [(10, 1), (4, 2), (5, 1), (7, 2), (8, 1), (11, 0)])))))))
def plNext52 : Plan := (.take 0 1 (.fork 1 3 2 0 (planOf [(2, 0), (3, 0)]) (planOf [(1, 2), (3, 0)])))
def R7T (u : (Int × Int) ⊕ (Tm × Int)) : SV := match u with
  | .inl e => .tup [zeroTm.sv, .int .i64 0, .agg [.int .i64 e.1, .int .i64 e.2]]
  | .inr (t, n) => .tup [t.sv, .int .i64 n, .agg [.int .i64 0, .int .i64 0]]
set_option maxHeartbeats 4000000 in
theorem rlit_does (s : List UInt8) (i : Nat) (hs : s.length ≤ 140737488351232) (hi : i < s.length) : Does Tryz.prog tab 45 0 [.str s, .int .i64 (i : Int)] [] [] (Val (R7T (litAt s i))) := by
  have hsm : Sm s := by omega
  have hw1 : IntKind.i64.wrap ((i : Int) + 1) = ((i + 1 : Nat) : Int) := by rw [wrap64 (by omega) (by omega)]; omega
  have hcl := rquoted_does s i hs hi
  have hqf := quot_fits s (i + 1) false
  cases hq : quotM s (i + 1) false with
  | inl e =>
    rw [hq] at hcl
    have hL : litAt s i = .inl (e, 90) := by unfold litAt; rw [hq]
    rw [hL]
    refine Does.enter tabOK (g := 45) (fn := Tryz.f45) Tryz.call45 Tryz.func45 rfl 132 rfl rfl [.cell 4 32, .tmp 5, .cell 6 43] rfl ?_
    intro w0 F η0 h0
    conv => whnf
    refine CALL.value hcl rfl rfl ?_
    conv => whnf
    repeat' ((first | with_reducible refine IF.tt ?_ | with_reducible refine IF.ff ?_ | refine DRAWN.of (id := 3) tabOK mixed plNext50 (by kernel_rfl) ?_ | refine DRAWN.of (id := 6) tabOK mixed plNext51 (by kernel_rfl) ?_ | refine DRAWN.of (id := 14) tabOK mixed plNext50 (by kernel_rfl) ?_ | refine DRAWN.of (id := 21) tabOK mixed plNext50 (by kernel_rfl) ?_ | with_reducible refine ADD.mk (fun _ _ => ?_) | with_reducible refine NEED.mk (Det.of rfl) ?_ | with_reducible refine FORK.mk ?_ ?_ | ((with_reducible refine NEED.mk ?_ ?_); (first | with_reducible rfl | omega | (simp (disch := omega) only [lnB, wrap64, wrap32] <;> omega) | (intro h; (try simp (disch := omega) only [hsB, hsC, lnB, wrap64, wrap32, simprocAttr] at h); (first | omega | (simp (disch := omega) only [lnB, wrap64, wrap32] <;> omega))) | (exact needApp 256 rfl rfl (by simp) (by simp) (by omega)) | (simp <;> omega))) | ((with_reducible apply GET.at); rfl) | ((with_reducible apply GETG.at); rfl) | ((with_reducible refine IF.mk (fun h => ?_) (fun h => ?_)) <;> (try simp (disch := omega) only [hsB, hsC, lnB, wrap64, wrap32, simprocAttr] at h) <;> try (exfalso; omega))) <;> conv => whnf)
    all_goals exact FIN.value h0 rfl rfl
  | inr e =>
    rw [hq] at hcl
    have he := hqf.1 e hq
    have hcut : List.take (((e : Nat) : Int).toNat - ((i + 1 : Nat) : Int).toNat) (List.drop ((i + 1 : Nat) : Int).toNat s) = (s.drop (i + 1)).take (e - (i + 1)) := by
      rw [show ((e : Nat) : Int).toNat = e by omega, show ((i + 1 : Nat) : Int).toNat = i + 1 by omega]
    have htl : ((s.drop (i + 1)).take (e - (i + 1))).length = e - (i + 1) := by simp; omega
    have hu := r4unescape_does ((s.drop (i + 1)).take (e - (i + 1))) 1 (by omega)
    have hup := unesc_place 1 ((s.drop (i + 1)).take (e - (i + 1))) 0
    have hul := unesc_len 1 ((s.drop (i + 1)).take (e - (i + 1))) 0
    cases hc : unescM 1 ((s.drop (i + 1)).take (e - (i + 1))) 0 with
    | inl x =>
      rw [hc] at hu
      have hx := hup x hc
      have hcd := unesc_code _ _ _ _ hc
      have hL : litAt s i = .inl (i + 1 + x.1, x.2) := by unfold litAt; rw [hq]; simp only; rw [hc]
      have hw3 : IntKind.i64.wrap (((i + 1 : Nat) : Int) + x.1) = (i : Int) + 1 + x.1 := by rw [wrap64 (by omega) (by omega)]; omega
      rw [hL]
      refine Does.enter tabOK (g := 45) (fn := Tryz.f45) Tryz.call45 Tryz.func45 rfl 132 rfl rfl [.cell 4 32, .tmp 5, .cell 6 43] rfl ?_
      intro w0 F η0 h0
      conv => whnf
      refine CALL.value hcl rfl rfl ?_
      conv => whnf
      repeat' ((first | with_reducible refine IF.tt ?_ | with_reducible refine IF.ff ?_ | refine DRAWN.of (id := 3) tabOK mixed plNext50 (by kernel_rfl) ?_ | refine DRAWN.of (id := 6) tabOK mixed plNext51 (by kernel_rfl) ?_ | refine DRAWN.of (id := 14) tabOK mixed plNext50 (by kernel_rfl) ?_ | refine DRAWN.of (id := 21) tabOK mixed plNext50 (by kernel_rfl) ?_ | with_reducible refine ADD.mk (fun _ _ => ?_) | with_reducible refine NEED.mk (Det.of rfl) ?_ | with_reducible refine FORK.mk ?_ ?_ | ((with_reducible refine NEED.mk ?_ ?_); (first | with_reducible rfl | omega | (simp (disch := omega) only [lnB, wrap64, wrap32] <;> omega) | (intro h; (try simp (disch := omega) only [hsB, hsC, lnB, wrap64, wrap32, simprocAttr] at h); (first | omega | (simp (disch := omega) only [lnB, wrap64, wrap32] <;> omega))) | (exact needApp 256 rfl rfl (by simp) (by simp) (by omega)) | (simp <;> omega))) | ((with_reducible apply GET.at); rfl) | ((with_reducible apply GETG.at); rfl) | ((with_reducible refine IF.mk (fun h => ?_) (fun h => ?_)) <;> (try simp (disch := omega) only [hsB, hsC, lnB, wrap64, wrap32, simprocAttr] at h) <;> try (exfalso; omega))) <;> conv => whnf)
      rw [hw1, hcut]
      refine CALL.value hu rfl rfl ?_
      conv => whnf
      repeat' ((first | with_reducible refine IF.tt ?_ | with_reducible refine IF.ff ?_ | refine DRAWN.of (id := 3) tabOK mixed plNext50 (by kernel_rfl) ?_ | refine DRAWN.of (id := 6) tabOK mixed plNext51 (by kernel_rfl) ?_ | refine DRAWN.of (id := 14) tabOK mixed plNext50 (by kernel_rfl) ?_ | refine DRAWN.of (id := 21) tabOK mixed plNext50 (by kernel_rfl) ?_ | with_reducible refine ADD.mk (fun _ _ => ?_) | with_reducible refine NEED.mk (Det.of rfl) ?_ | with_reducible refine FORK.mk ?_ ?_ | ((with_reducible refine NEED.mk ?_ ?_); (first | with_reducible rfl | omega | (simp (disch := omega) only [lnB, wrap64, wrap32] <;> omega) | (intro h; (try simp (disch := omega) only [hsB, hsC, lnB, wrap64, wrap32, simprocAttr] at h); (first | omega | (simp (disch := omega) only [lnB, wrap64, wrap32] <;> omega))) | (exact needApp 256 rfl rfl (by simp) (by simp) (by omega)) | (simp <;> omega))) | ((with_reducible apply GET.at); rfl) | ((with_reducible apply GETG.at); rfl) | ((with_reducible refine IF.mk (fun h => ?_) (fun h => ?_)) <;> (try simp (disch := omega) only [hsB, hsC, lnB, wrap64, wrap32, simprocAttr] at h) <;> try (exfalso; omega))) <;> conv => whnf)
      all_goals
        rw [hw1, hw3]
        exact FIN.value h0 rfl rfl
    | inr t =>
      rw [hc] at hu
      have ht := hul t hc
      clear hup hul
      rcases Nat.lt_or_ge 65536 t.length with hbig | hbig
      · have hL : litAt s i = .inl (i, 2) := by unfold litAt; rw [hq]; simp only; rw [hc]; simp only; rw [if_pos hbig]
        rw [hL]
        refine Does.enter tabOK (g := 45) (fn := Tryz.f45) Tryz.call45 Tryz.func45 rfl 132 rfl rfl [.cell 4 32, .tmp 5, .cell 6 43] rfl ?_
        intro w0 F η0 h0
        conv => whnf
        refine CALL.value hcl rfl rfl ?_
        conv => whnf
        repeat' ((first | with_reducible refine IF.tt ?_ | with_reducible refine IF.ff ?_ | refine DRAWN.of (id := 3) tabOK mixed plNext50 (by kernel_rfl) ?_ | refine DRAWN.of (id := 6) tabOK mixed plNext51 (by kernel_rfl) ?_ | refine DRAWN.of (id := 14) tabOK mixed plNext50 (by kernel_rfl) ?_ | refine DRAWN.of (id := 21) tabOK mixed plNext50 (by kernel_rfl) ?_ | with_reducible refine ADD.mk (fun _ _ => ?_) | with_reducible refine NEED.mk (Det.of rfl) ?_ | with_reducible refine FORK.mk ?_ ?_ | ((with_reducible refine NEED.mk ?_ ?_); (first | with_reducible rfl | omega | (simp (disch := omega) only [lnB, wrap64, wrap32] <;> omega) | (intro h; (try simp (disch := omega) only [hsB, hsC, lnB, wrap64, wrap32, simprocAttr] at h); (first | omega | (simp (disch := omega) only [lnB, wrap64, wrap32] <;> omega))) | (exact needApp 256 rfl rfl (by simp) (by simp) (by omega)) | (simp <;> omega))) | ((with_reducible apply GET.at); rfl) | ((with_reducible apply GETG.at); rfl) | ((with_reducible refine IF.mk (fun h => ?_) (fun h => ?_)) <;> (try simp (disch := omega) only [hsB, hsC, lnB, wrap64, wrap32, simprocAttr] at h) <;> try (exfalso; omega))) <;> conv => whnf)
        rw [hw1, hcut]
        refine CALL.value hu rfl rfl ?_
        conv => whnf
        repeat' ((first | with_reducible refine IF.tt ?_ | with_reducible refine IF.ff ?_ | refine DRAWN.of (id := 3) tabOK mixed plNext50 (by kernel_rfl) ?_ | refine DRAWN.of (id := 6) tabOK mixed plNext51 (by kernel_rfl) ?_ | refine DRAWN.of (id := 14) tabOK mixed plNext50 (by kernel_rfl) ?_ | refine DRAWN.of (id := 21) tabOK mixed plNext50 (by kernel_rfl) ?_ | with_reducible refine ADD.mk (fun _ _ => ?_) | with_reducible refine NEED.mk (Det.of rfl) ?_ | with_reducible refine FORK.mk ?_ ?_ | ((with_reducible refine NEED.mk ?_ ?_); (first | with_reducible rfl | omega | (simp (disch := omega) only [lnB, wrap64, wrap32] <;> omega) | (intro h; (try simp (disch := omega) only [hsB, hsC, lnB, wrap64, wrap32, simprocAttr] at h); (first | omega | (simp (disch := omega) only [lnB, wrap64, wrap32] <;> omega))) | (exact needApp 256 rfl rfl (by simp) (by simp) (by omega)) | (simp <;> omega))) | ((with_reducible apply GET.at); rfl) | ((with_reducible apply GETG.at); rfl) | ((with_reducible refine IF.mk (fun h => ?_) (fun h => ?_)) <;> (try simp (disch := omega) only [hsB, hsC, lnB, wrap64, wrap32, simprocAttr] at h) <;> try (exfalso; omega))) <;> conv => whnf)
        all_goals exact FIN.value h0 rfl rfl
      · have hL : litAt s i = typeAt t s (e + 1) := by unfold litAt; rw [hq]; simp only; rw [hc]; simp only; rw [if_neg (by omega)]
        rw [hL]
        have hwe : IntKind.i64.wrap ((e : Int) + 1) = ((e + 1 : Nat) : Int) := by rw [wrap64 (by omega) (by omega)]; omega
        have hwe2 : IntKind.i64.wrap (((e + 1 : Nat) : Int) + 1) = ((e + 1 + 1 : Nat) : Int) := by rw [wrap64 (by omega) (by omega)]; omega
        have hwf : IntKind.i64.wrap (((e + 1 : Nat) : Int) + 2) = ((e + 1 + 2 : Nat) : Int) := by rw [wrap64 (by omega) (by omega)]; omega
        have htg := fun h => rtag_does s (e + 1) hs h
        have hir := riri_does s (e + 1 + 2) hs (by omega)
        refine Does.enter tabOK (g := 45) (fn := Tryz.f45) Tryz.call45 Tryz.func45 rfl 132 rfl rfl [.cell 4 32, .tmp 5, .cell 6 43] rfl ?_
        intro w0 F η0 h0
        conv => whnf
        refine CALL.value hcl rfl rfl ?_
        conv => whnf
        repeat' ((first | with_reducible refine IF.tt ?_ | with_reducible refine IF.ff ?_ | refine DRAWN.of (id := 3) tabOK mixed plNext50 (by kernel_rfl) ?_ | refine DRAWN.of (id := 6) tabOK mixed plNext51 (by kernel_rfl) ?_ | refine DRAWN.of (id := 14) tabOK mixed plNext50 (by kernel_rfl) ?_ | refine DRAWN.of (id := 21) tabOK mixed plNext50 (by kernel_rfl) ?_ | with_reducible refine ADD.mk (fun _ _ => ?_) | with_reducible refine NEED.mk (Det.of rfl) ?_ | with_reducible refine FORK.mk ?_ ?_ | ((with_reducible refine NEED.mk ?_ ?_); (first | with_reducible rfl | omega | (simp (disch := omega) only [lnB, wrap64, wrap32] <;> omega) | (intro h; (try simp (disch := omega) only [hsB, hsC, lnB, wrap64, wrap32, simprocAttr] at h); (first | omega | (simp (disch := omega) only [lnB, wrap64, wrap32] <;> omega))) | (exact needApp 256 rfl rfl (by simp) (by simp) (by omega)) | (simp <;> omega))) | ((with_reducible apply GET.at); rfl) | ((with_reducible apply GETG.at); rfl) | ((with_reducible refine IF.mk (fun h => ?_) (fun h => ?_)) <;> (try simp (disch := omega) only [hsB, hsC, lnB, wrap64, wrap32, simprocAttr] at h) <;> try (exfalso; omega))) <;> conv => whnf)
        rw [hw1, hcut]
        refine CALL.value hu rfl rfl ?_
        conv => whnf
        have hE : ((e + 1 : Nat) : Int) = (e : Int) + 1 := by omega
        have hE2 : ((e + 1 + 1 : Nat) : Int) = (e : Int) + 1 + 1 := by omega
        repeat' ((first | with_reducible refine IF.tt ?_ | with_reducible refine IF.ff ?_ | refine DRAWN.of (id := 3) tabOK mixed plNext50 (by kernel_rfl) ?_ | refine DRAWN.of (id := 6) tabOK mixed plNext51 (by kernel_rfl) ?_ | refine DRAWN.of (id := 14) tabOK mixed plNext50 (by kernel_rfl) ?_ | refine DRAWN.of (id := 21) tabOK mixed plNext50 (by kernel_rfl) ?_ | with_reducible refine ADD.mk (fun _ _ => ?_) | with_reducible refine NEED.mk (Det.of rfl) ?_ | with_reducible refine FORK.mk ?_ ?_ | ((with_reducible refine NEED.mk ?_ ?_); (first | with_reducible rfl | omega | (simp (disch := omega) only [lnB, wrap64, wrap32] <;> omega) | (intro h; (try simp (disch := omega) only [hsB, hsC, lnB, wrap64, wrap32, simprocAttr] at h); (first | omega | (simp (disch := omega) only [lnB, wrap64, wrap32] <;> omega))) | (exact needApp 256 rfl rfl (by simp) (by simp) (by omega)) | (simp <;> omega))) | ((with_reducible apply GET.at); rfl) | ((with_reducible apply GETG.at); rfl) | ((with_reducible refine IF.mk (fun h => ?_) (fun h => ?_)) <;> (try simp (disch := omega) only [hsB, hsC, lnB, wrap64, wrap32, simprocAttr] at h) <;> try (exfalso; omega))) <;> conv => whnf)
        · have c64 : e + 1 < s.length ∧ byteAt s ((e + 1 : Nat) : Int) = 64 := by rw [hE]; exact ⟨by omega, h.2⟩
          have hT : typeAt t s (e + 1) = tagTm 3 t (tagAt s (e + 1)) := by unfold typeAt; rw [if_pos c64]
          have htg := htg c64.1
          rw [hwe, hT]
          cases hR : tagAt s (e + 1) with
          | inl x =>
            have hcd := tagAt_code _ _ _ hR
            rw [hR] at htg
            refine CALL.value htg rfl rfl ?_
            conv => whnf
            repeat' ((first | with_reducible refine IF.tt ?_ | with_reducible refine IF.ff ?_ | refine DRAWN.of (id := 3) tabOK mixed plNext50 (by kernel_rfl) ?_ | refine DRAWN.of (id := 6) tabOK mixed plNext51 (by kernel_rfl) ?_ | refine DRAWN.of (id := 14) tabOK mixed plNext50 (by kernel_rfl) ?_ | refine DRAWN.of (id := 21) tabOK mixed plNext50 (by kernel_rfl) ?_ | with_reducible refine ADD.mk (fun _ _ => ?_) | with_reducible refine NEED.mk (Det.of rfl) ?_ | with_reducible refine FORK.mk ?_ ?_ | ((with_reducible refine NEED.mk ?_ ?_); (first | with_reducible rfl | omega | (simp (disch := omega) only [lnB, wrap64, wrap32] <;> omega) | (intro h; (try simp (disch := omega) only [hsB, hsC, lnB, wrap64, wrap32, simprocAttr] at h); (first | omega | (simp (disch := omega) only [lnB, wrap64, wrap32] <;> omega))) | (exact needApp 256 rfl rfl (by simp) (by simp) (by omega)) | (simp <;> omega))) | ((with_reducible apply GET.at); rfl) | ((with_reducible apply GETG.at); rfl) | ((with_reducible refine IF.mk (fun h => ?_) (fun h => ?_)) <;> (try simp (disch := omega) only [hsB, hsC, lnB, wrap64, wrap32, simprocAttr] at h) <;> try (exfalso; omega))) <;> conv => whnf)
            all_goals exact FIN.value h0 rfl rfl
          | inr x =>
            obtain ⟨y, n⟩ := x
            rw [hR] at htg
            refine CALL.value htg rfl rfl ?_
            conv => whnf
            repeat' ((first | with_reducible refine IF.tt ?_ | with_reducible refine IF.ff ?_ | refine DRAWN.of (id := 3) tabOK mixed plNext50 (by kernel_rfl) ?_ | refine DRAWN.of (id := 6) tabOK mixed plNext51 (by kernel_rfl) ?_ | refine DRAWN.of (id := 14) tabOK mixed plNext50 (by kernel_rfl) ?_ | refine DRAWN.of (id := 21) tabOK mixed plNext50 (by kernel_rfl) ?_ | with_reducible refine ADD.mk (fun _ _ => ?_) | with_reducible refine NEED.mk (Det.of rfl) ?_ | with_reducible refine FORK.mk ?_ ?_ | ((with_reducible refine NEED.mk ?_ ?_); (first | with_reducible rfl | omega | (simp (disch := omega) only [lnB, wrap64, wrap32] <;> omega) | (intro h; (try simp (disch := omega) only [hsB, hsC, lnB, wrap64, wrap32, simprocAttr] at h); (first | omega | (simp (disch := omega) only [lnB, wrap64, wrap32] <;> omega))) | (exact needApp 256 rfl rfl (by simp) (by simp) (by omega)) | (simp <;> omega))) | ((with_reducible apply GET.at); rfl) | ((with_reducible apply GETG.at); rfl) | ((with_reducible refine IF.mk (fun h => ?_) (fun h => ?_)) <;> (try simp (disch := omega) only [hsB, hsC, lnB, wrap64, wrap32, simprocAttr] at h) <;> try (exfalso; omega))) <;> conv => whnf)
            all_goals exact FIN.value h0 rfl rfl
        · rename_i h9
          have c64 : ¬ (e + 1 < s.length ∧ byteAt s ((e + 1 : Nat) : Int) = 64) := by rw [hE]; intro hh; exact h9 (by omega) hh.2
          have c94 : e + 1 + 1 < s.length ∧ byteAt s ((e + 1 : Nat) : Int) = 94 ∧ byteAt s ((e + 1 + 1 : Nat) : Int) = 94 := by rw [hE, hE2]; exact ⟨by omega, h.1.2, h.2⟩
          rw [hwe, hwf]
          by_cases c60 : e + 1 + 2 < s.length ∧ byteAt s ((e + 1 + 2 : Nat) : Int) = 60
          · rw [if_pos c60] at hir
            have hT : typeAt t s (e + 1) = (match iriAt s (e + 1 + 2) with
                | .inl x => .inl x
                | .inr (y, n) => if y = taggedB then .inl ((e + 1 : Nat), 71) else .inr (⟨3, t, y, []⟩, n)) := by unfold typeAt; rw [if_neg c64, if_pos c94, if_neg (fun hh => hh c60)]; try rfl
            rw [hT]
            cases hR : iriAt s (e + 1 + 2) with
            | inl x =>
              have hcd := iriAt_code _ _ _ hR
              rw [hR] at hir
              refine CALL.value hir rfl rfl ?_
              conv => whnf
              repeat' ((first | with_reducible refine IF.tt ?_ | with_reducible refine IF.ff ?_ | refine DRAWN.of (id := 3) tabOK mixed plNext50 (by kernel_rfl) ?_ | refine DRAWN.of (id := 6) tabOK mixed plNext51 (by kernel_rfl) ?_ | refine DRAWN.of (id := 14) tabOK mixed plNext50 (by kernel_rfl) ?_ | refine DRAWN.of (id := 21) tabOK mixed plNext50 (by kernel_rfl) ?_ | with_reducible refine ADD.mk (fun _ _ => ?_) | with_reducible refine NEED.mk (Det.of rfl) ?_ | with_reducible refine FORK.mk ?_ ?_ | ((with_reducible refine NEED.mk ?_ ?_); (first | with_reducible rfl | omega | (simp (disch := omega) only [lnB, wrap64, wrap32] <;> omega) | (intro h; (try simp (disch := omega) only [hsB, hsC, lnB, wrap64, wrap32, simprocAttr] at h); (first | omega | (simp (disch := omega) only [lnB, wrap64, wrap32] <;> omega))) | (exact needApp 256 rfl rfl (by simp) (by simp) (by omega)) | (simp <;> omega))) | ((with_reducible apply GET.at); rfl) | ((with_reducible apply GETG.at); rfl) | ((with_reducible refine IF.mk (fun h => ?_) (fun h => ?_)) <;> (try simp (disch := omega) only [hsB, hsC, lnB, wrap64, wrap32, simprocAttr] at h) <;> try (exfalso; omega))) <;> conv => whnf)
              all_goals exact FIN.value h0 rfl rfl
            | inr x =>
              obtain ⟨y, n⟩ := x
              rw [hR] at hir
              refine CALL.value hir rfl rfl ?_
              conv => whnf
              repeat' ((first | with_reducible refine IF.tt ?_ | with_reducible refine IF.ff ?_ | refine DRAWN.of (id := 3) tabOK mixed plNext50 (by kernel_rfl) ?_ | refine DRAWN.of (id := 6) tabOK mixed plNext51 (by kernel_rfl) ?_ | refine DRAWN.of (id := 14) tabOK mixed plNext50 (by kernel_rfl) ?_ | refine DRAWN.of (id := 21) tabOK mixed plNext50 (by kernel_rfl) ?_ | with_reducible refine ADD.mk (fun _ _ => ?_) | with_reducible refine NEED.mk (Det.of rfl) ?_ | with_reducible refine FORK.mk ?_ ?_ | ((with_reducible refine NEED.mk ?_ ?_); (first | with_reducible rfl | omega | (simp (disch := omega) only [lnB, wrap64, wrap32] <;> omega) | (intro h; (try simp (disch := omega) only [hsB, hsC, lnB, wrap64, wrap32, simprocAttr] at h); (first | omega | (simp (disch := omega) only [lnB, wrap64, wrap32] <;> omega))) | (exact needApp 256 rfl rfl (by simp) (by simp) (by omega)) | (simp <;> omega))) | ((with_reducible apply GET.at); rfl) | ((with_reducible apply GETG.at); rfl) | ((with_reducible refine IF.mk (fun h => ?_) (fun h => ?_)) <;> (try simp (disch := omega) only [hsB, hsC, lnB, wrap64, wrap32, simprocAttr] at h) <;> try (exfalso; omega))) <;> conv => whnf)
              · have hy : y = taggedB := by assumption
                simp only
                rw [if_pos hy]
                exact FIN.value h0 rfl rfl
              · have hy : ¬ y = taggedB := by assumption
                simp only
                rw [if_neg hy]
                exact FIN.value h0 rfl rfl
          · rw [if_neg c60] at hir
            have hT : typeAt t s (e + 1) = .inl ((e + 1 : Nat) + 2, 90) := by unfold typeAt; rw [if_neg c64, if_pos c94, if_pos c60]
            rw [hT]
            refine CALL.value hir rfl rfl ?_
            conv => whnf
            repeat' ((first | with_reducible refine IF.tt ?_ | with_reducible refine IF.ff ?_ | refine DRAWN.of (id := 3) tabOK mixed plNext50 (by kernel_rfl) ?_ | refine DRAWN.of (id := 6) tabOK mixed plNext51 (by kernel_rfl) ?_ | refine DRAWN.of (id := 14) tabOK mixed plNext50 (by kernel_rfl) ?_ | refine DRAWN.of (id := 21) tabOK mixed plNext50 (by kernel_rfl) ?_ | with_reducible refine ADD.mk (fun _ _ => ?_) | with_reducible refine NEED.mk (Det.of rfl) ?_ | with_reducible refine FORK.mk ?_ ?_ | ((with_reducible refine NEED.mk ?_ ?_); (first | with_reducible rfl | omega | (simp (disch := omega) only [lnB, wrap64, wrap32] <;> omega) | (intro h; (try simp (disch := omega) only [hsB, hsC, lnB, wrap64, wrap32, simprocAttr] at h); (first | omega | (simp (disch := omega) only [lnB, wrap64, wrap32] <;> omega))) | (exact needApp 256 rfl rfl (by simp) (by simp) (by omega)) | (simp <;> omega))) | ((with_reducible apply GET.at); rfl) | ((with_reducible apply GETG.at); rfl) | ((with_reducible refine IF.mk (fun h => ?_) (fun h => ?_)) <;> (try simp (disch := omega) only [hsB, hsC, lnB, wrap64, wrap32, simprocAttr] at h) <;> try (exfalso; omega))) <;> conv => whnf)
            all_goals exact FIN.value h0 rfl rfl
        · rename_i h9
          have c64 : ¬ (e + 1 < s.length ∧ byteAt s ((e + 1 : Nat) : Int) = 64) := by rw [hE]; intro hh; exact h9 (by omega) hh.2
          have c94 : ¬ (e + 1 + 1 < s.length ∧ byteAt s ((e + 1 : Nat) : Int) = 94 ∧ byteAt s ((e + 1 + 1 : Nat) : Int) = 94) := by rw [hE, hE2]; intro hh; exact h ⟨by omega, hh.2.1⟩ hh.2.2
          have hT : typeAt t s (e + 1) = .inr (⟨3, t, plainB, []⟩, (e + 1 : Nat)) := by unfold typeAt; rw [if_neg c64, if_neg c94]
          rw [hwe, hT]
          exact FIN.value h0 rfl rfl
theorem rnext_does (s : List UInt8) (a : Int) (hs : s.length ≤ 140737488351232) : Does Tryz.prog tab 16 0 [.str s, .int .i64 a] [] [] (Val (R7T (nextM s a))) := by
  have hsm : Sm s := by omega
  by_cases ha : a < 0 ∨ (s.length : Int) < a
  · have hN : nextM s a = .inl (-1, 90) := by unfold nextM; rw [if_pos ha]
    rw [hN]
    refine Does.enter tabOK (g := 16) (fn := Tryz.f16) Tryz.call16 Tryz.func16 rfl 107 rfl rfl [.cell 4 32, .tmp 5, .cell 6 43] rfl ?_
    intro w0 F η0 h0
    conv => whnf
    repeat' ((first | with_reducible refine IF.tt ?_ | with_reducible refine IF.ff ?_ | refine DRAWN.of (id := 9) tabOK mixed plNext50 (by kernel_rfl) ?_ | with_reducible refine ADD.mk (fun _ _ => ?_) | with_reducible refine NEED.mk (Det.of rfl) ?_ | with_reducible refine FORK.mk ?_ ?_ | ((with_reducible refine NEED.mk ?_ ?_); (first | with_reducible rfl | omega | (simp (disch := omega) only [lnB, wrap64, wrap32] <;> omega) | (intro h; (try simp (disch := omega) only [hsB, hsC, lnB, wrap64, wrap32, simprocAttr] at h); (first | omega | (simp (disch := omega) only [lnB, wrap64, wrap32] <;> omega))) | (exact needApp 256 rfl rfl (by simp) (by simp) (by omega)) | (simp <;> omega))) | ((with_reducible apply GET.at); rfl) | ((with_reducible apply GETG.at); rfl) | ((with_reducible refine IF.mk (fun h => ?_) (fun h => ?_)) <;> (try simp (disch := omega) only [hsB, hsC, lnB, wrap64, wrap32, simprocAttr] at h) <;> try (exfalso; omega))) <;> conv => whnf)
    all_goals exact FIN.value h0 rfl rfl
  obtain ⟨i, rfl⟩ : ∃ i : Nat, a = i := ⟨a.toNat, by omega⟩
  have hi : i ≤ s.length := by omega
  have hN : nextM s (i : Int) = nextN s i := by unfold nextM; rw [if_neg ha, Int.toNat_natCast]
  rw [hN]
  rcases Nat.lt_or_ge i s.length with hlt | hge
  · have hw1 : IntKind.i64.wrap ((i : Int) + 1) = ((i + 1 : Nat) : Int) := by rw [wrap64 (by omega) (by omega)]; omega
    have hw2 : IntKind.i64.wrap ((i : Int) + 2) = ((i + 2 : Nat) : Int) := by rw [wrap64 (by omega) (by omega)]; omega
    have hE : ((i + 1 : Nat) : Int) = (i : Int) + 1 := by omega
    have hE2 : ((i + 2 : Nat) : Int) = (i : Int) + 2 := by omega
    have hir := riri_does s i hs (by omega)
    have hli := rlit_does s i hs hlt
    have hle := run_le LabelI s (i + 2)
    by_cases h60 : byteAt s i = 60
    · have hX : nextN s i = iriTm (iriAt s i) := by unfold nextN; rw [if_neg (by omega), if_pos h60]
      rw [if_pos ⟨hlt, h60⟩] at hir
      rw [hX]
      cases hR : iriAt s i with
      | inl x =>
        have hcd := iriAt_code _ _ _ hR
        rw [hR] at hir
        refine Does.enter tabOK (g := 16) (fn := Tryz.f16) Tryz.call16 Tryz.func16 rfl 107 rfl rfl [.cell 4 32, .tmp 5, .cell 6 43] rfl ?_
        intro w0 F η0 h0
        conv => whnf
        repeat' ((first | with_reducible refine IF.tt ?_ | with_reducible refine IF.ff ?_ | refine DRAWN.of (id := 9) tabOK mixed plNext50 (by kernel_rfl) ?_ | with_reducible refine ADD.mk (fun _ _ => ?_) | with_reducible refine NEED.mk (Det.of rfl) ?_ | with_reducible refine FORK.mk ?_ ?_ | ((with_reducible refine NEED.mk ?_ ?_); (first | with_reducible rfl | omega | (simp (disch := omega) only [lnB, wrap64, wrap32] <;> omega) | (intro h; (try simp (disch := omega) only [hsB, hsC, lnB, wrap64, wrap32, simprocAttr] at h); (first | omega | (simp (disch := omega) only [lnB, wrap64, wrap32] <;> omega))) | (exact needApp 256 rfl rfl (by simp) (by simp) (by omega)) | (simp <;> omega))) | ((with_reducible apply GET.at); rfl) | ((with_reducible apply GETG.at); rfl) | ((with_reducible refine IF.mk (fun h => ?_) (fun h => ?_)) <;> (try simp (disch := omega) only [hsB, hsC, lnB, wrap64, wrap32, simprocAttr] at h) <;> try (exfalso; omega))) <;> conv => whnf)
        refine CALL.value hir rfl rfl ?_
        conv => whnf
        repeat' ((first | with_reducible refine IF.tt ?_ | with_reducible refine IF.ff ?_ | refine DRAWN.of (id := 9) tabOK mixed plNext50 (by kernel_rfl) ?_ | with_reducible refine ADD.mk (fun _ _ => ?_) | with_reducible refine NEED.mk (Det.of rfl) ?_ | with_reducible refine FORK.mk ?_ ?_ | ((with_reducible refine NEED.mk ?_ ?_); (first | with_reducible rfl | omega | (simp (disch := omega) only [lnB, wrap64, wrap32] <;> omega) | (intro h; (try simp (disch := omega) only [hsB, hsC, lnB, wrap64, wrap32, simprocAttr] at h); (first | omega | (simp (disch := omega) only [lnB, wrap64, wrap32] <;> omega))) | (exact needApp 256 rfl rfl (by simp) (by simp) (by omega)) | (simp <;> omega))) | ((with_reducible apply GET.at); rfl) | ((with_reducible apply GETG.at); rfl) | ((with_reducible refine IF.mk (fun h => ?_) (fun h => ?_)) <;> (try simp (disch := omega) only [hsB, hsC, lnB, wrap64, wrap32, simprocAttr] at h) <;> try (exfalso; omega))) <;> conv => whnf)
        all_goals exact FIN.value h0 rfl rfl
      | inr x =>
        obtain ⟨y, n⟩ := x
        rw [hR] at hir
        refine Does.enter tabOK (g := 16) (fn := Tryz.f16) Tryz.call16 Tryz.func16 rfl 107 rfl rfl [.cell 4 32, .tmp 5, .cell 6 43] rfl ?_
        intro w0 F η0 h0
        conv => whnf
        repeat' ((first | with_reducible refine IF.tt ?_ | with_reducible refine IF.ff ?_ | refine DRAWN.of (id := 9) tabOK mixed plNext50 (by kernel_rfl) ?_ | with_reducible refine ADD.mk (fun _ _ => ?_) | with_reducible refine NEED.mk (Det.of rfl) ?_ | with_reducible refine FORK.mk ?_ ?_ | ((with_reducible refine NEED.mk ?_ ?_); (first | with_reducible rfl | omega | (simp (disch := omega) only [lnB, wrap64, wrap32] <;> omega) | (intro h; (try simp (disch := omega) only [hsB, hsC, lnB, wrap64, wrap32, simprocAttr] at h); (first | omega | (simp (disch := omega) only [lnB, wrap64, wrap32] <;> omega))) | (exact needApp 256 rfl rfl (by simp) (by simp) (by omega)) | (simp <;> omega))) | ((with_reducible apply GET.at); rfl) | ((with_reducible apply GETG.at); rfl) | ((with_reducible refine IF.mk (fun h => ?_) (fun h => ?_)) <;> (try simp (disch := omega) only [hsB, hsC, lnB, wrap64, wrap32, simprocAttr] at h) <;> try (exfalso; omega))) <;> conv => whnf)
        refine CALL.value hir rfl rfl ?_
        conv => whnf
        repeat' ((first | with_reducible refine IF.tt ?_ | with_reducible refine IF.ff ?_ | refine DRAWN.of (id := 9) tabOK mixed plNext50 (by kernel_rfl) ?_ | with_reducible refine ADD.mk (fun _ _ => ?_) | with_reducible refine NEED.mk (Det.of rfl) ?_ | with_reducible refine FORK.mk ?_ ?_ | ((with_reducible refine NEED.mk ?_ ?_); (first | with_reducible rfl | omega | (simp (disch := omega) only [lnB, wrap64, wrap32] <;> omega) | (intro h; (try simp (disch := omega) only [hsB, hsC, lnB, wrap64, wrap32, simprocAttr] at h); (first | omega | (simp (disch := omega) only [lnB, wrap64, wrap32] <;> omega))) | (exact needApp 256 rfl rfl (by simp) (by simp) (by omega)) | (simp <;> omega))) | ((with_reducible apply GET.at); rfl) | ((with_reducible apply GETG.at); rfl) | ((with_reducible refine IF.mk (fun h => ?_) (fun h => ?_)) <;> (try simp (disch := omega) only [hsB, hsC, lnB, wrap64, wrap32, simprocAttr] at h) <;> try (exfalso; omega))) <;> conv => whnf)
        all_goals exact FIN.value h0 rfl rfl
    by_cases h95 : byteAt s i = 95
    · have hX : nextN s i = blankAt s i := by unfold nextN; rw [if_neg (by omega), if_neg h60, if_pos h95]
      rw [hX]
      refine Does.enter tabOK (g := 16) (fn := Tryz.f16) Tryz.call16 Tryz.func16 rfl 107 rfl rfl [.cell 4 32, .tmp 5, .cell 6 43] rfl ?_
      intro w0 F η0 h0
      conv => whnf
      repeat' ((first | with_reducible refine IF.tt ?_ | with_reducible refine IF.ff ?_ | refine DRAWN.of (id := 9) tabOK mixed plNext50 (by kernel_rfl) ?_ | with_reducible refine ADD.mk (fun _ _ => ?_) | with_reducible refine NEED.mk (Det.of rfl) ?_ | with_reducible refine FORK.mk ?_ ?_ | (rw [hw2]; refine CALL.value (r6LabelAt_does s (i + 2) hsm (by omega)) rfl rfl ?_; conv => whnf) | ((with_reducible refine NEED.mk ?_ ?_); (first | with_reducible rfl | omega | (simp (disch := omega) only [lnB, wrap64, wrap32] <;> omega) | (intro h; (try simp (disch := omega) only [hsB, hsC, lnB, wrap64, wrap32, simprocAttr] at h); (first | omega | (simp (disch := omega) only [lnB, wrap64, wrap32] <;> omega))) | (exact needApp 256 rfl rfl (by simp) (by simp) (by omega)) | (simp <;> omega))) | ((with_reducible apply GET.at); rfl) | ((with_reducible apply GETG.at); rfl) | ((with_reducible refine IF.mk (fun h => ?_) (fun h => ?_)) <;> (try simp (disch := omega) only [hsB, hsC, lnB, wrap64, wrap32, simprocAttr] at h) <;> try (exfalso; omega))) <;> conv => whnf)
      · have hb : blankAt s i = .inl (i + 1, 90) := by
          unfold blankAt; rw [if_pos (by rw [hE]; omega)]
        rw [hb, hw1, hE]
        exact FIN.value h0 rfl rfl
      · have hb : blankAt s i = .inl (i + 2, 60) := by
          unfold blankAt; rw [if_neg (by rw [hE]; omega), if_pos h]
        rw [hb, hw2, hE2]
        exact FIN.value h0 rfl rfl
      · have hb : blankAt s i = .inl (i, 2) := by
          unfold blankAt; rw [if_neg (by rw [hE]; omega), if_neg (by assumption), if_pos h]
        rw [hb]
        exact FIN.value h0 rfl rfl
      · have hr : 0 < runM LabelI s (i + 2 : Nat) := by omega
        have hr2 := hle.2 hr
        have hb : blankAt s i = .inr (⟨2, (s.drop (i + 2)).take (runM LabelI s (i + 2 : Nat)).toNat, [], []⟩, i + 2 + runM LabelI s (i + 2 : Nat)) := by
          unfold blankAt; rw [if_neg (by rw [hE]; omega), if_neg (by assumption), if_neg (by omega)]
        have hw3 : IntKind.i64.wrap (((i + 2 : Nat) : Int) + runM LabelI s (i + 2 : Nat)) = (i : Int) + 2 + runM LabelI s (i + 2 : Nat) := by rw [wrap64 (by omega) (by omega)]; omega
        rw [hb, hw2, hw3, show ((i : Int) + 2 + runM LabelI s (i + 2 : Nat)).toNat - ((i + 2 : Nat) : Int).toNat = (runM LabelI s (i + 2 : Nat)).toNat by omega, show ((i + 2 : Nat) : Int).toNat = i + 2 by omega]
        exact FIN.value h0 rfl rfl
    by_cases h34 : byteAt s i = 34
    · have hX : nextN s i = litAt s i := by unfold nextN; rw [if_neg (by omega), if_neg h60, if_neg h95, if_pos h34]
      rw [hX]
      cases hR : litAt s i with
      | inl x =>
        rw [hR] at hli
        refine Does.enter tabOK (g := 16) (fn := Tryz.f16) Tryz.call16 Tryz.func16 rfl 107 rfl rfl [.cell 4 32, .tmp 5, .cell 6 43] rfl ?_
        intro w0 F η0 h0
        conv => whnf
        repeat' ((first | with_reducible refine IF.tt ?_ | with_reducible refine IF.ff ?_ | refine DRAWN.of (id := 9) tabOK mixed plNext50 (by kernel_rfl) ?_ | with_reducible refine ADD.mk (fun _ _ => ?_) | with_reducible refine NEED.mk (Det.of rfl) ?_ | with_reducible refine FORK.mk ?_ ?_ | ((with_reducible refine NEED.mk ?_ ?_); (first | with_reducible rfl | omega | (simp (disch := omega) only [lnB, wrap64, wrap32] <;> omega) | (intro h; (try simp (disch := omega) only [hsB, hsC, lnB, wrap64, wrap32, simprocAttr] at h); (first | omega | (simp (disch := omega) only [lnB, wrap64, wrap32] <;> omega))) | (exact needApp 256 rfl rfl (by simp) (by simp) (by omega)) | (simp <;> omega))) | ((with_reducible apply GET.at); rfl) | ((with_reducible apply GETG.at); rfl) | ((with_reducible refine IF.mk (fun h => ?_) (fun h => ?_)) <;> (try simp (disch := omega) only [hsB, hsC, lnB, wrap64, wrap32, simprocAttr] at h) <;> try (exfalso; omega))) <;> conv => whnf)
        refine CALL.value hli rfl rfl ?_
        conv => whnf
        repeat' ((first | with_reducible refine IF.tt ?_ | with_reducible refine IF.ff ?_ | refine DRAWN.of (id := 9) tabOK mixed plNext50 (by kernel_rfl) ?_ | with_reducible refine ADD.mk (fun _ _ => ?_) | with_reducible refine NEED.mk (Det.of rfl) ?_ | with_reducible refine FORK.mk ?_ ?_ | ((with_reducible refine NEED.mk ?_ ?_); (first | with_reducible rfl | omega | (simp (disch := omega) only [lnB, wrap64, wrap32] <;> omega) | (intro h; (try simp (disch := omega) only [hsB, hsC, lnB, wrap64, wrap32, simprocAttr] at h); (first | omega | (simp (disch := omega) only [lnB, wrap64, wrap32] <;> omega))) | (exact needApp 256 rfl rfl (by simp) (by simp) (by omega)) | (simp <;> omega))) | ((with_reducible apply GET.at); rfl) | ((with_reducible apply GETG.at); rfl) | ((with_reducible refine IF.mk (fun h => ?_) (fun h => ?_)) <;> (try simp (disch := omega) only [hsB, hsC, lnB, wrap64, wrap32, simprocAttr] at h) <;> try (exfalso; omega))) <;> conv => whnf)
        all_goals exact FIN.value h0 rfl rfl
      | inr x =>
        obtain ⟨y, n⟩ := x
        rw [hR] at hli
        refine Does.enter tabOK (g := 16) (fn := Tryz.f16) Tryz.call16 Tryz.func16 rfl 107 rfl rfl [.cell 4 32, .tmp 5, .cell 6 43] rfl ?_
        intro w0 F η0 h0
        conv => whnf
        repeat' ((first | with_reducible refine IF.tt ?_ | with_reducible refine IF.ff ?_ | refine DRAWN.of (id := 9) tabOK mixed plNext50 (by kernel_rfl) ?_ | with_reducible refine ADD.mk (fun _ _ => ?_) | with_reducible refine NEED.mk (Det.of rfl) ?_ | with_reducible refine FORK.mk ?_ ?_ | ((with_reducible refine NEED.mk ?_ ?_); (first | with_reducible rfl | omega | (simp (disch := omega) only [lnB, wrap64, wrap32] <;> omega) | (intro h; (try simp (disch := omega) only [hsB, hsC, lnB, wrap64, wrap32, simprocAttr] at h); (first | omega | (simp (disch := omega) only [lnB, wrap64, wrap32] <;> omega))) | (exact needApp 256 rfl rfl (by simp) (by simp) (by omega)) | (simp <;> omega))) | ((with_reducible apply GET.at); rfl) | ((with_reducible apply GETG.at); rfl) | ((with_reducible refine IF.mk (fun h => ?_) (fun h => ?_)) <;> (try simp (disch := omega) only [hsB, hsC, lnB, wrap64, wrap32, simprocAttr] at h) <;> try (exfalso; omega))) <;> conv => whnf)
        refine CALL.value hli rfl rfl ?_
        conv => whnf
        repeat' ((first | with_reducible refine IF.tt ?_ | with_reducible refine IF.ff ?_ | refine DRAWN.of (id := 9) tabOK mixed plNext50 (by kernel_rfl) ?_ | with_reducible refine ADD.mk (fun _ _ => ?_) | with_reducible refine NEED.mk (Det.of rfl) ?_ | with_reducible refine FORK.mk ?_ ?_ | ((with_reducible refine NEED.mk ?_ ?_); (first | with_reducible rfl | omega | (simp (disch := omega) only [lnB, wrap64, wrap32] <;> omega) | (intro h; (try simp (disch := omega) only [hsB, hsC, lnB, wrap64, wrap32, simprocAttr] at h); (first | omega | (simp (disch := omega) only [lnB, wrap64, wrap32] <;> omega))) | (exact needApp 256 rfl rfl (by simp) (by simp) (by omega)) | (simp <;> omega))) | ((with_reducible apply GET.at); rfl) | ((with_reducible apply GETG.at); rfl) | ((with_reducible refine IF.mk (fun h => ?_) (fun h => ?_)) <;> (try simp (disch := omega) only [hsB, hsC, lnB, wrap64, wrap32, simprocAttr] at h) <;> try (exfalso; omega))) <;> conv => whnf)
        all_goals exact FIN.value h0 rfl rfl
    · have hX : nextN s i = .inl (i, 90) := by unfold nextN; rw [if_neg (by omega), if_neg h60, if_neg h95, if_neg h34]
      rw [hX]
      refine Does.enter tabOK (g := 16) (fn := Tryz.f16) Tryz.call16 Tryz.func16 rfl 107 rfl rfl [.cell 4 32, .tmp 5, .cell 6 43] rfl ?_
      intro w0 F η0 h0
      conv => whnf
      repeat' ((first | with_reducible refine IF.tt ?_ | with_reducible refine IF.ff ?_ | refine DRAWN.of (id := 9) tabOK mixed plNext50 (by kernel_rfl) ?_ | with_reducible refine ADD.mk (fun _ _ => ?_) | with_reducible refine NEED.mk (Det.of rfl) ?_ | with_reducible refine FORK.mk ?_ ?_ | ((with_reducible refine NEED.mk ?_ ?_); (first | with_reducible rfl | omega | (simp (disch := omega) only [lnB, wrap64, wrap32] <;> omega) | (intro h; (try simp (disch := omega) only [hsB, hsC, lnB, wrap64, wrap32, simprocAttr] at h); (first | omega | (simp (disch := omega) only [lnB, wrap64, wrap32] <;> omega))) | (exact needApp 256 rfl rfl (by simp) (by simp) (by omega)) | (simp <;> omega))) | ((with_reducible apply GET.at); rfl) | ((with_reducible apply GETG.at); rfl) | ((with_reducible refine IF.mk (fun h => ?_) (fun h => ?_)) <;> (try simp (disch := omega) only [hsB, hsC, lnB, wrap64, wrap32, simprocAttr] at h) <;> try (exfalso; omega))) <;> conv => whnf)
      all_goals exact FIN.value h0 rfl rfl
  · have hX : nextN s i = .inl (i, 90) := by unfold nextN; rw [if_pos hge]
    rw [hX]
    refine Does.enter tabOK (g := 16) (fn := Tryz.f16) Tryz.call16 Tryz.func16 rfl 107 rfl rfl [.cell 4 32, .tmp 5, .cell 6 43] rfl ?_
    intro w0 F η0 h0
    conv => whnf
    repeat' ((first | with_reducible refine IF.tt ?_ | with_reducible refine IF.ff ?_ | refine DRAWN.of (id := 9) tabOK mixed plNext50 (by kernel_rfl) ?_ | with_reducible refine ADD.mk (fun _ _ => ?_) | with_reducible refine NEED.mk (Det.of rfl) ?_ | with_reducible refine FORK.mk ?_ ?_ | ((with_reducible refine NEED.mk ?_ ?_); (first | with_reducible rfl | omega | (simp (disch := omega) only [lnB, wrap64, wrap32] <;> omega) | (intro h; (try simp (disch := omega) only [hsB, hsC, lnB, wrap64, wrap32, simprocAttr] at h); (first | omega | (simp (disch := omega) only [lnB, wrap64, wrap32] <;> omega))) | (exact needApp 256 rfl rfl (by simp) (by simp) (by omega)) | (simp <;> omega))) | ((with_reducible apply GET.at); rfl) | ((with_reducible apply GETG.at); rfl) | ((with_reducible refine IF.mk (fun h => ?_) (fun h => ?_)) <;> (try simp (disch := omega) only [hsB, hsC, lnB, wrap64, wrap32, simprocAttr] at h) <;> try (exfalso; omega))) <;> conv => whnf)
    all_goals exact FIN.value h0 rfl rfl
theorem rparse_does (s : List UInt8) (hs : s.length ≤ 140737488351232) : Does Tryz.prog tab 19 0 [.str s] [] [] (Val (match parseM s with
    | .inl e => .tup [zeroTm.sv, .agg [.int .i64 e.1, .int .i64 e.2]]
    | .inr t => .tup [t.sv, .agg [.int .i64 0, .int .i64 0]])) := by
  have hN : nextM s 0 = nextN s 0 := by unfold nextM; rw [if_neg (by omega)]; try rfl
  have hnx := rnext_does s 0 hs
  rw [hN] at hnx
  cases hX : nextN s 0 with
  | inl e =>
    rw [hX] at hnx
    have hcd := nextN_code _ _ _ hX
    have hP : parseM s = .inl e := by unfold parseM; rw [hX]
    rw [hP]
    refine Does.enter tabOK (g := 19) (fn := Tryz.f19) Tryz.call19 Tryz.func19 rfl 31 rfl rfl [.cell 2 32, .cell 3 43] rfl ?_
    intro w0 F η0 h0
    conv => whnf
    refine CALL.value hnx rfl rfl ?_
    conv => whnf
    repeat' ((first | with_reducible refine IF.tt ?_ | with_reducible refine IF.ff ?_ | refine DRAWN.of (id := 5) tabOK mixed plNext52 (by kernel_rfl) ?_ | with_reducible refine ADD.mk (fun _ _ => ?_) | with_reducible refine NEED.mk (Det.of rfl) ?_ | with_reducible refine FORK.mk ?_ ?_ | ((with_reducible refine NEED.mk ?_ ?_); (first | with_reducible rfl | omega | (simp (disch := omega) only [lnB, wrap64, wrap32] <;> omega) | (intro h; (try simp (disch := omega) only [hsB, hsC, lnB, wrap64, wrap32, simprocAttr] at h); (first | omega | (simp (disch := omega) only [lnB, wrap64, wrap32] <;> omega))) | (exact needApp 256 rfl rfl (by simp) (by simp) (by omega)) | (simp <;> omega))) | ((with_reducible apply GET.at); rfl) | ((with_reducible apply GETG.at); rfl) | ((with_reducible refine IF.mk (fun h => ?_) (fun h => ?_)) <;> (try simp (disch := omega) only [hsB, hsC, lnB, wrap64, wrap32, simprocAttr] at h) <;> try (exfalso; omega))) <;> conv => whnf)
    all_goals exact FIN.value h0 rfl rfl
  | inr x =>
    obtain ⟨t, n⟩ := x
    rw [hX] at hnx
    by_cases hn : n < s.length
    · have hP : parseM s = .inl (n, 90) := by unfold parseM; rw [hX]; simp only; rw [if_pos hn]
      rw [hP]
      refine Does.enter tabOK (g := 19) (fn := Tryz.f19) Tryz.call19 Tryz.func19 rfl 31 rfl rfl [.cell 2 32, .cell 3 43] rfl ?_
      intro w0 F η0 h0
      conv => whnf
      refine CALL.value hnx rfl rfl ?_
      conv => whnf
      repeat' ((first | with_reducible refine IF.tt ?_ | with_reducible refine IF.ff ?_ | refine DRAWN.of (id := 5) tabOK mixed plNext52 (by kernel_rfl) ?_ | with_reducible refine ADD.mk (fun _ _ => ?_) | with_reducible refine NEED.mk (Det.of rfl) ?_ | with_reducible refine FORK.mk ?_ ?_ | ((with_reducible refine NEED.mk ?_ ?_); (first | with_reducible rfl | omega | (simp (disch := omega) only [lnB, wrap64, wrap32] <;> omega) | (intro h; (try simp (disch := omega) only [hsB, hsC, lnB, wrap64, wrap32, simprocAttr] at h); (first | omega | (simp (disch := omega) only [lnB, wrap64, wrap32] <;> omega))) | (exact needApp 256 rfl rfl (by simp) (by simp) (by omega)) | (simp <;> omega))) | ((with_reducible apply GET.at); rfl) | ((with_reducible apply GETG.at); rfl) | ((with_reducible refine IF.mk (fun h => ?_) (fun h => ?_)) <;> (try simp (disch := omega) only [hsB, hsC, lnB, wrap64, wrap32, simprocAttr] at h) <;> try (exfalso; omega))) <;> conv => whnf)
      all_goals exact FIN.value h0 rfl rfl
    · have hP : parseM s = .inr t := by unfold parseM; rw [hX]; simp only; rw [if_neg hn]
      rw [hP]
      refine Does.enter tabOK (g := 19) (fn := Tryz.f19) Tryz.call19 Tryz.func19 rfl 31 rfl rfl [.cell 2 32, .cell 3 43] rfl ?_
      intro w0 F η0 h0
      conv => whnf
      refine CALL.value hnx rfl rfl ?_
      conv => whnf
      repeat' ((first | with_reducible refine IF.tt ?_ | with_reducible refine IF.ff ?_ | refine DRAWN.of (id := 5) tabOK mixed plNext52 (by kernel_rfl) ?_ | with_reducible refine ADD.mk (fun _ _ => ?_) | with_reducible refine NEED.mk (Det.of rfl) ?_ | with_reducible refine FORK.mk ?_ ?_ | ((with_reducible refine NEED.mk ?_ ?_); (first | with_reducible rfl | omega | (simp (disch := omega) only [lnB, wrap64, wrap32] <;> omega) | (intro h; (try simp (disch := omega) only [hsB, hsC, lnB, wrap64, wrap32, simprocAttr] at h); (first | omega | (simp (disch := omega) only [lnB, wrap64, wrap32] <;> omega))) | (exact needApp 256 rfl rfl (by simp) (by simp) (by omega)) | (simp <;> omega))) | ((with_reducible apply GET.at); rfl) | ((with_reducible apply GETG.at); rfl) | ((with_reducible refine IF.mk (fun h => ?_) (fun h => ?_)) <;> (try simp (disch := omega) only [hsB, hsC, lnB, wrap64, wrap32, simprocAttr] at h) <;> try (exfalso; omega))) <;> conv => whnf)
      all_goals exact FIN.value h0 rfl rfl
end Go.Proofs.YtpffclpheldabaaGreatDoor
/- TermNexts: the law, walked. Conditions: none. -/
set_option linter.unusedVariables false
set_option linter.unusedSimpArgs false
set_option maxRecDepth 20000
namespace Go.Proofs.YtpffclpheldabaaGreatDoor
open Go.Sx Go.Our
def plLawNexts0 : Plan := (planOf [(0, 1), (1, 1), (2, 1), (4, 1), (5, 1), (6, 1), (3, 2), (7, 2), (8, 3), (9, 1), (10, 0)])
def plLawNexts1 : Plan := (planOf [(0, 2), (1, 2), (2, 1), (3, 1), (4, 1), (5, 1), (6, 1), (7, 1), (8, 1), (9, 1), (11, 2), (10, 3), (12, 1), (13, 1)])
def plLawNexts2 : Plan := (planOf [(0, 2), (1, 2), (2, 1), (3, 1), (4, 1), (6, 2), (5, 3), (7, 1), (8, 1), (9, 1)])
theorem lnumber_does (c : Int) : Does Tryz.prog tab 47 0 [.ifc TER (.int .i64 c)] [] [] (Val (.int .i64 c)) := by
  refine Does.enter tabOK (g := 47) (fn := Tryz.f47) Tryz.call47 Tryz.func47 rfl 9 rfl rfl [.tmp 2] rfl ?_
  intro w0 F η0 h0
  conv => whnf
  repeat' ((first | with_reducible refine IF.tt ?_ | with_reducible refine IF.ff ?_ | ((with_reducible refine NEED.mk ?_ ?_); (first | with_reducible rfl | omega | (simp (disch := omega) only [lnB, wrap64, wrap32] <;> omega) | (intro h; (try simp (disch := omega) only [hsB, hsC, lnB, wrap64, wrap32, simprocAttr] at h); (first | omega | (simp (disch := omega) only [lnB, wrap64, wrap32] <;> omega))) | (exact needApp 256 rfl rfl (by simp) (by simp) (by omega)) | (simp <;> omega))) | ((with_reducible apply GET.at); rfl) | ((with_reducible apply GETG.at); rfl) | ((with_reducible refine IF.mk (fun h => ?_) (fun h => ?_)) <;> (try simp (disch := omega) only [hsB, hsC, lnB, wrap64, wrap32, simprocAttr] at h) <;> try (exfalso; omega))) <;> conv => whnf)
  all_goals exact FIN.value h0 rfl rfl
theorem seen_nil : Does Tryz.prog tab 17 0 [.val .nilIface] [] [] (Val (.agg [.int .i64 0, .int .i64 0])) := by
  refine Does.enter tabOK (g := 17) (fn := Tryz.f17) Tryz.call17 Tryz.func17 rfl 30 rfl rfl [.cell 2 43] rfl ?_
  intro w0 F η0 h0
  conv => whnf
  repeat' ((first | with_reducible refine IF.tt ?_ | with_reducible refine IF.ff ?_ | ((with_reducible refine NEED.mk ?_ ?_); (first | with_reducible rfl | omega | (simp (disch := omega) only [lnB, wrap64, wrap32] <;> omega) | (intro h; (try simp (disch := omega) only [hsB, hsC, lnB, wrap64, wrap32, simprocAttr] at h); (first | omega | (simp (disch := omega) only [lnB, wrap64, wrap32] <;> omega))) | (exact needApp 256 rfl rfl (by simp) (by simp) (by omega)) | (simp <;> omega))) | ((with_reducible apply GET.at); rfl) | ((with_reducible apply GETG.at); rfl) | ((with_reducible refine IF.mk (fun h => ?_) (fun h => ?_)) <;> (try simp (disch := omega) only [hsB, hsC, lnB, wrap64, wrap32, simprocAttr] at h) <;> try (exfalso; omega))) <;> conv => whnf)
  all_goals exact FIN.value h0 rfl rfl
theorem seen_no (c : Int) : Does Tryz.prog tab 17 0 [.ifc TER (.int .i64 c)] [] [] (Val (.agg [.int .i64 (-1), .int .i64 c])) := by
  refine Does.enter tabOK (g := 17) (fn := Tryz.f17) Tryz.call17 Tryz.func17 rfl 30 rfl rfl [.cell 2 43] rfl ?_
  intro w0 F η0 h0
  conv => whnf
  repeat' ((first | with_reducible refine IF.tt ?_ | with_reducible refine IF.ff ?_ | ((with_reducible refine NEED.mk ?_ ?_); (first | with_reducible rfl | omega | (simp (disch := omega) only [lnB, wrap64, wrap32] <;> omega) | (intro h; (try simp (disch := omega) only [hsB, hsC, lnB, wrap64, wrap32, simprocAttr] at h); (first | omega | (simp (disch := omega) only [lnB, wrap64, wrap32] <;> omega))) | (exact needApp 256 rfl rfl (by simp) (by simp) (by omega)) | (simp <;> omega))) | ((with_reducible apply GET.at); rfl) | ((with_reducible apply GETG.at); rfl) | ((with_reducible refine IF.mk (fun h => ?_) (fun h => ?_)) <;> (try simp (disch := omega) only [hsB, hsC, lnB, wrap64, wrap32, simprocAttr] at h) <;> try (exfalso; omega))) <;> conv => whnf)
  all_goals exact FIN.value h0 rfl rfl
theorem seen_at (a c : Int) : Does Tryz.prog tab 17 1 [errSV 0] [] [(0, errHp a c)] (ValK 1 (.agg [.int .i64 a, .int .i64 c])) := by
  refine Does.enter tabOK (g := 17) (fn := Tryz.f17) Tryz.call17 Tryz.func17 rfl 30 rfl rfl [.cell 2 43] rfl ?_
  intro w0 F η0 h0
  conv => whnf
  repeat' ((first | with_reducible refine IF.tt ?_ | with_reducible refine IF.ff ?_ | refine DRAWN.of (id := 11) tabOK mixed plLawNexts0 (by kernel_rfl) ?_ | with_reducible refine ADD.mk (fun _ _ => ?_) | with_reducible refine NEED.mk (Det.of rfl) ?_ | with_reducible refine FORK.mk ?_ ?_ | refine CALL.value (lnumber_does c) rfl rfl ?_ | ((with_reducible refine NEED.mk ?_ ?_); (first | with_reducible rfl | omega | (simp (disch := omega) only [lnB, wrap64, wrap32] <;> omega) | (intro h; (try simp (disch := omega) only [hsB, hsC, lnB, wrap64, wrap32, simprocAttr] at h); (first | omega | (simp (disch := omega) only [lnB, wrap64, wrap32] <;> omega))) | (exact needApp 256 rfl rfl (by simp) (by simp) (by omega)) | (simp <;> omega))) | ((with_reducible apply GET.at); rfl) | ((with_reducible apply GETG.at); rfl) | ((with_reducible refine IF.mk (fun h => ?_) (fun h => ?_)) <;> (try simp (disch := omega) only [hsB, hsC, lnB, wrap64, wrap32, simprocAttr] at h) <;> try (exfalso; omega))) <;> conv => whnf)
  all_goals exact FIN.valueK h0 rfl rfl
set_option maxHeartbeats 8000000 in
theorem lawNexts_does (s : List UInt8) (a : Int) (hs : s.length ≤ 140737488351232) : Does Tryz.prog tab 5 0 [.str s, .int .i64 a] [] [] (Val (.bool true)) := by
  have hn := tnext_does s a hs
  have hr := rnext_does s a hs
  have hp := parse_does s hs
  have hq := rparse_does s hs
  cases hX : nextM s a with
  | inl e =>
    rw [hX] at hn hr
    by_cases he : e.1 = -1
    · have hn : Does Tryz.prog tab 15 0 [.str s, .int .i64 a] [] [] (Val (.tup [zeroTm.sv, .int .i64 0, .ifc TER (.int .i64 e.2)])) := by
        have h9 : NextQ (.inl e) = Val (.tup [zeroTm.sv, .int .i64 0, .ifc TER (.int .i64 e.2)]) := by
          funext r O nx
          show (if e.1 = -1 then _ else _) = _
          rw [if_pos he]; rfl
        rw [h9] at hn; exact hn
      obtain ⟨e1, e2⟩ := e
      dsimp only at he hn
      subst he
      cases hY : parseM s with
      | inl x =>
        rw [hY] at hp hq
        have hp : Does Tryz.prog tab 18 0 [.str s] [] [] (NewErrT [zeroTm.sv] x.1 x.2) := hp
        refine Does.enter tabOK (g := 5) (fn := Tryz.f5) Tryz.call5 Tryz.func5 rfl 58 rfl rfl [.tmp 4] rfl ?_
        intro w0 F η0 h0
        conv => whnf
        repeat' ((first | with_reducible refine IF.tt ?_ | with_reducible refine IF.ff ?_ | refine DRAWN.of (id := 3) tabOK mixed plLawNexts1 (by kernel_rfl) ?_ | refine DRAWN.of (id := 7) tabOK mixed plLawNexts2 (by kernel_rfl) ?_ | with_reducible refine ADD.mk (fun _ _ => ?_) | with_reducible refine NEED.mk (Det.of rfl) ?_ | with_reducible refine FORK.mk ?_ ?_ | refine CALL.value (hn) rfl rfl ?_ | refine CALL.value (hr) rfl rfl ?_ | refine CALL.value (seen_no _) rfl rfl ?_ | refine CALL.value (hq) rfl rfl ?_ | (refine CALL.errT [zeroTm.sv] hp rfl rfl ?_; conv => whnf) | (refine CALL.looks [0] (seen_at _ _) rfl rfl rfl rfl ⟨⟨rfl, rfl, rfl⟩, trivial⟩ ?_; conv => whnf) | (refine CALL.looks [1] (seen_at _ _) rfl rfl rfl rfl ⟨⟨rfl, rfl, rfl⟩, trivial⟩ ?_; conv => whnf) | (refine CALL.looks [2] (seen_at _ _) rfl rfl rfl rfl ⟨⟨rfl, rfl, rfl⟩, trivial⟩ ?_; conv => whnf) | (refine CALL.looks [3] (seen_at _ _) rfl rfl rfl rfl ⟨⟨rfl, rfl, rfl⟩, trivial⟩ ?_; conv => whnf) | (refine CALL.looks [4] (seen_at _ _) rfl rfl rfl rfl ⟨⟨rfl, rfl, rfl⟩, trivial⟩ ?_; conv => whnf) | ((with_reducible refine NEED.mk ?_ ?_); (first | with_reducible rfl | omega | (simp (disch := omega) only [lnB, wrap64, wrap32] <;> omega) | (intro h; (try simp (disch := omega) only [hsB, hsC, lnB, wrap64, wrap32, simprocAttr] at h); (first | omega | (simp (disch := omega) only [lnB, wrap64, wrap32] <;> omega))) | (exact needApp 256 rfl rfl (by simp) (by simp) (by omega)) | (simp <;> omega))) | ((with_reducible apply GET.at); rfl) | ((with_reducible apply GETG.at); rfl) | ((with_reducible refine IF.mk (fun h => ?_) (fun h => ?_)) <;> (try simp (disch := omega) only [hsB, hsC, lnB, wrap64, wrap32, simprocAttr] at h) <;> try (exfalso; omega))) <;> conv => whnf)
        all_goals first
          | (exfalso; simp_all; done)
          | exact FIN.value h0 rfl rfl
          | (refine FIN.value h0 rfl (congrArg SV.bool ?_); simp_all; done)
          | trace_state
      | inr u =>
        rw [hY] at hp hq
        have hp : Does Tryz.prog tab 18 0 [.str s] [] [] (Val (.tup [u.sv, .val .nilIface])) := hp
        refine Does.enter tabOK (g := 5) (fn := Tryz.f5) Tryz.call5 Tryz.func5 rfl 58 rfl rfl [.tmp 4] rfl ?_
        intro w0 F η0 h0
        conv => whnf
        repeat' ((first | with_reducible refine IF.tt ?_ | with_reducible refine IF.ff ?_ | refine DRAWN.of (id := 3) tabOK mixed plLawNexts1 (by kernel_rfl) ?_ | refine DRAWN.of (id := 7) tabOK mixed plLawNexts2 (by kernel_rfl) ?_ | with_reducible refine ADD.mk (fun _ _ => ?_) | with_reducible refine NEED.mk (Det.of rfl) ?_ | with_reducible refine FORK.mk ?_ ?_ | refine CALL.value (hn) rfl rfl ?_ | refine CALL.value (hr) rfl rfl ?_ | refine CALL.value (seen_nil) rfl rfl ?_ | refine CALL.value (seen_no _) rfl rfl ?_ | refine CALL.value (hp) rfl rfl ?_ | refine CALL.value (hq) rfl rfl ?_ | (refine CALL.looks [0] (seen_at _ _) rfl rfl rfl rfl ⟨⟨rfl, rfl, rfl⟩, trivial⟩ ?_; conv => whnf) | (refine CALL.looks [1] (seen_at _ _) rfl rfl rfl rfl ⟨⟨rfl, rfl, rfl⟩, trivial⟩ ?_; conv => whnf) | (refine CALL.looks [2] (seen_at _ _) rfl rfl rfl rfl ⟨⟨rfl, rfl, rfl⟩, trivial⟩ ?_; conv => whnf) | (refine CALL.looks [3] (seen_at _ _) rfl rfl rfl rfl ⟨⟨rfl, rfl, rfl⟩, trivial⟩ ?_; conv => whnf) | (refine CALL.looks [4] (seen_at _ _) rfl rfl rfl rfl ⟨⟨rfl, rfl, rfl⟩, trivial⟩ ?_; conv => whnf) | ((with_reducible refine NEED.mk ?_ ?_); (first | with_reducible rfl | omega | (simp (disch := omega) only [lnB, wrap64, wrap32] <;> omega) | (intro h; (try simp (disch := omega) only [hsB, hsC, lnB, wrap64, wrap32, simprocAttr] at h); (first | omega | (simp (disch := omega) only [lnB, wrap64, wrap32] <;> omega))) | (exact needApp 256 rfl rfl (by simp) (by simp) (by omega)) | (simp <;> omega))) | ((with_reducible apply GET.at); rfl) | ((with_reducible apply GETG.at); rfl) | ((with_reducible refine IF.mk (fun h => ?_) (fun h => ?_)) <;> (try simp (disch := omega) only [hsB, hsC, lnB, wrap64, wrap32, simprocAttr] at h) <;> try (exfalso; omega))) <;> conv => whnf)
        all_goals first
          | (exfalso; simp_all; done)
          | exact FIN.value h0 rfl rfl
          | (refine FIN.value h0 rfl (congrArg SV.bool ?_); simp_all; done)
          | trace_state
    · have hn : Does Tryz.prog tab 15 0 [.str s, .int .i64 a] [] [] (NewErrT [zeroTm.sv, .int .i64 0] e.1 e.2) := by
        have h9 : NextQ (.inl e) = NewErrT [zeroTm.sv, .int .i64 0] e.1 e.2 := by
          funext r O nx
          show (if e.1 = -1 then _ else _) = _
          rw [if_neg he]; rfl
        rw [h9] at hn; exact hn
      cases hY : parseM s with
      | inl x =>
        rw [hY] at hp hq
        have hp : Does Tryz.prog tab 18 0 [.str s] [] [] (NewErrT [zeroTm.sv] x.1 x.2) := hp
        refine Does.enter tabOK (g := 5) (fn := Tryz.f5) Tryz.call5 Tryz.func5 rfl 58 rfl rfl [.tmp 4] rfl ?_
        intro w0 F η0 h0
        conv => whnf
        repeat' ((first | with_reducible refine IF.tt ?_ | with_reducible refine IF.ff ?_ | refine DRAWN.of (id := 3) tabOK mixed plLawNexts1 (by kernel_rfl) ?_ | refine DRAWN.of (id := 7) tabOK mixed plLawNexts2 (by kernel_rfl) ?_ | with_reducible refine ADD.mk (fun _ _ => ?_) | with_reducible refine NEED.mk (Det.of rfl) ?_ | with_reducible refine FORK.mk ?_ ?_ | refine CALL.value (hr) rfl rfl ?_ | refine CALL.value (seen_nil) rfl rfl ?_ | refine CALL.value (hq) rfl rfl ?_ | (refine CALL.errT [zeroTm.sv, .int .i64 0] hn rfl rfl ?_; conv => whnf) | (refine CALL.errT [zeroTm.sv] hp rfl rfl ?_; conv => whnf) | (refine CALL.looks [0] (seen_at _ _) rfl rfl rfl rfl ⟨⟨rfl, rfl, rfl⟩, trivial⟩ ?_; conv => whnf) | (refine CALL.looks [1] (seen_at _ _) rfl rfl rfl rfl ⟨⟨rfl, rfl, rfl⟩, trivial⟩ ?_; conv => whnf) | (refine CALL.looks [2] (seen_at _ _) rfl rfl rfl rfl ⟨⟨rfl, rfl, rfl⟩, trivial⟩ ?_; conv => whnf) | (refine CALL.looks [3] (seen_at _ _) rfl rfl rfl rfl ⟨⟨rfl, rfl, rfl⟩, trivial⟩ ?_; conv => whnf) | (refine CALL.looks [4] (seen_at _ _) rfl rfl rfl rfl ⟨⟨rfl, rfl, rfl⟩, trivial⟩ ?_; conv => whnf) | ((with_reducible refine NEED.mk ?_ ?_); (first | with_reducible rfl | omega | (simp (disch := omega) only [lnB, wrap64, wrap32] <;> omega) | (intro h; (try simp (disch := omega) only [hsB, hsC, lnB, wrap64, wrap32, simprocAttr] at h); (first | omega | (simp (disch := omega) only [lnB, wrap64, wrap32] <;> omega))) | (exact needApp 256 rfl rfl (by simp) (by simp) (by omega)) | (simp <;> omega))) | ((with_reducible apply GET.at); rfl) | ((with_reducible apply GETG.at); rfl) | ((with_reducible refine IF.mk (fun h => ?_) (fun h => ?_)) <;> (try simp (disch := omega) only [hsB, hsC, lnB, wrap64, wrap32, simprocAttr] at h) <;> try (exfalso; omega))) <;> conv => whnf)
        all_goals first
          | (exfalso; simp_all; done)
          | exact FIN.value h0 rfl rfl
          | (refine FIN.value h0 rfl (congrArg SV.bool ?_); simp_all; done)
          | trace_state
      | inr u =>
        rw [hY] at hp hq
        have hp : Does Tryz.prog tab 18 0 [.str s] [] [] (Val (.tup [u.sv, .val .nilIface])) := hp
        refine Does.enter tabOK (g := 5) (fn := Tryz.f5) Tryz.call5 Tryz.func5 rfl 58 rfl rfl [.tmp 4] rfl ?_
        intro w0 F η0 h0
        conv => whnf
        repeat' ((first | with_reducible refine IF.tt ?_ | with_reducible refine IF.ff ?_ | refine DRAWN.of (id := 3) tabOK mixed plLawNexts1 (by kernel_rfl) ?_ | refine DRAWN.of (id := 7) tabOK mixed plLawNexts2 (by kernel_rfl) ?_ | with_reducible refine ADD.mk (fun _ _ => ?_) | with_reducible refine NEED.mk (Det.of rfl) ?_ | with_reducible refine FORK.mk ?_ ?_ | refine CALL.value (hr) rfl rfl ?_ | refine CALL.value (seen_nil) rfl rfl ?_ | refine CALL.value (hp) rfl rfl ?_ | refine CALL.value (hq) rfl rfl ?_ | (refine CALL.errT [zeroTm.sv, .int .i64 0] hn rfl rfl ?_; conv => whnf) | (refine CALL.looks [0] (seen_at _ _) rfl rfl rfl rfl ⟨⟨rfl, rfl, rfl⟩, trivial⟩ ?_; conv => whnf) | (refine CALL.looks [1] (seen_at _ _) rfl rfl rfl rfl ⟨⟨rfl, rfl, rfl⟩, trivial⟩ ?_; conv => whnf) | (refine CALL.looks [2] (seen_at _ _) rfl rfl rfl rfl ⟨⟨rfl, rfl, rfl⟩, trivial⟩ ?_; conv => whnf) | (refine CALL.looks [3] (seen_at _ _) rfl rfl rfl rfl ⟨⟨rfl, rfl, rfl⟩, trivial⟩ ?_; conv => whnf) | (refine CALL.looks [4] (seen_at _ _) rfl rfl rfl rfl ⟨⟨rfl, rfl, rfl⟩, trivial⟩ ?_; conv => whnf) | ((with_reducible refine NEED.mk ?_ ?_); (first | with_reducible rfl | omega | (simp (disch := omega) only [lnB, wrap64, wrap32] <;> omega) | (intro h; (try simp (disch := omega) only [hsB, hsC, lnB, wrap64, wrap32, simprocAttr] at h); (first | omega | (simp (disch := omega) only [lnB, wrap64, wrap32] <;> omega))) | (exact needApp 256 rfl rfl (by simp) (by simp) (by omega)) | (simp <;> omega))) | ((with_reducible apply GET.at); rfl) | ((with_reducible apply GETG.at); rfl) | ((with_reducible refine IF.mk (fun h => ?_) (fun h => ?_)) <;> (try simp (disch := omega) only [hsB, hsC, lnB, wrap64, wrap32, simprocAttr] at h) <;> try (exfalso; omega))) <;> conv => whnf)
        all_goals first
          | (exfalso; simp_all; done)
          | exact FIN.value h0 rfl rfl
          | (refine FIN.value h0 rfl (congrArg SV.bool ?_); simp_all; done)
          | trace_state
  | inr x =>
    obtain ⟨t, n⟩ := x
    rw [hX] at hn hr
    have hn : Does Tryz.prog tab 15 0 [.str s, .int .i64 a] [] [] (Val (.tup [t.sv, .int .i64 n, .val .nilIface])) := hn
    cases hY : parseM s with
    | inl x =>
      rw [hY] at hp hq
      have hp : Does Tryz.prog tab 18 0 [.str s] [] [] (NewErrT [zeroTm.sv] x.1 x.2) := hp
      refine Does.enter tabOK (g := 5) (fn := Tryz.f5) Tryz.call5 Tryz.func5 rfl 58 rfl rfl [.tmp 4] rfl ?_
      intro w0 F η0 h0
      conv => whnf
      repeat' ((first | with_reducible refine IF.tt ?_ | with_reducible refine IF.ff ?_ | refine DRAWN.of (id := 3) tabOK mixed plLawNexts1 (by kernel_rfl) ?_ | refine DRAWN.of (id := 7) tabOK mixed plLawNexts2 (by kernel_rfl) ?_ | with_reducible refine ADD.mk (fun _ _ => ?_) | with_reducible refine NEED.mk (Det.of rfl) ?_ | with_reducible refine FORK.mk ?_ ?_ | refine CALL.value (hn) rfl rfl ?_ | refine CALL.value (hr) rfl rfl ?_ | refine CALL.value (seen_nil) rfl rfl ?_ | refine CALL.value (hq) rfl rfl ?_ | (refine CALL.errT [zeroTm.sv] hp rfl rfl ?_; conv => whnf) | (refine CALL.looks [0] (seen_at _ _) rfl rfl rfl rfl ⟨⟨rfl, rfl, rfl⟩, trivial⟩ ?_; conv => whnf) | (refine CALL.looks [1] (seen_at _ _) rfl rfl rfl rfl ⟨⟨rfl, rfl, rfl⟩, trivial⟩ ?_; conv => whnf) | (refine CALL.looks [2] (seen_at _ _) rfl rfl rfl rfl ⟨⟨rfl, rfl, rfl⟩, trivial⟩ ?_; conv => whnf) | (refine CALL.looks [3] (seen_at _ _) rfl rfl rfl rfl ⟨⟨rfl, rfl, rfl⟩, trivial⟩ ?_; conv => whnf) | (refine CALL.looks [4] (seen_at _ _) rfl rfl rfl rfl ⟨⟨rfl, rfl, rfl⟩, trivial⟩ ?_; conv => whnf) | ((with_reducible refine NEED.mk ?_ ?_); (first | with_reducible rfl | omega | (simp (disch := omega) only [lnB, wrap64, wrap32] <;> omega) | (intro h; (try simp (disch := omega) only [hsB, hsC, lnB, wrap64, wrap32, simprocAttr] at h); (first | omega | (simp (disch := omega) only [lnB, wrap64, wrap32] <;> omega))) | (exact needApp 256 rfl rfl (by simp) (by simp) (by omega)) | (simp <;> omega))) | ((with_reducible apply GET.at); rfl) | ((with_reducible apply GETG.at); rfl) | ((with_reducible refine IF.mk (fun h => ?_) (fun h => ?_)) <;> (try simp (disch := omega) only [hsB, hsC, lnB, wrap64, wrap32, simprocAttr] at h) <;> try (exfalso; omega))) <;> conv => whnf)
      all_goals first
        | (exfalso; simp_all; done)
        | exact FIN.value h0 rfl rfl
        | (refine FIN.value h0 rfl (congrArg SV.bool ?_); simp_all; done)
        | trace_state
    | inr u =>
      rw [hY] at hp hq
      have hp : Does Tryz.prog tab 18 0 [.str s] [] [] (Val (.tup [u.sv, .val .nilIface])) := hp
      refine Does.enter tabOK (g := 5) (fn := Tryz.f5) Tryz.call5 Tryz.func5 rfl 58 rfl rfl [.tmp 4] rfl ?_
      intro w0 F η0 h0
      conv => whnf
      repeat' ((first | with_reducible refine IF.tt ?_ | with_reducible refine IF.ff ?_ | refine DRAWN.of (id := 3) tabOK mixed plLawNexts1 (by kernel_rfl) ?_ | refine DRAWN.of (id := 7) tabOK mixed plLawNexts2 (by kernel_rfl) ?_ | with_reducible refine ADD.mk (fun _ _ => ?_) | with_reducible refine NEED.mk (Det.of rfl) ?_ | with_reducible refine FORK.mk ?_ ?_ | refine CALL.value (hn) rfl rfl ?_ | refine CALL.value (hr) rfl rfl ?_ | refine CALL.value (seen_nil) rfl rfl ?_ | refine CALL.value (hp) rfl rfl ?_ | refine CALL.value (hq) rfl rfl ?_ | ((with_reducible refine NEED.mk ?_ ?_); (first | with_reducible rfl | omega | (simp (disch := omega) only [lnB, wrap64, wrap32] <;> omega) | (intro h; (try simp (disch := omega) only [hsB, hsC, lnB, wrap64, wrap32, simprocAttr] at h); (first | omega | (simp (disch := omega) only [lnB, wrap64, wrap32] <;> omega))) | (exact needApp 256 rfl rfl (by simp) (by simp) (by omega)) | (simp <;> omega))) | ((with_reducible apply GET.at); rfl) | ((with_reducible apply GETG.at); rfl) | ((with_reducible refine IF.mk (fun h => ?_) (fun h => ?_)) <;> (try simp (disch := omega) only [hsB, hsC, lnB, wrap64, wrap32, simprocAttr] at h) <;> try (exfalso; omega))) <;> conv => whnf)
      all_goals first
        | (exfalso; simp_all; done)
        | exact FIN.value h0 rfl rfl
        | (refine FIN.value h0 rfl (congrArg SV.bool ?_); simp_all; done)
        | trace_state
end Go.Proofs.YtpffclpheldabaaGreatDoor
/- TermNexts: the row and its card out of the walk. Conditions: none beyond the statement's own. -/
set_option linter.unusedVariables false
namespace Go.Proofs.YtpffclpheldabaaGreatDoor.termNexts
open Go.ChangeShapes Go.WideShapes Go.ChangeAt Go.RowKit Go.Our
open Go.ChangeMaps (open_string shut_string)
theorem own : ownKnob Tryz.prog.godebug = none := by kernel_rfl
theorem laidOut : laidOutB Tryz.prog = true := by kernel_rfl
theorem readable : ∀ t ∈ Tryz.f5.params.toList, Tryz.prog.readableRec t = true ∧ t < Tryz.prog.types.size := by
  have h : (Tryz.f5.params.toList.all fun t => Tryz.prog.readableRec t && decide (t < Tryz.prog.types.size)) = true := by kernel_rfl
  intro t ht
  have := List.all_eq_true.1 h t ht
  simpa using this
set_option maxRecDepth 100000 in
theorem contract (H : Type) (enc : TypeId × Value → H) (W : World) (base : Nat) (args : Array Value) (ds gs : List (DataW H)) (before : List MemPlace)
    (hval : ∀ (j : Nat) t v, Tryz.f5.params[j]? = some t → args[j]? = some v → Value.okWide Tryz.prog W .any base t v)
    (hW : DataW.Whole enc Tryz.prog Tryz.f5.params.toList Rows.termNextsSpec.vars false W args.toList ds gs before)
    (hsz : (DataW.weightsEach Tryz.prog (Tryz.f5.params.toList ++ (OpenSpec.ofChange Rows.termNextsSpec).bare.plain.varTypes Tryz.prog) (ds ++ gs)).all (fun x => decide (x ≤ reachBytes)) = true)
    (hL : laidMetH Tryz.prog Rows.termNextsRow.laid W)
    : Calls Tryz.prog 5 args W fun e W' => ∃ v, e = .returned v ∧ Rows.termNextsSpec.post enc Tryz.prog Tryz.f5 false true false false W args v W' := by
  have hW' := hW
  have hlt := hW.lt
  obtain ⟨p, q, hA0, hV, rfl, hfz, hnd⟩ := hW
  have hA : DataW.TrodAll enc Tryz.prog W 0 (fun _ => true) true Tryz.f5.params.toList args.toList ds p := hA0
  rw [Tryz.params5] at hA hval
  obtain ⟨v0, vs0, d0, ds0, p0, q0, hargs, rfl, rfl, h0, r0⟩ := trodAll_cons hA
  obtain ⟨v1, vs1, d1, ds1, p1, q1, rfl, rfl, rfl, h1, r1⟩ := trodAll_cons r0
  obtain ⟨rfl, rfl, rfl⟩ := trodAll_nil r1
  obtain rfl : args = #[v0, v1] := by cases args; simp_all
  obtain ⟨rfl, rfl⟩ := trodVars_none hV
  have hlt' : ∀ x ∈ p0 ++ p1, x.block < W.heap.size := fun x hx => hlt x (by simpa using hx)
  have hsz' : (DataW.weightsEach Tryz.prog [9, 3] [d0, d1]).all (fun x => decide (x ≤ reachBytes)) = true := hsz
  simp only [DataW.weightsEach] at hsz'
  have sz0 := all_left hsz'
  have rs0 := all_right hsz'
  obtain ⟨s0, rfl, rfl, rfl, ws0⟩ := open_string Tryz.underlying9 (hval 0 9 v0 rfl rfl) h0
  have sz1 := all_left rs0
  obtain ⟨x1, rfl, rfl, rfl, wx1⟩ := open_int Tryz.underlying3 (hval 1 3 v1 rfl rfl) h1
  have bx1 := bounds_i64 wx1
  refine (law_calls (lawNexts_does s0.data.toList x1 (str_small sz0)) Tryz.call5 ⟨_, _, rfl, den_str s0, _, _, rfl, rfl, rfl⟩ (globOf rfl hL)).mono fun e W' ⟨he, hb⟩ => ?_
  subst he
  exact ⟨_, rfl, law_post laidOut readable rfl Tryz.underlying4 hW' rfl rfl rfl rfl hb⟩
/-- A world for the witness: the settled one, each listed variable holding what its initialiser lays. -/
noncomputable def laidWorld (os : Os) : World :=
  { World.holding Tryz.prog os ⟨#[], #[], []⟩ with heap := ((((World.holding Tryz.prog os ⟨#[], #[], []⟩).heap.modify 3 fun | .cells _ t fz => .cells #[.int .u8 128, .int .u8 191, .int .u8 160, .int .u8 191, .int .u8 128, .int .u8 159, .int .u8 144, .int .u8 191, .int .u8 128, .int .u8 143, .int .u8 0, .int .u8 0, .int .u8 0, .int .u8 0, .int .u8 0, .int .u8 0, .int .u8 0, .int .u8 0, .int .u8 0, .int .u8 0, .int .u8 0, .int .u8 0, .int .u8 0, .int .u8 0, .int .u8 0, .int .u8 0, .int .u8 0, .int .u8 0, .int .u8 0, .int .u8 0, .int .u8 0, .int .u8 0] t fz | o => o).modify 1 fun | .cells _ t fz => .cells #[.int .i32 192, .int .i32 214, .int .i32 216, .int .i32 246, .int .i32 248, .int .i32 767, .int .i32 880, .int .i32 893, .int .i32 895, .int .i32 8191, .int .i32 8204, .int .i32 8205, .int .i32 8304, .int .i32 8591, .int .i32 11264, .int .i32 12271, .int .i32 12289, .int .i32 55295, .int .i32 63744, .int .i32 64975, .int .i32 65008, .int .i32 65533, .int .i32 65536, .int .i32 983039] t fz | o => o).modify 2 fun | .cells _ t fz => .cells #[.int .u8 240, .int .u8 240, .int .u8 240, .int .u8 240, .int .u8 240, .int .u8 240, .int .u8 240, .int .u8 240, .int .u8 240, .int .u8 240, .int .u8 240, .int .u8 240, .int .u8 240, .int .u8 240, .int .u8 240, .int .u8 240, .int .u8 240, .int .u8 240, .int .u8 240, .int .u8 240, .int .u8 240, .int .u8 240, .int .u8 240, .int .u8 240, .int .u8 240, .int .u8 240, .int .u8 240, .int .u8 240, .int .u8 240, .int .u8 240, .int .u8 240, .int .u8 240, .int .u8 240, .int .u8 240, .int .u8 240, .int .u8 240, .int .u8 240, .int .u8 240, .int .u8 240, .int .u8 240, .int .u8 240, .int .u8 240, .int .u8 240, .int .u8 240, .int .u8 240, .int .u8 240, .int .u8 240, .int .u8 240, .int .u8 240, .int .u8 240, .int .u8 240, .int .u8 240, .int .u8 240, .int .u8 240, .int .u8 240, .int .u8 240, .int .u8 240, .int .u8 240, .int .u8 240, .int .u8 240, .int .u8 240, .int .u8 240, .int .u8 240, .int .u8 240, .int .u8 240, .int .u8 240, .int .u8 240, .int .u8 240, .int .u8 240, .int .u8 240, .int .u8 240, .int .u8 240, .int .u8 240, .int .u8 240, .int .u8 240, .int .u8 240, .int .u8 240, .int .u8 240, .int .u8 240, .int .u8 240, .int .u8 240, .int .u8 240, .int .u8 240, .int .u8 240, .int .u8 240, .int .u8 240, .int .u8 240, .int .u8 240, .int .u8 240, .int .u8 240, .int .u8 240, .int .u8 240, .int .u8 240, .int .u8 240, .int .u8 240, .int .u8 240, .int .u8 240, .int .u8 240, .int .u8 240, .int .u8 240, .int .u8 240, .int .u8 240, .int .u8 240, .int .u8 240, .int .u8 240, .int .u8 240, .int .u8 240, .int .u8 240, .int .u8 240, .int .u8 240, .int .u8 240, .int .u8 240, .int .u8 240, .int .u8 240, .int .u8 240, .int .u8 240, .int .u8 240, .int .u8 240, .int .u8 240, .int .u8 240, .int .u8 240, .int .u8 240, .int .u8 240, .int .u8 240, .int .u8 240, .int .u8 240, .int .u8 240, .int .u8 240, .int .u8 241, .int .u8 241, .int .u8 241, .int .u8 241, .int .u8 241, .int .u8 241, .int .u8 241, .int .u8 241, .int .u8 241, .int .u8 241, .int .u8 241, .int .u8 241, .int .u8 241, .int .u8 241, .int .u8 241, .int .u8 241, .int .u8 241, .int .u8 241, .int .u8 241, .int .u8 241, .int .u8 241, .int .u8 241, .int .u8 241, .int .u8 241, .int .u8 241, .int .u8 241, .int .u8 241, .int .u8 241, .int .u8 241, .int .u8 241, .int .u8 241, .int .u8 241, .int .u8 241, .int .u8 241, .int .u8 241, .int .u8 241, .int .u8 241, .int .u8 241, .int .u8 241, .int .u8 241, .int .u8 241, .int .u8 241, .int .u8 241, .int .u8 241, .int .u8 241, .int .u8 241, .int .u8 241, .int .u8 241, .int .u8 241, .int .u8 241, .int .u8 241, .int .u8 241, .int .u8 241, .int .u8 241, .int .u8 241, .int .u8 241, .int .u8 241, .int .u8 241, .int .u8 241, .int .u8 241, .int .u8 241, .int .u8 241, .int .u8 241, .int .u8 241, .int .u8 241, .int .u8 241, .int .u8 2, .int .u8 2, .int .u8 2, .int .u8 2, .int .u8 2, .int .u8 2, .int .u8 2, .int .u8 2, .int .u8 2, .int .u8 2, .int .u8 2, .int .u8 2, .int .u8 2, .int .u8 2, .int .u8 2, .int .u8 2, .int .u8 2, .int .u8 2, .int .u8 2, .int .u8 2, .int .u8 2, .int .u8 2, .int .u8 2, .int .u8 2, .int .u8 2, .int .u8 2, .int .u8 2, .int .u8 2, .int .u8 2, .int .u8 2, .int .u8 19, .int .u8 3, .int .u8 3, .int .u8 3, .int .u8 3, .int .u8 3, .int .u8 3, .int .u8 3, .int .u8 3, .int .u8 3, .int .u8 3, .int .u8 3, .int .u8 3, .int .u8 35, .int .u8 3, .int .u8 3, .int .u8 52, .int .u8 4, .int .u8 4, .int .u8 4, .int .u8 68, .int .u8 241, .int .u8 241, .int .u8 241, .int .u8 241, .int .u8 241, .int .u8 241, .int .u8 241, .int .u8 241, .int .u8 241, .int .u8 241, .int .u8 241] t fz | o => o) }
theorem laid_met (os : Os) : laidMet Tryz.prog Rows.termNextsRow.laid ((laidWorld os).forCall (fun _ _ => 0) ⟨#[], #[Value.string ⟨#[]⟩, Value.int .i64 0], []⟩).memory :=
  laidMet_of_run' 8 (by kernel_rfl) (by kernel_rfl)
theorem reads (os : Os) {H : Type} (enc : TypeId × Value → H) : ∃ places, DataW.whole enc Tryz.prog ((laidWorld os).forCall (fun _ _ => 0) ⟨#[], #[Value.string ⟨#[]⟩, Value.int .i64 0], []⟩).memory Tryz.f5.params.toList Rows.termNextsSpec.vars false #[Value.string ⟨#[]⟩, Value.int .i64 0].toList 8 = some ([.lit (.string []), .lit (.int .i64 0)], [], places) :=
  ⟨[], by kernel_rfl⟩
set_option maxRecDepth 100000 in
theorem lifted (os : Os) (started : os.Started) (H : Type) (enc : TypeId × Value → H) (F : Stop.Interp) :
    ReturnsInHanded {} Tryz.checked os 5 .any ((OpenSpec.ofChange Rows.termNextsSpec).preRow enc Tryz.prog Tryz.f5 Rows.termNextsRow.domain false Rows.termNextsRow.laid) (((OpenSpec.ofChange Rows.termNextsSpec).at F).post enc Tryz.prog Tryz.f5 false true false false) := by
  obtain ⟨places, hx⟩ := reads os enc
  refine returnsInHanded_of_row (C := Tryz.checked) (s := (OpenSpec.ofChange Rows.termNextsSpec)) own started (by kernel_rfl) Tryz.func5
    (witness_row_at (enc := enc) (C := Tryz.checked) false (laidWorld os) #[.string ⟨#[]⟩, .int .i64 0] rfl (by kernel_rfl) (by kernel_rfl) (by kernel_rfl)
      (OpenSpec.preRow_of_cond 8 hx (by kernel_rfl) (fun k hk => by cases hk) (by kernel_rfl) (laid_met os))) ?_
  intro W base args ds gs before hval hW _ hcond hsz hL _ _
  exact contract H enc W base args ds gs before hval hW hsz hL
theorem said : Rows.TermNextsSaid :=
  OpenClaim.holds_of_cond 5 Tryz.f5 rfl rfl rfl rfl rfl rfl rfl ⟨rfl, rfl, rfl, rfl, rfl⟩ rfl rfl rfl rfl rfl (by kernel_rfl) Tryz.func5 (by kernel_rfl)
    (of_decide_eq_true (by kernel_rfl)) (by unfold Func.isWrapper; first | (rw [if_pos (by decide +kernel)]; kernel_rfl) | (rw [if_neg (by decide +kernel)]; exact ⟨rfl, rfl⟩))
    (fun os started H enc _ F => by rw [OpenClaim.pre_eq_preRow]; exact lifted os started H enc F)
theorem plain (f : FuncId) (fn : Func) (hf : Tryz.pinned.checked.prog.funcNamed "tessera/tesseralaw07.TermNexts" = some f) (hfn : Tryz.pinned.checked.prog.funcs[f]? = some fn) :
    true = Tryz.pinned.checked.prog.looks [] ∧ ∀ (j : Nat) t, fn.params[j]? = some t → Tryz.pinned.checked.prog.wantsStandIn t = false := by
  obtain rfl : f = 5 := Option.some.inj ((show Tryz.prog.funcNamed "tessera/tesseralaw07.TermNexts" = some 5 by kernel_rfl).symm.trans hf) |>.symm
  obtain rfl : fn = Tryz.f5 := (Option.some.inj (Tryz.func5.symm.trans hfn)).symm
  refine ⟨by kernel_rfl, fun j t ht => ?_⟩
  have h : (Tryz.f5.params.toList.all fun t => !Tryz.prog.wantsStandIn t) = true := by kernel_rfl
  have := List.all_eq_true.1 h t (by simpa using Array.mem_of_getElem? ht)
  have e : Tryz.prog.wantsStandIn t = false := by simpa using this
  exact e
theorem card : Rows.TermNextsCardSaid :=
  Claim7.holds_tied_plain_at .later [] _ _ _ _ said (fun _ h => by cases h) (by kernel_rfl) (fun _ h => by cases h) termNexts_row_tie rfl ⟨rfl, rfl⟩ (by kernel_rfl) rfl plain (by kernel_rfl)
end Go.Proofs.YtpffclpheldabaaGreatDoor.termNexts
