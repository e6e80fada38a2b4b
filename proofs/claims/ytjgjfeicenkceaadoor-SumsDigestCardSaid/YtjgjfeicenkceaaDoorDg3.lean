/- SumsDigest: the row and its card out of the walk. Conditions: none beyond the statement's own. -/
import Derived.Test.YtjgjfeicenkceaaDoorCards
import Derived.Test.YtjgjfeicenkceaaDoorTie
import Derived.Test.YtjgjfeicenkceaaDoorDg2
/- The program's hash: New, Write, Fork. Conditions: none. -/
set_option linter.unusedVariables false
set_option linter.unusedSimpArgs false
set_option maxRecDepth 20000
namespace Go.Proofs.YtjgjfeicenkceaaDoor
open Go.Sx Go.Our
def plSha70 : Plan := (planOf [(0, 1), (1, 1), (2, 1), (3, 1), (5, 1), (6, 1), (7, 1), (4, 2), (8, 2), (9, 3), (10, 1), (11, 1), (12, 0)])
def plSha71 : Plan := (planOf [(0, 1), (1, 1), (2, 1), (4, 1), (5, 1), (6, 1), (9, 1), (10, 1), (11, 1), (3, 2), (7, 2), (12, 2), (8, 3), (13, 1), (14, 3), (15, 1)])
theorem FIN.weak {M : Mx} {O O1 : Hps} {nx n1 : Nat} {r r1 : SV} {Q : SV → Hps → Nat → Prop} (h : ∀ η w v, HeapOK M η w O nx → Den η r v → ∃ η', η <+: η' ∧ HeapOK M η' w O1 n1 ∧ Den η' r1 v) (hf : FIN M O1 n1 r1 Q) : FIN M O nx r Q :=
  ⟨fun η w v H hd => let ⟨η1, h1, h2, h3⟩ := h η w v H hd; hf.out η1 w v h2 h3⟩
theorem FIN.nil {M : Mx} {O : Hps} {nx : Nat} {Q : SV → Hps → Nat → Prop} (es : Nat) (hf : FIN M ((nx, .rows es []) :: O) (nx + 1) (.sl (.loc nx) 0 es 0 none) Q) : FIN M O nx (.val (.slice none 0 0)) Q := by
  refine FIN.weak (fun η w v H hd => ?_) hf
  have hnew : (η ++ [none])[nx]? = some none := by rw [List.getElem?_append_right (by rw [H.len]; omega), H.len]; simp
  refine ⟨η ++ [none], List.prefix_append _ _, H.push none (fun _ _ => rfl) (Nat.le_refl _) rfl rfl rfl (Nat.le_refl _) (.inl ⟨hnew, rfl⟩) (fun k f => (feet.none (b := .loc nx) hnew f).elim) (fun k f => (feet.none (b := .loc nx) hnew f).elim), ?_⟩
  simp only [Den] at hd ⊢
  exact .inl ⟨hnew, hd.1, trivial⟩
theorem FIN.nilCell {M : Mx} {O : Hps} {nx : Nat} {r : SV} {Q : SV → Hps → Nat → Prop} (i j es : Nat) {row row' : List SV} (hi : lkp i O = some (.box row)) (hr : nilAt nx es j row = some row') (hf : FIN M ((nx, .rows es []) :: setK i (.box row') O) (nx + 1) r Q) : FIN M O nx r Q :=
  FIN.weak (fun η w v H hd => let ⟨η', h1, h2⟩ := H.nilCell hi hr; ⟨η', h1, h2, Den.mono h1 hd⟩) hf
theorem rowsAll (l : List UInt8) : ((l.map Sx.bytesRow).drop 0).take l.length = l.map Sx.bytesRow := by
  rw [List.drop_zero, List.take_of_length_le (by simp)]
theorem clone_does (b : List UInt8) (r n : Nat) (hr : r + n ≤ b.length) (hb : b.length ≤ 140737488355328) : Does Tryd.prog tab 33 1 [.sl (.loc 0) r 1 n none] [] [(0, .rows 1 (b.map Sx.bytesRow))] (NewBytes 1 ((b.drop r).take n)) := by
  have hrow : ((b.map Sx.bytesRow).drop r).take n = ((b.drop r).take n).map Sx.bytesRow := by rw [List.map_take, List.map_drop]
  have hxl : ((b.drop r).take n).length = n := by simp; omega
  generalize hx : (b.drop r).take n = x at hrow hxl
  refine Does.enter tabOK (g := 33) (fn := Tryd.f33) Tryd.call33 Tryd.func33 rfl 8 rfl rfl [.tmp 2] rfl ?_
  intro w0 F η0 h0
  conv => whnf
  repeat' ((first | with_reducible refine IF.tt ?_ | with_reducible refine IF.ff ?_ | (rw [hrow]; conv => whnf) | (refine NEED.mk (needApp 1 rfl rfl (by simpa using hxl) (by simp) (by omega)) ?_; conv => whnf) | ((with_reducible refine NEED.mk ?_ ?_); (first | with_reducible rfl | omega | (simp (disch := omega) only [lnB, wrap64, wrap32] <;> omega) | (intro h; (try simp (disch := omega) only [hsB, hsC, lnB, wrap64, wrap32, simprocAttr] at h); (first | omega | (simp (disch := omega) only [lnB, wrap64, wrap32] <;> omega))) | (exact needApp 256 rfl rfl (by simp) (by simp) (by omega)) | (simp <;> omega))) | ((with_reducible apply GET.at); rfl) | ((with_reducible apply GETG.at); rfl) | ((with_reducible refine UNK.mk (fun h => ?_) ?_) <;> try (exfalso; omega)) | ((with_reducible refine IF.mk (fun h => ?_) (fun h => ?_)) <;> (try simp (disch := omega) only [hsB, hsC, lnB, wrap64, wrap32, simprocAttr] at h) <;> try (exfalso; omega))) <;> conv => whnf)
  · subst h
    have : x = [] := List.length_eq_zero_iff.1 hxl
    subst this
    refine FIN.nil 1 ?_
    exact FIN.rows h0 1 1 0 rfl rfl rfl rfl ⟨rfl, rfl, rfl⟩
  · rw [Nat.zero_add]
    exact FIN.rows h0 2 1 n rfl rfl rfl (plainBytes _) ⟨by rw [hxl], rfl, rfl⟩
/-- A hash in memory. -/
def hashRow (s : S8) (t : SV) (n : Int) : List SV := [.int .u32 (Uw s.a), .int .u32 (Uw s.b), .int .u32 (Uw s.c), .int .u32 (Uw s.d), .int .u32 (Uw s.e), .int .u32 (Uw s.f), .int .u32 (Uw s.g), .int .u32 (Uw s.h), t, .int .i64 n]
def NewHash (s : S8) (l : List UInt8) (n : Int) : SV → Hps → Nat → Prop := fun r O nx => r = .ptr (.loc 0) 0 0 0 ∧ O = [(0, .box (hashRow s (.sl (.loc 1) 0 1 l.length none) n)), (1, .rows 1 (l.map Sx.bytesRow))] ∧ nx = 2
theorem new_does : Does Tryd.prog tab 20 0 [] [] [] (NewHash start8 [] 0) := by
  refine Does.enter tabOK (g := 20) (fn := Tryd.f20) Tryd.call20 Tryd.func20 rfl 4 rfl rfl [.tmp 0] rfl ?_
  intro w0 F η0 h0
  conv => whnf
  repeat' ((first | with_reducible refine IF.tt ?_ | with_reducible refine IF.ff ?_ | ((with_reducible refine NEED.mk ?_ ?_); (first | with_reducible rfl | omega | (simp (disch := omega) only [lnB, wrap64, wrap32] <;> omega) | (intro h; (try simp (disch := omega) only [hsB, hsC, lnB, wrap64, wrap32, simprocAttr] at h); (first | omega | (simp (disch := omega) only [lnB, wrap64, wrap32] <;> omega))) | (exact needApp 256 rfl rfl (by simp) (by simp) (by omega)) | (simp <;> omega))) | ((with_reducible apply GET.at); rfl) | ((with_reducible apply GETG.at); rfl) | ((with_reducible refine UNK.mk (fun h => ?_) ?_) <;> try (exfalso; omega)) | ((with_reducible refine IF.mk (fun h => ?_) (fun h => ?_)) <;> (try simp (disch := omega) only [hsB, hsC, lnB, wrap64, wrap32, simprocAttr] at h) <;> try (exfalso; omega))) <;> conv => whnf)
  refine FIN.nilCell 0 8 1 rfl rfl ?_
  refine FIN.at h0 [0, 1] (.ptr (.loc 0) 0 0 0) [(0, .box (hashRow start8 (.sl (.loc 1) 0 1 0 none) 0)), (1, .rows 1 [])] rfl rfl rfl (by first | rfl | (simp only [belowO, belowH, plainLL_below _ (plainBytes _), Bool.and_self, Bool.and_true] <;> rfl)) (by repeat' (first | exact trivial | exact (renH_plain _ (h := .rows _ _) (plainBytes _)).symm | (with_reducible rfl) | (exact rows_eq (plainBytes _) (by simp [Sx.bytesRow, ofVal, List.take_of_length_le])) | exact rfl | ((conv => whnf); refine ⟨?_, ?_⟩))) rfl ?_
  exact ⟨rfl, rfl, rfl⟩
set_option maxHeartbeats 4000000 in
theorem write_does (s : S8) (l b : List UInt8) (n : Nat) (r m : Nat) (hr : r + m ≤ b.length) (hb : b.length ≤ 140737488355328) (hl : l.length < 64) (hn : n + m ≤ 140737488351232) : Does Tryd.prog tab 21 3 [.ptr (.loc 0) 0 0 0, .sl (.loc 2) r 1 m none] [(0, .box (hashRow s (.sl (.loc 1) 0 1 l.length none) (n : Int))), (1, .rows 1 (l.map Sx.bytesRow))] [(2, .rows 1 (b.map Sx.bytesRow))]
    (fun r' O nx => r' = .tup [] ∧ O = [(0, .box (hashRow (foldB s (l ++ (b.drop r).take m)) (.sl (.loc 3) 0 1 (tailB (l ++ (b.drop r).take m)).length none) ((n + m : Nat) : Int))), (3, .rows 1 ((tailB (l ++ (b.drop r).take m)).map Sx.bytesRow))] ∧ nx = 4) := by
  have hrow : ((b.map Sx.bytesRow).drop r).take m = ((b.drop r).take m).map Sx.bytesRow := by rw [List.map_take, List.map_drop]
  have hxl : ((b.drop r).take m).length = m := by simp; omega
  generalize hx : (b.drop r).take m = x at hrow hxl
  have hwn : IntKind.i64.wrap ((n : Int) + (m : Int)) = ((n + m : Nat) : Int) := by rw [wrap64 (by omega) (by omega)]; omega
  have happ : List.take l.length (l.map Sx.bytesRow) ++ x.map Sx.bytesRow = (l ++ x).map Sx.bytesRow := by rw [List.take_of_length_le (by simp), List.map_append]
  have hlen : l.length + m = (l ++ x).length := by simp [hxl]
  have hsm : (l ++ x).length ≤ 140737488355328 := by simp [hxl]; omega
  refine Does.enter tabOK (g := 21) (fn := Tryd.f21) Tryd.call21 Tryd.func21 rfl 56 rfl rfl [] rfl ?_
  intro w0 F η0 h0
  conv => whnf
  repeat' ((first | with_reducible refine IF.tt ?_ | with_reducible refine IF.ff ?_ | (rw [hwn]; conv => whnf) | (rw [hrow]; conv => whnf) | (refine NEED.mk (needApp 1 rfl rfl (by simpa using hxl) (by simp) (by omega)) ?_; conv => whnf) | ((with_reducible refine NEED.mk ?_ ?_); (first | with_reducible rfl | omega | (simp (disch := omega) only [lnB, wrap64, wrap32] <;> omega) | (intro h; (try simp (disch := omega) only [hsB, hsC, lnB, wrap64, wrap32, simprocAttr] at h); (first | omega | (simp (disch := omega) only [lnB, wrap64, wrap32] <;> omega))) | (exact needApp 256 rfl rfl (by simp) (by simp) (by omega)) | (simp <;> omega))) | ((with_reducible apply GET.at); rfl) | ((with_reducible apply GETG.at); rfl) | ((with_reducible refine UNK.mk (fun h => ?_) ?_) <;> try (exfalso; omega)) | ((with_reducible refine IF.mk (fun h => ?_) (fun h => ?_)) <;> (try simp (disch := omega) only [hsB, hsC, lnB, wrap64, wrap32, simprocAttr] at h) <;> try (exfalso; omega))) <;> conv => whnf)
  rw [happ, hlen]
  generalize l ++ x = all at hsm
  refine LOOP.go tabOK [0] (X := Nat × S8) (fun x => 64 * x.1 ≤ all.length ∧ x.2 = foldN s all x.1) (fun _ => []) (fun x => [(0, .box (hashRow x.2 (.sl (.loc 3) (64 * x.1) 1 (all.length - 64 * x.1) none) ((n + m : Nat) : Int))), (3, .rows 1 (all.map Sx.bytesRow))]) 4 (fun x => all.length - 64 * x.1) (0, s) ⟨by simp, rfl⟩ ?_
  conv => whnf
  refine ⟨by (refine GOES.cutting h0 rfl rfl rfl (by first | rfl | (simp only [belowO, belowH, plainLL_below _ (plainBytes _), Bool.and_self, Bool.and_true] <;> rfl)) ?_ ?_ <;> (repeat' (first | (with_reducible rfl) | (exact congrArg (SV.int _) (by first | omega | (simp (disch := omega) only [lnB, wrap64, wrap32] <;> omega) | (simp; done) | (simp <;> omega))) | (exact congrArg (Hp.rows _) (by rfl)) | ((conv => whnf); refine ⟨?_, ?_⟩) | exact trivial | rfl))), ?_⟩
  rintro ⟨k, s'⟩ ⟨hk, hs'⟩
  dsimp only at hk hs' ⊢
  conv => whnf
  refine IF.mk (fun h => ?_) (fun h => ?_)
  · have h : 64 * k + 64 ≤ all.length := by simp at h; omega
    have hbl := block_does s' all (64 * k) (all.length - 64 * k) (by omega) (by omega) hsm
    conv => whnf
    repeat' ((first | with_reducible refine IF.tt ?_ | with_reducible refine IF.ff ?_ | refine DRAWN.of (id := 3) tabOK mixed plSha70 (by kernel_rfl) ?_ | with_reducible refine ADD.mk (fun _ _ => ?_) | with_reducible refine NEED.mk (Det.of rfl) ?_ | with_reducible refine FORK.mk ?_ ?_ | (refine NEED.mk (det_pos (by omega)) ?_; conv => whnf) | (refine CALL.look1 3 hbl rfl rfl rfl rfl (plainBytes _) rfl ?_; conv => whnf) | (refine NEED.mk ⟨by omega, by omega⟩ ?_; conv => whnf) | ((with_reducible refine NEED.mk ?_ ?_); (first | with_reducible rfl | omega | (simp (disch := omega) only [lnB, wrap64, wrap32] <;> omega) | (intro h; (try simp (disch := omega) only [hsB, hsC, lnB, wrap64, wrap32, simprocAttr] at h); (first | omega | (simp (disch := omega) only [lnB, wrap64, wrap32] <;> omega))) | (exact needApp 256 rfl rfl (by simp) (by simp) (by omega)) | (simp <;> omega))) | ((with_reducible apply GET.at); rfl) | ((with_reducible apply GETG.at); rfl) | ((with_reducible refine UNK.mk (fun h => ?_) ?_) <;> try (exfalso; omega)) | ((with_reducible refine IF.mk (fun h => ?_) (fun h => ?_)) <;> (try simp (disch := omega) only [hsB, hsC, lnB, wrap64, wrap32, simprocAttr] at h) <;> try (exfalso; omega))) <;> conv => whnf)
    rw [show 64 * k + (64 : Int).toNat = 64 * (k + 1) by omega, show all.length - 64 * k - (64 : Int).toNat = all.length - 64 * (k + 1) by omega]
    refine ⟨(k + 1, blockM s' (all.drop (64 * k))), ⟨by simp only; omega, by simp only [hs']; rfl⟩, by simp only; omega, ?_⟩
    dsimp only
    conv => whnf
    (refine GOES.cutting h0 rfl rfl rfl (by first | rfl | (simp only [belowO, belowH, plainLL_below _ (plainBytes _), Bool.and_self, Bool.and_true] <;> rfl)) ?_ ?_ <;> (repeat' (first | (with_reducible rfl) | (exact congrArg (SV.int _) (by first | omega | (simp (disch := omega) only [lnB, wrap64, wrap32] <;> omega) | (simp; done) | (simp <;> omega))) | (exact congrArg (Hp.rows _) (by rfl)) | ((conv => whnf); refine ⟨?_, ?_⟩) | exact trivial | rfl)))
  · have h : k = all.length / 64 := by simp at h; omega
    have hf : s' = foldB s all := by rw [hs', h]; rfl
    have htl : (all.drop (64 * k)).take (all.length - 64 * k) = tailB all := by rw [List.take_of_length_le (by simp)]; rw [h]; rfl
    have htn : all.length - 64 * k = (tailB all).length := by rw [tailB_len]; omega
    have hcl := clone_does all (64 * k) (all.length - 64 * k) (by omega) hsm
    rw [htl] at hcl
    rw [← hf]
    conv => whnf
    refine CALL.bytes1 3 hcl rfl rfl rfl rfl (plainBytes _) ?_
    conv => whnf
    repeat' ((first | with_reducible refine IF.tt ?_ | with_reducible refine IF.ff ?_ | ((with_reducible refine NEED.mk ?_ ?_); (first | with_reducible rfl | omega | (simp (disch := omega) only [lnB, wrap64, wrap32] <;> omega) | (intro h; (try simp (disch := omega) only [hsB, hsC, lnB, wrap64, wrap32, simprocAttr] at h); (first | omega | (simp (disch := omega) only [lnB, wrap64, wrap32] <;> omega))) | (exact needApp 256 rfl rfl (by simp) (by simp) (by omega)) | (simp <;> omega))) | ((with_reducible apply GET.at); rfl) | ((with_reducible apply GETG.at); rfl) | ((with_reducible refine UNK.mk (fun h => ?_) ?_) <;> try (exfalso; omega)) | ((with_reducible refine IF.mk (fun h => ?_) (fun h => ?_)) <;> (try simp (disch := omega) only [hsB, hsC, lnB, wrap64, wrap32, simprocAttr] at h) <;> try (exfalso; omega))) <;> conv => whnf)
    refine FIN.at h0 [4] (.tup []) [(0, .box (hashRow s' (.sl (.loc 3) 0 1 (tailB all).length none) ((n + m : Nat) : Int))), (3, .rows 1 ((tailB all).map Sx.bytesRow))] rfl rfl rfl (by first | rfl | (simp only [belowO, belowH, plainLL_below _ (plainBytes _), Bool.and_self, Bool.and_true] <;> rfl)) (by repeat' (first | exact trivial | exact (renH_plain _ (h := .rows _ _) (plainBytes _)).symm | (with_reducible rfl) | (exact rows_eq (plainBytes _) (by simp [Sx.bytesRow, ofVal, List.take_of_length_le])) | exact rfl | ((conv => whnf); refine ⟨?_, ?_⟩))) rfl ?_
    exact ⟨rfl, rfl, rfl⟩
theorem len_does (s : S8) (t : SV) (n : Int) (l : List UInt8) : Does Tryd.prog tab 24 2 [.ptr (.loc 0) 0 0 0] [] [(0, .box (hashRow s (.sl (.loc 1) 0 1 l.length none) n)), (1, .rows 1 (l.map Sx.bytesRow))] (ValK 2 (.int .i64 n)) := by
  refine Does.enter tabOK (g := 24) (fn := Tryd.f24) Tryd.call24 Tryd.func24 rfl 7 rfl rfl [.tmp 2] rfl ?_
  intro w0 F η0 h0
  conv => whnf
  repeat' ((first | with_reducible refine IF.tt ?_ | with_reducible refine IF.ff ?_ | ((with_reducible refine NEED.mk ?_ ?_); (first | with_reducible rfl | omega | (simp (disch := omega) only [lnB, wrap64, wrap32] <;> omega) | (intro h; (try simp (disch := omega) only [hsB, hsC, lnB, wrap64, wrap32, simprocAttr] at h); (first | omega | (simp (disch := omega) only [lnB, wrap64, wrap32] <;> omega))) | (exact needApp 256 rfl rfl (by simp) (by simp) (by omega)) | (simp <;> omega))) | ((with_reducible apply GET.at); rfl) | ((with_reducible apply GETG.at); rfl) | ((with_reducible refine UNK.mk (fun h => ?_) ?_) <;> try (exfalso; omega)) | ((with_reducible refine IF.mk (fun h => ?_) (fun h => ?_)) <;> (try simp (disch := omega) only [hsB, hsC, lnB, wrap64, wrap32, simprocAttr] at h) <;> try (exfalso; omega))) <;> conv => whnf)
  exact FIN.valueK h0 rfl rfl
set_option maxHeartbeats 4000000 in
theorem fork_does (s : S8) (l : List UInt8) (n : Int) (hl : l.length < 64) : Does Tryd.prog tab 22 2 [.ptr (.loc 0) 0 0 0] [] [(0, .box (hashRow s (.sl (.loc 1) 0 1 l.length none) n)), (1, .rows 1 (l.map Sx.bytesRow))]
    (fun r O nx => r = .ptr (.loc 2) 0 0 0 ∧ O = [(2, .box (hashRow s (.sl (.loc 3) 0 1 l.length none) n)), (3, .rows 1 (l.map Sx.bytesRow))] ∧ nx = 4) := by
  have hcl := clone_does l 0 l.length (by omega) (by omega)
  rw [show (l.drop 0).take l.length = l by simp] at hcl
  refine Does.enter tabOK (g := 22) (fn := Tryd.f22) Tryd.call22 Tryd.func22 rfl 18 rfl rfl [.tmp 2] rfl ?_
  intro w0 F η0 h0
  conv => whnf
  repeat' ((first | with_reducible refine IF.tt ?_ | with_reducible refine IF.ff ?_ | refine DRAWN.of (id := 1) tabOK mixed plSha71 (by kernel_rfl) ?_ | with_reducible refine ADD.mk (fun _ _ => ?_) | with_reducible refine NEED.mk (Det.of rfl) ?_ | with_reducible refine FORK.mk ?_ ?_ | (refine CALL.bytes1 1 hcl rfl rfl rfl rfl (plainBytes _) ?_; conv => whnf) | ((with_reducible refine NEED.mk ?_ ?_); (first | with_reducible rfl | omega | (simp (disch := omega) only [lnB, wrap64, wrap32] <;> omega) | (intro h; (try simp (disch := omega) only [hsB, hsC, lnB, wrap64, wrap32, simprocAttr] at h); (first | omega | (simp (disch := omega) only [lnB, wrap64, wrap32] <;> omega))) | (exact needApp 256 rfl rfl (by simp) (by simp) (by omega)) | (simp <;> omega))) | ((with_reducible apply GET.at); rfl) | ((with_reducible apply GETG.at); rfl) | ((with_reducible refine UNK.mk (fun h => ?_) ?_) <;> try (exfalso; omega)) | ((with_reducible refine IF.mk (fun h => ?_) (fun h => ?_)) <;> (try simp (disch := omega) only [hsB, hsC, lnB, wrap64, wrap32, simprocAttr] at h) <;> try (exfalso; omega))) <;> conv => whnf)
  refine FIN.at h0 [3, 2] (.ptr (.loc 2) 0 0 0) [(2, .box (hashRow s (.sl (.loc 3) 0 1 l.length none) n)), (3, .rows 1 (l.map Sx.bytesRow))] rfl rfl rfl (by first | rfl | (simp only [belowO, belowH, plainLL_below _ (plainBytes _), Bool.and_self, Bool.and_true] <;> rfl)) (by repeat' (first | exact trivial | exact (renH_plain _ (h := .rows _ _) (plainBytes _)).symm | (with_reducible rfl) | (exact rows_eq (plainBytes _) (by simp [Sx.bytesRow, ofVal, List.take_of_length_le])) | exact rfl | ((conv => whnf); refine ⟨?_, ?_⟩))) rfl ?_
  exact ⟨rfl, rfl, rfl⟩
end Go.Proofs.YtjgjfeicenkceaaDoor
/- The program's hash: Sum, Digest. Conditions: none. -/
set_option linter.unusedVariables false
set_option linter.unusedSimpArgs false
set_option maxRecDepth 20000
namespace Go.Proofs.YtjgjfeicenkceaaDoor
open Go.Sx Go.Our
theorem box8_det (s : S8) (t : SV) (n : Int) : True := trivial
set_option maxHeartbeats 4000000 in
theorem sum_does (s : S8) (l : List UInt8) (n : Nat) (hl : l.length < 64) (hn : n ≤ 140737488351232) : Does Tryd.prog tab 23 2 [.ptr (.loc 0) 0 0 0] [] [(0, .box (hashRow s (.sl (.loc 1) 0 1 l.length none) (n : Int))), (1, .rows 1 (l.map Sx.bytesRow))]
    (ValK 2 (.arr 1 ((outB (foldB s (padM l n))).map Sx.bytesRow))) := by
  have hcl := clone_does l 0 l.length (by omega) (by omega)
  rw [show (l.drop 0).take l.length = l by simp] at hcl
  have hno : noughts l.length < 64 := by unfold noughts; omega
  refine Does.enter tabOK (g := 23) (fn := Tryd.f23) Tryd.call23 Tryd.func23 rfl 68 rfl rfl [.cell 2 34] rfl ?_
  intro w0 F η0 h0
  conv => whnf
  repeat' ((first | with_reducible refine IF.tt ?_ | with_reducible refine IF.ff ?_ | (refine CALL.bytes1 1 hcl rfl rfl rfl rfl (plainBytes _) ?_; conv => whnf) | (refine NEED.mk (needApp 1 rfl rfl (by first | (simp; done) | (simp; omega)) (by first | (simp; done) | (simp; omega)) (by omega)) ?_; conv => whnf) | ((with_reducible refine NEED.mk ?_ ?_); (first | with_reducible rfl | omega | (simp (disch := omega) only [lnB, wrap64, wrap32] <;> omega) | (intro h; (try simp (disch := omega) only [hsB, hsC, lnB, wrap64, wrap32, simprocAttr] at h); (first | omega | (simp (disch := omega) only [lnB, wrap64, wrap32] <;> omega))) | (exact needApp 256 rfl rfl (by simp) (by simp) (by omega)) | (simp <;> omega))) | ((with_reducible apply GET.at); rfl) | ((with_reducible apply GETG.at); rfl) | ((with_reducible refine UNK.mk (fun h => ?_) ?_) <;> try (exfalso; omega)) | ((with_reducible refine IF.mk (fun h => ?_) (fun h => ?_)) <;> (try simp (disch := omega) only [hsB, hsC, lnB, wrap64, wrap32, simprocAttr] at h) <;> try (exfalso; omega))) <;> conv => whnf)
  refine LOOP.go tabOK [0, 2] (X := Nat) (fun k => k ≤ noughts l.length) (fun k => [(3, .sl (.loc 3) 0 1 (l.length + 1 + k) none)]) (fun k => [(2, .rows 1 ((outP start8 0).map Sx.bytesRow)), (3, .rows 1 ((l ++ [128] ++ List.replicate k 0).map Sx.bytesRow))]) 4 (fun k => noughts l.length - k) 0 (by omega) ?_
  conv => whnf
  refine ⟨by (refine GOES.keeping h0 [2, 5] rfl rfl rfl (by first | rfl | (simp only [belowO, belowH, plainLL_below _ (plainBytes _), Bool.and_self, Bool.and_true] <;> rfl)) ?_ ?_ <;> (repeat' (first | (with_reducible rfl) | (exact rows_eq (plainBytes _) (renLL_plain _ (plainBytes _))) | (exact rows_eq (plainBytes _) (by first | (rw [List.replicate_zero, List.append_nil]; exact app1 (Nat.le_refl _) rfl) | rfl)) | (exact sl_eq rfl (by simp)) | (exact congrArg (SV.int _) (by first | omega | (simp (disch := omega) only [lnB, wrap64, wrap32] <;> omega) | (simp; done) | (simp <;> omega))) | ((conv => whnf); refine ⟨?_, ?_⟩) | exact trivial | (simp only [ren, renB]; done) | rfl))), ?_⟩
  rintro k hk
  have hiff := noughts_iff hk
  have hmod : Int.tmod ((l.length + 1 + k : Nat) : Int) 64 = ((l.length + 1 + k) % 64 : Nat) := by rw [Int.tmod_eq_emod_of_nonneg (by omega)]; omega
  conv => whnf
  repeat' ((first | with_reducible refine IF.tt ?_ | with_reducible refine IF.ff ?_ | (rw [hmod]; conv => whnf) | (refine NEED.mk (needApp 1 rfl rfl rfl (by simp; omega) (by omega)) ?_; conv => whnf) | ((with_reducible refine NEED.mk ?_ ?_); (first | with_reducible rfl | omega | (simp (disch := omega) only [lnB, wrap64, wrap32] <;> omega) | (intro h; (try simp (disch := omega) only [hsB, hsC, lnB, wrap64, wrap32, simprocAttr] at h); (first | omega | (simp (disch := omega) only [lnB, wrap64, wrap32] <;> omega))) | (exact needApp 256 rfl rfl (by simp) (by simp) (by omega)) | (simp <;> omega))) | ((with_reducible apply GET.at); rfl) | ((with_reducible apply GETG.at); rfl) | ((with_reducible refine UNK.mk (fun h => ?_) ?_) <;> try (exfalso; omega)) | ((with_reducible refine IF.mk (fun h => ?_) (fun h => ?_)) <;> (try simp (disch := omega) only [hsB, hsC, lnB, wrap64, wrap32, simprocAttr] at h) <;> try (exfalso; omega))) <;> conv => whnf)
  · refine ⟨k + 1, by omega, by omega, ?_⟩
    conv => whnf
    (refine GOES.keeping h0 [2, 5] rfl rfl rfl (by first | rfl | (simp only [belowO, belowH, plainLL_below _ (plainBytes _), Bool.and_self, Bool.and_true] <;> rfl)) ?_ ?_ <;> (repeat' (first | (with_reducible rfl) | (exact rows_eq (plainBytes _) (renLL_plain _ (plainBytes _))) | (exact rows_eq (plainBytes _) (by (rw [List.replicate_succ', ← List.append_assoc]; exact app1 (by simp; omega) rfl))) | (exact sl_eq rfl (by simp)) | (exact congrArg (SV.int _) (by first | omega | (simp (disch := omega) only [lnB, wrap64, wrap32] <;> omega) | (simp; done) | (simp <;> omega))) | ((conv => whnf); refine ⟨?_, ?_⟩) | exact trivial | (simp only [ren, renB]; done) | rfl)))
  · have hk : k = noughts l.length := hiff.1 (by omega)
    obtain ⟨y, hy⟩ : ∃ y, y = l ++ [128] ++ List.replicate k 0 := ⟨_, rfl⟩
    have hyl : y.length = l.length + 1 + k := by rw [hy]; simp; omega
    have hfin : padM l n = y ++ be8 (n * 8) := by rw [hy, hk]; rfl
    have hpl := padM_len l n
    rw [← hy, hfin, ← hyl]
    rw [hfin] at hpl
    have hN : IntKind.u64.wrap (IntKind.u64.wrap (n : Int) * 8) = ((n * 8 : Nat) : Int) := by rw [IntWalk.u64_in (n : Int) ⟨by omega, by omega⟩, IntWalk.u64_in _ ⟨by omega, by omega⟩]; omega
    clear hy hk hiff hmod h hfin
    repeat' ((first | with_reducible refine IF.tt ?_ | with_reducible refine IF.ff ?_ | ((with_reducible refine NEED.mk ?_ ?_); (first | with_reducible rfl | omega | (simp (disch := omega) only [lnB, wrap64, wrap32] <;> omega) | (intro h; (try simp (disch := omega) only [hsB, hsC, lnB, wrap64, wrap32, simprocAttr] at h); (first | omega | (simp (disch := omega) only [lnB, wrap64, wrap32] <;> omega))) | (exact needApp 256 rfl rfl (by simp) (by simp) (by omega)) | (simp <;> omega))) | ((with_reducible apply GET.at); rfl) | ((with_reducible apply GETG.at); rfl) | ((with_reducible refine UNK.mk (fun h => ?_) ?_) <;> try (exfalso; omega)) | ((with_reducible refine IF.mk (fun h => ?_) (fun h => ?_)) <;> (try simp (disch := omega) only [hsB, hsC, lnB, wrap64, wrap32, simprocAttr] at h) <;> try (exfalso; omega))) <;> conv => whnf)
    refine LOOP.go tabOK [0, 2] (X := Nat) (fun j => j ≤ 8) (fun j => [(3, .sl (.loc 3) 0 1 (y.length + j) none), (4, .int .i64 (7 - (j : Int)))]) (fun j => [(2, .rows 1 ((outP start8 0).map Sx.bytesRow)), (3, .rows 1 ((y ++ (be8 (n * 8)).take j).map Sx.bytesRow))]) 4 (fun j => 8 - j) 0 (by omega) ?_
    conv => whnf
    refine ⟨by (refine GOES.keeping h0 [2, 3] rfl rfl rfl (by first | rfl | (simp only [belowO, belowH, plainLL_below _ (plainBytes _), Bool.and_self, Bool.and_true] <;> rfl)) ?_ ?_ <;> (repeat' (first | (with_reducible rfl) | (exact rows_eq (plainBytes _) (renLL_plain _ (plainBytes _))) | (exact rows_eq (plainBytes _) (by first | (rw [List.take_zero, List.append_nil]; done) | rfl)) | (exact sl_eq rfl (by simp)) | (exact congrArg (SV.int _) (by first | omega | (simp (disch := omega) only [lnB, wrap64, wrap32] <;> omega) | (simp; done) | (simp <;> omega))) | ((conv => whnf); refine ⟨?_, ?_⟩) | exact trivial | (simp only [ren, renB]; done) | rfl))), ?_⟩
    rintro j hj
    have htl : ((be8 (n * 8)).take j).length = j := by simp [be8]; omega
    conv => whnf
    refine IF.mk (fun h => ?_) (fun h => ?_)
    · have h : j < 8 := by simp at h; omega
      have hw : IntKind.i64.wrap (8 * (7 - (j : Int))) = 8 * ((7 - j : Nat) : Int) := by rw [wrap64 (by omega) (by omega)]; omega
      conv => whnf
      repeat' ((first | with_reducible refine IF.tt ?_ | with_reducible refine IF.ff ?_ | (rw [hw]; conv => whnf) | (rw [hN]; conv => whnf) | (refine NEED.mk (needApp 1 rfl rfl rfl (by rw [List.length_map, List.length_append, htl]; exact Nat.le_refl _) (by omega)) ?_; conv => whnf) | ((with_reducible refine NEED.mk ?_ ?_); (first | with_reducible rfl | omega | (simp (disch := omega) only [lnB, wrap64, wrap32] <;> omega) | (intro h; (try simp (disch := omega) only [hsB, hsC, lnB, wrap64, wrap32, simprocAttr] at h); (first | omega | (simp (disch := omega) only [lnB, wrap64, wrap32] <;> omega))) | (exact needApp 256 rfl rfl (by simp) (by simp) (by omega)) | (simp <;> omega))) | ((with_reducible apply GET.at); rfl) | ((with_reducible apply GETG.at); rfl) | ((with_reducible refine UNK.mk (fun h => ?_) ?_) <;> try (exfalso; omega)) | ((with_reducible refine IF.mk (fun h => ?_) (fun h => ?_)) <;> (try simp (disch := omega) only [hsB, hsC, lnB, wrap64, wrap32, simprocAttr] at h) <;> try (exfalso; omega))) <;> conv => whnf)
      refine ⟨j + 1, by omega, by omega, ?_⟩
      conv => whnf
      (refine GOES.keeping h0 [2, 5] rfl rfl rfl (by first | rfl | (simp only [belowO, belowH, plainLL_below _ (plainBytes _), Bool.and_self, Bool.and_true] <;> rfl)) ?_ ?_ <;> (repeat' (first | (with_reducible rfl) | (exact rows_eq (plainBytes _) (renLL_plain _ (plainBytes _))) | (exact rows_eq (plainBytes _) (by (rw [← be8_step _ h, ← List.append_assoc]; exact app1 (by rw [List.length_append, htl]; exact Nat.le_refl _) (beI h rfl)))) | (exact sl_eq rfl (by simp)) | (exact congrArg (SV.int _) (by first | omega | (simp (disch := omega) only [lnB, wrap64, wrap32] <;> omega) | (simp; done) | (simp <;> omega))) | ((conv => whnf); refine ⟨?_, ?_⟩) | exact trivial | (simp only [ren, renB]; done) | rfl)))
    · have h : j = 8 := by simp at h; omega
      subst h
      rw [show (be8 (n * 8)).take 8 = be8 (n * 8) from rfl, show y.length + 8 = (y ++ be8 (n * 8)).length by rw [List.length_append]; rfl]
      generalize y ++ be8 (n * 8) = P at hpl
      conv => whnf
      repeat' ((first | with_reducible refine IF.tt ?_ | with_reducible refine IF.ff ?_ | (refine NEED.mk (by first | exact ⟨rfl, rfl, rfl⟩ | exact ⟨rfl, rfl, rfl, rfl, rfl⟩) ?_; conv => whnf) | ((with_reducible refine NEED.mk ?_ ?_); (first | with_reducible rfl | omega | (simp (disch := omega) only [lnB, wrap64, wrap32] <;> omega) | (intro h; (try simp (disch := omega) only [hsB, hsC, lnB, wrap64, wrap32, simprocAttr] at h); (first | omega | (simp (disch := omega) only [lnB, wrap64, wrap32] <;> omega))) | (exact needApp 256 rfl rfl (by simp) (by simp) (by omega)) | (simp <;> omega))) | ((with_reducible apply GET.at); rfl) | ((with_reducible apply GETG.at); rfl) | ((with_reducible refine UNK.mk (fun h => ?_) ?_) <;> try (exfalso; omega)) | ((with_reducible refine IF.mk (fun h => ?_) (fun h => ?_)) <;> (try simp (disch := omega) only [hsB, hsC, lnB, wrap64, wrap32, simprocAttr] at h) <;> try (exfalso; omega))) <;> conv => whnf)
      refine LOOP.go tabOK [2, 5] (X := Nat × S8) (fun x => 64 * x.1 ≤ P.length ∧ x.2 = foldN s P x.1) (fun x => [(3, .sl (.loc 3) (64 * x.1) 1 (P.length - 64 * x.1) none)]) (fun x => [(2, .rows 1 ((outP start8 0).map Sx.bytesRow)), (3, .rows 1 (P.map Sx.bytesRow)), (4, .rows 1 (rows8 x.2))]) 5 (fun x => P.length - 64 * x.1) (0, s) ⟨by simp, rfl⟩ ?_
      conv => whnf
      refine ⟨by (refine GOES.cutting h0 rfl rfl rfl (by first | rfl | (simp only [belowO, belowH, plainLL_below _ (plainBytes _), Bool.and_self, Bool.and_true] <;> rfl)) ?_ ?_ <;> (repeat' (first | (with_reducible rfl) | (exact congrArg (SV.int _) (by first | omega | (simp (disch := omega) only [lnB, wrap64, wrap32] <;> omega) | (simp; done) | (simp <;> omega))) | (exact congrArg (Hp.rows _) (by rfl)) | ((conv => whnf); refine ⟨?_, ?_⟩) | exact trivial | rfl))), ?_⟩
      rintro ⟨k, s'⟩ ⟨hk, hs'⟩
      dsimp only at hk hs' ⊢
      conv => whnf
      refine IF.mk (fun h => ?_) (fun h => ?_)
      · have h : 64 * k + 64 ≤ P.length := by simp at h; omega
        have hbl := does_args (block_does s' P (64 * k) (P.length - 64 * k) (by omega) (by omega) (by omega)) (fun η vs => denL_arr8)
        conv => whnf
        repeat' ((first | with_reducible refine IF.tt ?_ | with_reducible refine IF.ff ?_ | (refine CALL.look1 3 hbl rfl rfl rfl rfl (plainBytes _) rfl ?_; conv => whnf) | (refine NEED.mk (by first | exact ⟨rfl, rfl, rfl⟩ | exact ⟨rfl, rfl, rfl, rfl, rfl⟩) ?_; conv => whnf) | (refine NEED.mk ⟨by omega, by omega⟩ ?_; conv => whnf) | ((with_reducible refine NEED.mk ?_ ?_); (first | with_reducible rfl | omega | (simp (disch := omega) only [lnB, wrap64, wrap32] <;> omega) | (intro h; (try simp (disch := omega) only [hsB, hsC, lnB, wrap64, wrap32, simprocAttr] at h); (first | omega | (simp (disch := omega) only [lnB, wrap64, wrap32] <;> omega))) | (exact needApp 256 rfl rfl (by simp) (by simp) (by omega)) | (simp <;> omega))) | ((with_reducible apply GET.at); rfl) | ((with_reducible apply GETG.at); rfl) | ((with_reducible refine UNK.mk (fun h => ?_) ?_) <;> try (exfalso; omega)) | ((with_reducible refine IF.mk (fun h => ?_) (fun h => ?_)) <;> (try simp (disch := omega) only [hsB, hsC, lnB, wrap64, wrap32, simprocAttr] at h) <;> try (exfalso; omega))) <;> conv => whnf)
        rw [show 64 * k + (64 : Int).toNat = 64 * (k + 1) by omega, show P.length - 64 * k - (64 : Int).toNat = P.length - 64 * (k + 1) by omega]
        refine ⟨(k + 1, blockM s' (P.drop (64 * k))), ⟨by simp only; omega, by simp only [hs']; rfl⟩, by simp only; omega, ?_⟩
        dsimp only
        conv => whnf
        (refine GOES.cutting h0 rfl rfl rfl (by first | rfl | (simp only [belowO, belowH, plainLL_below _ (plainBytes _), Bool.and_self, Bool.and_true] <;> rfl)) ?_ ?_ <;> (repeat' (first | (with_reducible rfl) | (exact congrArg (SV.int _) (by first | omega | (simp (disch := omega) only [lnB, wrap64, wrap32] <;> omega) | (simp; done) | (simp <;> omega))) | (exact congrArg (Hp.rows _) (by rfl)) | ((conv => whnf); refine ⟨?_, ?_⟩) | exact trivial | rfl)))
      · have h : k = P.length / 64 := by simp at h; omega
        have hf : s' = foldB s P := by rw [hs', h]; rfl
        rw [← hf]
        clear hf hs' hcl
        conv => whnf
        repeat' ((first | with_reducible refine IF.tt ?_ | with_reducible refine IF.ff ?_ | ((with_reducible refine NEED.mk ?_ ?_); (first | with_reducible rfl | omega | (simp (disch := omega) only [lnB, wrap64, wrap32] <;> omega) | (intro h; (try simp (disch := omega) only [hsB, hsC, lnB, wrap64, wrap32, simprocAttr] at h); (first | omega | (simp (disch := omega) only [lnB, wrap64, wrap32] <;> omega))) | (exact needApp 256 rfl rfl (by simp) (by simp) (by omega)) | (simp <;> omega))) | ((with_reducible apply GET.at); rfl) | ((with_reducible apply GETG.at); rfl) | ((with_reducible refine UNK.mk (fun h => ?_) ?_) <;> try (exfalso; omega)) | ((with_reducible refine IF.mk (fun h => ?_) (fun h => ?_)) <;> (try simp (disch := omega) only [hsB, hsC, lnB, wrap64, wrap32, simprocAttr] at h) <;> try (exfalso; omega))) <;> conv => whnf)
        refine LOOP.go tabOK [2, 5, 6] (X := Nat) (fun i => i ≤ 32) (fun i => [(51, .int .i64 (i : Int))]) (fun i => [(2, .rows 1 ((outP start8 0).map Sx.bytesRow)), (4, .rows 1 ((L8 s').map w32)), (5, .rows 1 ((outP s' i).map Sx.bytesRow))]) 6 (fun i => 32 - i) 0 (by omega) ?_
        conv => whnf
        refine ⟨by (refine GOES.cutting h0 rfl rfl rfl (by first | rfl | (simp only [belowO, belowH, plainLL_below _ (plainBytes _), Bool.and_self, Bool.and_true] <;> rfl)) ?_ ?_ <;> (repeat' (first | (with_reducible rfl) | (exact congrArg (SV.int _) (by first | omega | (simp (disch := omega) only [lnB, wrap64, wrap32] <;> omega) | (simp; done) | (simp <;> omega))) | (exact congrArg (Hp.rows _) (by rfl)) | ((conv => whnf); refine ⟨?_, ?_⟩) | exact trivial | rfl))), ?_⟩
        rintro i hi
        conv => whnf
        refine IF.mk (fun h => ?_) (fun h => ?_)
        · have h : i < 32 := by simp at h; omega
          have hw1 : IntKind.i64.wrap (Int.tdiv (i : Int) 4) = ((i / 4 : Nat) : Int) := by rw [Int.tdiv_eq_ediv_of_nonneg (by omega), wrap64 (by omega) (by omega)]; omega
          have hw2 : IntKind.i64.wrap (24 - IntKind.i64.wrap (Int.tmod (i : Int) 4 * 8)) = ((24 - 8 * (i % 4) : Nat) : Int) := by rw [Int.tmod_eq_emod_of_nonneg (by omega), wrap64 (a := (i : Int) % 4 * 8) (by omega) (by omega), wrap64 (by omega) (by omega)]; omega
          have hval : [SV.int .u8 (IntKind.u8.wrap (iShr .u32 (Uw ((L8 s').getD (i / 4) 0)) ((24 - 8 * (i % 4) : Nat) : Int)))] = Sx.bytesRow ((outB s').getD i 0) := by
            have := outB_get s' (i := i / 4) (k := i % 4) (by omega) (by omega)
            rw [show 4 * (i / 4) + i % 4 = i by omega] at this
            rw [uwShr _ _ ⟨by omega, by omega⟩, uwU8, this, Int.toNat_natCast]; rfl
          conv => whnf
          repeat' ((first | with_reducible refine IF.tt ?_ | with_reducible refine IF.ff ?_ | (rw [hw1]; conv => whnf) | (rw [hw2]; conv => whnf) | (refine GET.at (row := w32 ((L8 s').getD (i / 4) 0)) (by rw [Int.toNat_natCast]; exact ws_at (by show i / 4 < 8; omega)) ?_; conv => whnf) | (refine GET.at (row := Sx.bytesRow ((outP s' i).getD i 0)) (by rw [Int.toNat_natCast]; exact bytes_at (by rw [outP_len s' (by omega)]; omega)) ?_; conv => whnf) | ((with_reducible refine NEED.mk ?_ ?_); (first | with_reducible rfl | omega | (simp (disch := omega) only [lnB, wrap64, wrap32] <;> omega) | (intro h; (try simp (disch := omega) only [hsB, hsC, lnB, wrap64, wrap32, simprocAttr] at h); (first | omega | (simp (disch := omega) only [lnB, wrap64, wrap32] <;> omega))) | (exact needApp 256 rfl rfl (by simp) (by simp) (by omega)) | (simp <;> omega))) | ((with_reducible apply GET.at); rfl) | ((with_reducible apply GETG.at); rfl) | ((with_reducible refine UNK.mk (fun h => ?_) ?_) <;> try (exfalso; omega)) | ((with_reducible refine IF.mk (fun h => ?_) (fun h => ?_)) <;> (try simp (disch := omega) only [hsB, hsC, lnB, wrap64, wrap32, simprocAttr] at h) <;> try (exfalso; omega))) <;> conv => whnf)
          refine ⟨i + 1, by omega, by omega, ?_⟩
          conv => whnf
          (refine GOES.cutting h0 rfl rfl rfl (by first | rfl | (simp only [belowO, belowH, plainLL_below _ (plainBytes _), Bool.and_self, Bool.and_true] <;> rfl)) ?_ ?_ <;> (repeat' (first | (with_reducible rfl) | (exact congrArg (SV.int _) (by first | omega | (simp (disch := omega) only [lnB, wrap64, wrap32] <;> omega) | (simp; done) | (simp <;> omega))) | (exact congrArg (Hp.rows _) (by (rw [Int.toNat_natCast, hval, bytes_set, outP_set s' (by omega) _ rfl]))) | ((conv => whnf); refine ⟨?_, ?_⟩) | exact trivial | rfl)))
        · have h : i = 32 := by simp at h; omega
          subst h
          conv => whnf
          repeat' ((first | with_reducible refine IF.tt ?_ | with_reducible refine IF.ff ?_ | (refine NEED.mk (by first | exact ⟨rfl, rfl, rfl⟩ | exact ⟨rfl, rfl, rfl, rfl, rfl⟩) ?_; conv => whnf) | ((with_reducible refine NEED.mk ?_ ?_); (first | with_reducible rfl | omega | (simp (disch := omega) only [lnB, wrap64, wrap32] <;> omega) | (intro h; (try simp (disch := omega) only [hsB, hsC, lnB, wrap64, wrap32, simprocAttr] at h); (first | omega | (simp (disch := omega) only [lnB, wrap64, wrap32] <;> omega))) | (exact needApp 256 rfl rfl (by simp) (by simp) (by omega)) | (simp <;> omega))) | ((with_reducible apply GET.at); rfl) | ((with_reducible apply GETG.at); rfl) | ((with_reducible refine UNK.mk (fun h => ?_) ?_) <;> try (exfalso; omega)) | ((with_reducible refine IF.mk (fun h => ?_) (fun h => ?_)) <;> (try simp (disch := omega) only [hsB, hsC, lnB, wrap64, wrap32, simprocAttr] at h) <;> try (exfalso; omega))) <;> conv => whnf)
          refine FIN.valueK h0 (plainBytes _) ?_
          rw [← outP_full]
          rfl
end Go.Proofs.YtjgjfeicenkceaaDoor
/- The law SumsDigest, walked. Conditions: none. -/
set_option linter.unusedVariables false
set_option linter.unusedSimpArgs false
set_option maxRecDepth 20000
namespace Go.Proofs.YtjgjfeicenkceaaDoor
open Go.Sx Go.Our
def plLawDigest0 : Plan := (planOf [(0, 1), (1, 1), (2, 1), (4, 1), (5, 1), (6, 1), (3, 2), (7, 2), (8, 1)])
def plLawDigest1 : Plan := (planOf [(1, 1), (0, 2), (2, 3), (3, 1), (4, 1), (5, 1), (6, 1), (7, 1), (8, 1), (9, 1), (10, 3), (11, 1), (12, 1), (13, 1), (14, 1), (15, 1), (16, 1), (17, 2), (18, 1), (19, 1), (20, 1)])
theorem sdigest_does (b : List UInt8) (r n : Nat) (hr : r + n ≤ b.length) (hb : b.length ≤ 140737488355328) (hn : n ≤ 140737488351232) : Does Tryd.prog tab 18 1 [.sl (.loc 0) r 1 n none] [] [(0, .rows 1 (b.map Sx.bytesRow))] (ValK 1 (.arr 1 ((digM ((b.drop r).take n)).map Sx.bytesRow))) := by
  obtain ⟨x, hx⟩ : ∃ x, x = (b.drop r).take n := ⟨_, rfl⟩
  have hxl : x.length = n := by rw [hx]; simp; omega
  have hwr := write_does start8 [] b 0 r n hr hb (by simp) (by omega)
  have htl : (tailB x).length < 64 := by rw [tailB_len]; omega
  have hsum := sum_does (foldB start8 x) (tailB x) n htl (by omega)
  rw [← hx] at hwr ⊢
  rw [List.nil_append, Nat.zero_add] at hwr
  rw [padM_tail] at hsum
  unfold digM
  rw [hxl]
  refine Does.enter tabOK (g := 18) (fn := Tryd.f18) Tryd.call18 Tryd.func18 rfl 10 rfl rfl [.cell 2 34] rfl ?_
  intro w0 F η0 h0
  conv => whnf
  refine CALL.at [] (new_does) rfl rfl rfl rfl (by first | rfl | (simp only [belowO, belowH, plainLL_below _ (plainBytes _), Bool.and_self, Bool.and_true] <;> rfl)) (by first | rfl | (simp only [belowO, belowH, plainLL_below _ (plainBytes _), Bool.and_self, Bool.and_true] <;> rfl)) (by repeat' (first | exact trivial | exact (renH_plain _ (h := .rows _ _) (plainBytes _)).symm | exact rfl | exact (renH_plain _ (h := .rows _ _) (plainBytes _)).trans (renH_plain _ (h := .rows _ _) (plainBytes _)).symm | ((conv => whnf); refine ⟨?_, ?_⟩))) (by repeat' (first | exact trivial | exact (renH_plain _ (h := .rows _ _) (plainBytes _)).symm | exact rfl | exact (renH_plain _ (h := .rows _ _) (plainBytes _)).trans (renH_plain _ (h := .rows _ _) (plainBytes _)).symm | ((conv => whnf); refine ⟨?_, ?_⟩))) rfl rfl ?_
  rintro r' O' nx' ⟨rfl, rfl, rfl⟩
  conv => whnf
  refine CALL.at [2, 3, 0] (hwr) rfl rfl rfl rfl (by first | rfl | (simp only [belowO, belowH, plainLL_below _ (plainBytes _), Bool.and_self, Bool.and_true] <;> rfl)) (by first | rfl | (simp only [belowO, belowH, plainLL_below _ (plainBytes _), Bool.and_self, Bool.and_true] <;> rfl)) (by repeat' (first | exact trivial | exact (renH_plain _ (h := .rows _ _) (plainBytes _)).symm | exact rfl | exact (renH_plain _ (h := .rows _ _) (plainBytes _)).trans (renH_plain _ (h := .rows _ _) (plainBytes _)).symm | ((conv => whnf); refine ⟨?_, ?_⟩))) (by repeat' (first | exact trivial | exact (renH_plain _ (h := .rows _ _) (plainBytes _)).symm | exact rfl | exact (renH_plain _ (h := .rows _ _) (plainBytes _)).trans (renH_plain _ (h := .rows _ _) (plainBytes _)).symm | ((conv => whnf); refine ⟨?_, ?_⟩))) rfl rfl ?_
  rintro r' O' nx' ⟨rfl, rfl, rfl⟩
  conv => whnf
  refine CALL.at [2, 4] (hsum) rfl rfl rfl rfl (by first | rfl | (simp only [belowO, belowH, plainLL_below _ (plainBytes _), Bool.and_self, Bool.and_true] <;> rfl)) (by first | rfl | (simp only [belowO, belowH, plainLL_below _ (plainBytes _), Bool.and_self, Bool.and_true] <;> rfl)) (by repeat' (first | exact trivial | exact (renH_plain _ (h := .rows _ _) (plainBytes _)).symm | exact rfl | exact (renH_plain _ (h := .rows _ _) (plainBytes _)).trans (renH_plain _ (h := .rows _ _) (plainBytes _)).symm | ((conv => whnf); refine ⟨?_, ?_⟩))) (by repeat' (first | exact trivial | exact (renH_plain _ (h := .rows _ _) (plainBytes _)).symm | exact rfl | exact (renH_plain _ (h := .rows _ _) (plainBytes _)).trans (renH_plain _ (h := .rows _ _) (plainBytes _)).symm | ((conv => whnf); refine ⟨?_, ?_⟩))) rfl rfl ?_
  rintro r' O' nx' ⟨rfl, rfl, rfl⟩
  conv => whnf
  repeat' ((first | with_reducible refine IF.tt ?_ | with_reducible refine IF.ff ?_ | (refine NEED.mk (by first | exact ⟨rfl, rfl, rfl⟩ | exact ⟨rfl, rfl, rfl, rfl, rfl⟩) ?_; conv => whnf) | ((with_reducible refine NEED.mk ?_ ?_); (first | with_reducible rfl | omega | (simp (disch := omega) only [lnB, wrap64, wrap32] <;> omega) | (intro h; (try simp (disch := omega) only [hsB, hsC, lnB, wrap64, wrap32, simprocAttr] at h); (first | omega | (simp (disch := omega) only [lnB, wrap64, wrap32] <;> omega))) | (exact needApp 256 rfl rfl (by simp) (by simp) (by omega)) | (simp <;> omega))) | ((with_reducible apply GET.at); rfl) | ((with_reducible apply GETG.at); rfl) | ((with_reducible refine UNK.mk (fun h => ?_) ?_) <;> try (exfalso; omega)) | ((with_reducible refine IF.mk (fun h => ?_) (fun h => ?_)) <;> (try simp (disch := omega) only [hsB, hsC, lnB, wrap64, wrap32, simprocAttr] at h) <;> try (exfalso; omega))) <;> conv => whnf)
  rw [renLL_plain _ (plainBytes _)]
  exact FIN.valueK h0 (plainBytes _) rfl
theorem needMk {l c : Int} {b : Nat} (B : Nat) (hb : Nat.ble b B = true) (h0 : 0 ≤ l) (h1 : l ≤ c) (h2 : (B : Int) * c ≤ 281474976710656 ∧ c ≤ 9223372036854775807) : 0 ≤ l ∧ l ≤ c ∧ c ≤ 9223372036854775807 ∧ (b : Int) * c ≤ 281474976710656 :=
  ⟨h0, h1, h2.2, Int.le_trans (Int.mul_le_mul_of_nonneg_right (by have := Nat.le_of_ble_eq_true hb; omega) (by omega)) h2.1⟩
theorem copied_does (b : List UInt8) (r n : Nat) (hr : r + n ≤ b.length) (hb : b.length ≤ 140737488351232) : Does Tryd.prog tab 9 1 [.sl (.loc 0) r 1 n none] [] [(0, .rows 1 (b.map Sx.bytesRow))] (NewBytes 1 ((b.drop r).take n)) := by
  have hrow : ((b.map Sx.bytesRow).drop r).take n = ((b.drop r).take n).map Sx.bytesRow := by rw [List.map_take, List.map_drop]
  have hxl : ((b.drop r).take n).length = n := by simp; omega
  generalize hx : (b.drop r).take n = x at hrow hxl
  refine Does.enter tabOK (g := 9) (fn := Tryd.f9) Tryd.call9 Tryd.func9 rfl 11 rfl rfl [.tmp 2] rfl ?_
  intro w0 F η0 h0
  conv => whnf
  repeat' ((first | with_reducible refine IF.tt ?_ | with_reducible refine IF.ff ?_ | (rw [hrow]; conv => whnf) | (refine NEED.mk (needMk 1 rfl (by omega) (by omega) (by omega)) ?_; conv => whnf) | (refine NEED.mk ⟨by simpa using hxl, by omega, by rw [List.length_replicate]; omega⟩ ?_; conv => whnf) | ((with_reducible refine NEED.mk ?_ ?_); (first | with_reducible rfl | omega | (simp (disch := omega) only [lnB, wrap64, wrap32] <;> omega) | (intro h; (try simp (disch := omega) only [hsB, hsC, lnB, wrap64, wrap32, simprocAttr] at h); (first | omega | (simp (disch := omega) only [lnB, wrap64, wrap32] <;> omega))) | (exact needApp 256 rfl rfl (by simp) (by simp) (by omega)) | (simp <;> omega))) | ((with_reducible apply GET.at); rfl) | ((with_reducible apply GETG.at); rfl) | ((with_reducible refine UNK.mk (fun h => ?_) ?_) <;> try (exfalso; omega)) | ((with_reducible refine IF.mk (fun h => ?_) (fun h => ?_)) <;> (try simp (disch := omega) only [hsB, hsC, lnB, wrap64, wrap32, simprocAttr] at h) <;> try (exfalso; omega))) <;> conv => whnf)
  refine FIN.rows h0 1 1 n (by rw [Int.toNat_natCast]; rfl) rfl rfl ?_ ⟨by rw [hxl], ?_, rfl⟩
  all_goals rw [List.take_zero, List.nil_append, List.drop_of_length_le (by rw [List.length_replicate]; omega), List.append_nil]
  exact plainBytes _
theorem same_does (A B : List UInt8) (i n j m : Nat) (hA : i + n ≤ A.length) (hB : j + m ≤ B.length) (hn : A.length ≤ 1152921504606846976) (hm : B.length ≤ 1152921504606846976) : Does Tryd.prog tab 14 2 [.sl (.loc 0) i 1 n none, .sl (.loc 1) j 1 m none] [] [(0, .rows 1 (A.map Sx.bytesRow)), (1, .rows 1 (B.map Sx.bytesRow))]
    (ValK 2 (.bool (decide ((A.drop i).take n = (B.drop j).take m)))) := by
  refine Does.enter tabOK (g := 14) (fn := Tryd.f14) Tryd.call14 Tryd.func14 rfl 26 rfl rfl [.tmp 4] rfl ?_
  intro w0 F η0 h0
  conv => whnf
  refine IF.mk (fun h => ?_) (fun h => ?_)
  · have h : n ≠ m := by simp at h; omega
    conv => whnf
    refine FIN.valueK h0 rfl (congrArg SV.bool (decide_eq_false fun he => ?_).symm)
    have := congrArg List.length he
    simp at this
    omega
  have h : n = m := by simp at h; omega
  subst h
  conv => whnf
  refine LOOP.go tabOK [0, 1] (X := Nat) (fun c => c ≤ n ∧ ((A.drop i).take n = (B.drop j).take n ↔ (A.drop (i + c)).take (n - c) = (B.drop (j + c)).take (n - c))) (fun c => [(5, .int .i64 (c : Int))]) (fun c => []) 2 (fun c => n - c) 0 ⟨by omega, by simp⟩ ?_
  conv => whnf
  refine ⟨by (refine GOES.cutting h0 rfl rfl rfl (by first | rfl | simp [belowO, belowH, plainLL_below, plainLL_map, plainL, plain]) ?_ ?_ <;> (repeat' (first | (with_reducible rfl) | (exact congrArg (fun n => SV.sl _ _ _ n _) (by simp)) | (exact congrArg (Hp.rows _) (by simp)) | (exact congrArg (SV.int _) (by first | omega | (simp (disch := omega) only [lnB, wrap64, wrap32] <;> omega) | (simp; done) | (simp <;> omega))) | ((conv => whnf); refine ⟨?_, ?_⟩) | exact trivial | (simp; done) | rfl))), ?_⟩
  rintro c ⟨hc, hs⟩
  conv => whnf
  rcases Nat.lt_or_ge c n with hcn | hcn
  · have ha : i + c < A.length := by omega
    have hb : j + c < B.length := by omega
    have hA1 : A.getD (i + c) 0 = A[i + c] := by rw [List.getD_eq_getElem?_getD, List.getElem?_eq_getElem ha]; rfl
    have hB1 : B.getD (j + c) 0 = B[j + c] := by rw [List.getD_eq_getElem?_getD, List.getElem?_eq_getElem hb]; rfl
    have hstep : (A.drop (i + c)).take (n - c) = (B.drop (j + c)).take (n - c) ↔ A.getD (i + c) 0 = B.getD (j + c) 0 ∧ (A.drop (i + (c + 1))).take (n - (c + 1)) = (B.drop (j + (c + 1))).take (n - (c + 1)) := by
      rw [hA1, hB1, List.drop_eq_getElem_cons ha, List.drop_eq_getElem_cons hb, show n - c = (n - (c + 1)) + 1 by omega]
      simp only [List.take_succ_cons, List.cons.injEq]
      rw [show i + c + 1 = i + (c + 1) by omega, show j + c + 1 = j + (c + 1) by omega]
    repeat' ((first | with_reducible refine IF.tt ?_ | with_reducible refine IF.ff ?_ | refine DRAWN.of (id := 6) tabOK mixed plLawDigest0 (by kernel_rfl) ?_ | with_reducible refine ADD.mk (fun _ _ => ?_) | with_reducible refine NEED.mk (Det.of rfl) ?_ | with_reducible refine FORK.mk ?_ ?_ | (refine GET.at (row := Sx.bytesRow (A.getD (i + c) 0)) (by rw [Int.toNat_natCast]; exact bytes_at ha) ?_; conv => whnf) | (refine GET.at (row := Sx.bytesRow (B.getD (j + c) 0)) (by rw [Int.toNat_natCast]; exact bytes_at hb) ?_; conv => whnf) | ((with_reducible refine NEED.mk ?_ ?_); (first | with_reducible rfl | omega | (simp (disch := omega) only [lnB, wrap64, wrap32] <;> omega) | (intro h; (try simp (disch := omega) only [hsB, hsC, lnB, wrap64, wrap32, simprocAttr] at h); (first | omega | (simp (disch := omega) only [lnB, wrap64, wrap32] <;> omega))) | (exact needApp 256 rfl rfl (by simp) (by simp) (by omega)) | (simp <;> omega))) | ((with_reducible apply GET.at); rfl) | ((with_reducible apply GETG.at); rfl) | ((with_reducible refine UNK.mk (fun h => ?_) ?_) <;> try (exfalso; omega)) | ((with_reducible refine IF.mk (fun h => ?_) (fun h => ?_)) <;> (try simp (disch := omega) only [hsB, hsC, lnB, wrap64, wrap32, simprocAttr] at h) <;> try (exfalso; omega))) <;> conv => whnf)
    · have hne : A.getD (i + c) 0 ≠ B.getD (j + c) 0 := fun he => by rw [he] at h; simp at h
      exact FIN.valueK h0 rfl (congrArg SV.bool (decide_eq_false fun he => hne (hstep.1 (hs.1 he)).1).symm)
    · have heq : A.getD (i + c) 0 = B.getD (j + c) 0 := by
        have h9 : ((A.getD (i + c) 0).toNat : Int) = ((B.getD (j + c) 0).toNat : Int) := h
        exact UInt8.toNat_inj.1 (by omega)
      refine ⟨c + 1, ⟨by omega, hs.trans (hstep.trans ⟨fun x => x.2, fun x => ⟨heq, x⟩⟩)⟩, by omega, ?_⟩
      conv => whnf
      (refine GOES.cutting h0 rfl rfl rfl (by first | rfl | simp [belowO, belowH, plainLL_below, plainLL_map, plainL, plain]) ?_ ?_ <;> (repeat' (first | (with_reducible rfl) | (exact congrArg (fun n => SV.sl _ _ _ n _) (by simp)) | (exact congrArg (Hp.rows _) (by simp)) | (exact congrArg (SV.int _) (by first | omega | (simp (disch := omega) only [lnB, wrap64, wrap32] <;> omega) | (simp; done) | (simp <;> omega))) | ((conv => whnf); refine ⟨?_, ?_⟩) | exact trivial | (simp; done) | rfl)))
  · repeat' ((first | with_reducible refine IF.tt ?_ | with_reducible refine IF.ff ?_ | ((with_reducible refine NEED.mk ?_ ?_); (first | with_reducible rfl | omega | (simp (disch := omega) only [lnB, wrap64, wrap32] <;> omega) | (intro h; (try simp (disch := omega) only [hsB, hsC, lnB, wrap64, wrap32, simprocAttr] at h); (first | omega | (simp (disch := omega) only [lnB, wrap64, wrap32] <;> omega))) | (exact needApp 256 rfl rfl (by simp) (by simp) (by omega)) | (simp <;> omega))) | ((with_reducible apply GET.at); rfl) | ((with_reducible apply GETG.at); rfl) | ((with_reducible refine UNK.mk (fun h => ?_) ?_) <;> try (exfalso; omega)) | ((with_reducible refine IF.mk (fun h => ?_) (fun h => ?_)) <;> (try simp (disch := omega) only [hsB, hsC, lnB, wrap64, wrap32, simprocAttr] at h) <;> try (exfalso; omega))) <;> conv => whnf)
    refine FIN.valueK h0 rfl (congrArg SV.bool (decide_eq_true (hs.2 ?_)).symm)
    rw [show n - c = 0 by omega]; rfl
theorem arr32 : ∀ (l : List UInt8), cellsEq (List.replicate l.length (.int .u8)) (l.map Sx.bytesRow).flatten (l.map Sx.bytesRow).flatten = some true
  | [] => rfl
  | c :: l => by
    have ih := arr32 l
    simp only [List.length_cons, List.replicate_succ, List.map_cons, List.flatten_cons, Sx.bytesRow, List.cons_append, List.nil_append, cellsEq]
    rw [ih]
    simp [kindEq]
theorem detBytes : ∀ l : List UInt8, detVL (l.map Sx.bytesRow).flatten = true
  | [] => rfl
  | c :: l => by simp only [List.map_cons, List.flatten_cons, Sx.bytesRow, List.cons_append, List.nil_append, detVL, detBytes l]; rfl
theorem det_arrB (es : Nat) (l : List UInt8) : Det (.arr es (l.map Sx.bytesRow)) := fun η u u' h h' => Det.of (v := .agg (l.map Sx.bytesRow).flatten) (by simp only [detV, detBytes l]) η u u' (den_arrAgg h) (den_arrAgg h')
theorem arrSame (s : S8) : cellsEq (List.replicate 32 (.int .u8)) ((outB s).map Sx.bytesRow).flatten ((outB s).map Sx.bytesRow).flatten = some true := arr32 (outB s)
set_option maxHeartbeats 1000000 in
theorem lawDigest_does (b : List UInt8) (hb : b.length ≤ 140737488351232) : Does Tryd.prog tab 7 1 [.sl (.loc 0) 0 1 b.length none] [] [(0, .rows 1 (b.map Sx.bytesRow))] (ValK 1 (.bool true)) := by
  have hcp := copied_does b 0 b.length (by omega) hb
  rw [show (b.drop 0).take b.length = b by simp] at hcp
  have hrd := rdigest_does b 0 b.length (by omega) hb
  rw [show (b.drop 0).take b.length = b by simp] at hrd
  have hsd := sdigest_does (b ++ [8]) 0 b.length (by simp) (by simp; omega) hb
  rw [show List.take b.length (List.drop 0 (b ++ [8])) = b by simp] at hsd
  have hap : List.take b.length (b.map Sx.bytesRow) ++ List.take 1 (List.drop 0 [[ofVal (Value.int IntKind.u8 8)]]) = (b ++ [8]).map Sx.bytesRow := app1 (Nat.le_refl _) rfl
  have hsame := same_does (b ++ [8]) b 0 b.length 0 b.length (by simp) (by simp) (by simp; omega) (by omega)
  rw [decide_eq_true (by simp)] at hsame
  refine Does.enter tabOK (g := 7) (fn := Tryd.f7) Tryd.call7 Tryd.func7 rfl 34 rfl rfl [.tmp 2] rfl ?_
  intro w0 F η0 h0
  conv => whnf
  refine CALL.bytes1 0 hcp rfl rfl rfl rfl (plainBytes _) ?_
  conv => whnf
  repeat' ((first | with_reducible refine IF.tt ?_ | with_reducible refine IF.ff ?_ | (refine NEED.mk (needApp 1 rfl rfl rfl (by simp) (by omega)) ?_; conv => whnf) | ((with_reducible refine NEED.mk ?_ ?_); (first | with_reducible rfl | omega | (simp (disch := omega) only [lnB, wrap64, wrap32] <;> omega) | (intro h; (try simp (disch := omega) only [hsB, hsC, lnB, wrap64, wrap32, simprocAttr] at h); (first | omega | (simp (disch := omega) only [lnB, wrap64, wrap32] <;> omega))) | (exact needApp 256 rfl rfl (by simp) (by simp) (by omega)) | (simp <;> omega))) | ((with_reducible apply GET.at); rfl) | ((with_reducible apply GETG.at); rfl) | ((with_reducible refine UNK.mk (fun h => ?_) ?_) <;> try (exfalso; omega)) | ((with_reducible refine IF.mk (fun h => ?_) (fun h => ?_)) <;> (try simp (disch := omega) only [hsB, hsC, lnB, wrap64, wrap32, simprocAttr] at h) <;> try (exfalso; omega))) <;> conv => whnf)
  rw [hap]
  refine NEED.mk ⟨by omega, by show _ ≤ ((max (b.length + 1) _ : Nat) : Int); omega⟩ ?_
  rw [Int.toNat_natCast]
  conv => whnf
  refine CALL.look1 3 hsd rfl rfl rfl rfl (plainBytes _) (plainBytes _) ?_
  conv => whnf
  refine NEED.mk ⟨rfl, rfl, rfl, (by rw [List.length_map]; exact outB_len _), rfl⟩ ?_
  conv => whnf
  have heq : (cellsEq (List.replicate 32 (.int .u8)) ((digM b).map Sx.bytesRow).flatten ((digM b).map Sx.bytesRow).flatten).isSome = true := by unfold digM; rw [arrSame]; rfl
  have heb : eqB (List.replicate 32 (.int .u8)) ((digM b).map Sx.bytesRow).flatten ((digM b).map Sx.bytesRow).flatten = true := by unfold eqB digM; rw [arrSame]
  repeat' ((first | with_reducible refine IF.tt ?_ | with_reducible refine IF.ff ?_ | refine DRAWN.of (id := 3) tabOK mixed plLawDigest1 (by kernel_rfl) ?_ | with_reducible refine ADD.mk (fun _ _ => ?_) | with_reducible refine NEED.mk (Det.of rfl) ?_ | with_reducible refine FORK.mk ?_ ?_ | (refine NEED.mk ⟨rfl, rfl, (by rw [List.length_map]; exact outB_len _)⟩ ?_; conv => whnf) | (refine NEED.mk (det_arrB _ _) ?_; conv => whnf) | (refine NEED.mk heq ?_; conv => whnf) | (refine IF.yes heb ?_; conv => whnf) | (refine NEED.mk ⟨by omega, by show _ ≤ ((b.length + 1 : Nat) : Int); omega⟩ ?_; conv => whnf) | (refine NEED.mk (Det.of rfl) ?_; conv => whnf) | (rw [Int.toNat_natCast]; conv => whnf) | (refine GET.at (row := Sx.bytesRow 8) (by rw [Int.toNat_natCast, Nat.zero_add]; simp) ?_; conv => whnf) | (refine CALL.look1 0 hrd rfl rfl rfl rfl (plainBytes _) (plainBytes _) ?_; conv => whnf) | ((with_reducible refine NEED.mk ?_ ?_); (first | with_reducible rfl | omega | (simp (disch := omega) only [lnB, wrap64, wrap32] <;> omega) | (intro h; (try simp (disch := omega) only [hsB, hsC, lnB, wrap64, wrap32, simprocAttr] at h); (first | omega | (simp (disch := omega) only [lnB, wrap64, wrap32] <;> omega))) | (exact needApp 256 rfl rfl (by simp) (by simp) (by omega)) | (simp <;> omega))) | ((with_reducible apply GET.at); rfl) | ((with_reducible apply GETG.at); rfl) | ((with_reducible refine UNK.mk (fun h => ?_) ?_) <;> try (exfalso; omega)) | ((with_reducible refine IF.mk (fun h => ?_) (fun h => ?_)) <;> (try simp (disch := omega) only [hsB, hsC, lnB, wrap64, wrap32, simprocAttr] at h) <;> try (exfalso; omega))) <;> conv => whnf)
  refine CALL.at [3, 0] (hsame) rfl rfl rfl rfl (by first | rfl | (simp only [belowO, belowH, plainLL_below _ (plainBytes _), Bool.and_self, Bool.and_true] <;> rfl)) (by first | rfl | (simp only [belowO, belowH, plainLL_below _ (plainBytes _), Bool.and_self, Bool.and_true] <;> rfl)) (by repeat' (first | exact trivial | exact (renH_plain _ (h := .rows _ _) (plainBytes _)).symm | exact rfl | exact (renH_plain _ (h := .rows _ _) (plainBytes _)).trans (renH_plain _ (h := .rows _ _) (plainBytes _)).symm | ((conv => whnf); refine ⟨?_, ?_⟩))) (by repeat' (first | exact trivial | exact (renH_plain _ (h := .rows _ _) (plainBytes _)).symm | exact rfl | exact (renH_plain _ (h := .rows _ _) (plainBytes _)).trans (renH_plain _ (h := .rows _ _) (plainBytes _)).symm | ((conv => whnf); refine ⟨?_, ?_⟩))) rfl rfl ?_
  rintro r' O' nx' ⟨rfl, rfl, rfl⟩
  conv => whnf
  repeat' ((first | with_reducible refine IF.tt ?_ | with_reducible refine IF.ff ?_ | refine DRAWN.of (id := 3) tabOK mixed plLawDigest1 (by kernel_rfl) ?_ | with_reducible refine ADD.mk (fun _ _ => ?_) | with_reducible refine NEED.mk (Det.of rfl) ?_ | with_reducible refine FORK.mk ?_ ?_ | (refine NEED.mk ⟨by omega, by show _ < ((b.length + 1 : Nat) : Int); omega⟩ ?_; conv => whnf) | (refine GET.at (row := Sx.bytesRow 8) (by rw [Int.toNat_natCast, Nat.zero_add]; simp) ?_; conv => whnf) | ((with_reducible refine NEED.mk ?_ ?_); (first | with_reducible rfl | omega | (simp (disch := omega) only [lnB, wrap64, wrap32] <;> omega) | (intro h; (try simp (disch := omega) only [hsB, hsC, lnB, wrap64, wrap32, simprocAttr] at h); (first | omega | (simp (disch := omega) only [lnB, wrap64, wrap32] <;> omega))) | (exact needApp 256 rfl rfl (by simp) (by simp) (by omega)) | (simp <;> omega))) | ((with_reducible apply GET.at); rfl) | ((with_reducible apply GETG.at); rfl) | ((with_reducible refine UNK.mk (fun h => ?_) ?_) <;> try (exfalso; omega)) | ((with_reducible refine IF.mk (fun h => ?_) (fun h => ?_)) <;> (try simp (disch := omega) only [hsB, hsC, lnB, wrap64, wrap32, simprocAttr] at h) <;> try (exfalso; omega))) <;> conv => whnf)
  exact FIN.valueK h0 rfl rfl
end Go.Proofs.YtjgjfeicenkceaaDoor
/- SumsDigest: the row and its card out of the walk. Conditions: none beyond the statement's own. -/
set_option linter.unusedVariables false
namespace Go.Proofs.YtjgjfeicenkceaaDoor.sumsDigest
open Go.ChangeShapes Go.WideShapes Go.ChangeAt Go.RowKit Go.Our
open Go.ChangeMaps (open_string shut_string)
theorem own : ownKnob Tryd.prog.godebug = none := by kernel_rfl
theorem laidOut : laidOutB Tryd.prog = true := by kernel_rfl
theorem readable : ∀ t ∈ Tryd.f7.params.toList, Tryd.prog.readableRec t = true ∧ t < Tryd.prog.types.size := by
  have h : (Tryd.f7.params.toList.all fun t => Tryd.prog.readableRec t && decide (t < Tryd.prog.types.size)) = true := by kernel_rfl
  intro t ht
  have := List.all_eq_true.1 h t ht
  simpa using this
set_option maxRecDepth 100000 in
theorem contract (H : Type) (enc : TypeId × Value → H) (W : World) (base : Nat) (args : Array Value) (ds gs : List (DataW H)) (before : List MemPlace)
    (hval : ∀ (j : Nat) t v, Tryd.f7.params[j]? = some t → args[j]? = some v → Value.okWide Tryd.prog W .any base t v)
    (hW : DataW.Whole enc Tryd.prog Tryd.f7.params.toList Rows.sumsDigestSpec.vars false W args.toList ds gs before)
    (hsz : (DataW.weightsEach Tryd.prog (Tryd.f7.params.toList ++ (OpenSpec.ofChange Rows.sumsDigestSpec).bare.plain.varTypes Tryd.prog) (ds ++ gs)).all (fun x => decide (x ≤ reachBytes)) = true)
    (hL : laidMetH Tryd.prog Rows.sumsDigestRow.laid W)
    : Calls Tryd.prog 7 args W fun e W' => ∃ v, e = .returned v ∧ Rows.sumsDigestSpec.post enc Tryd.prog Tryd.f7 false true false false W args v W' := by
  have hW' := hW
  have hlt := hW.lt
  obtain ⟨p, q, hA0, hV, rfl, hfz, hnd⟩ := hW
  have hA : DataW.TrodAll enc Tryd.prog W 0 (fun _ => true) true Tryd.f7.params.toList args.toList ds p := hA0
  rw [Tryd.params7] at hA hval
  obtain ⟨v0, vs0, d0, ds0, p0, q0, hargs, rfl, rfl, h0, r0⟩ := trodAll_cons hA
  obtain ⟨rfl, rfl, rfl⟩ := trodAll_nil r0
  obtain rfl : args = #[v0] := by cases args; simp_all
  obtain ⟨rfl, rfl⟩ := trodVars_none hV
  have hlt' : ∀ x ∈ p0, x.block < W.heap.size := fun x hx => hlt x (by simpa using hx)
  have hsz' : (DataW.weightsEach Tryd.prog [22] [d0]).all (fun x => decide (x ≤ reachBytes)) = true := hsz
  simp only [DataW.weightsEach] at hsz'
  have sz0 := all_left hsz'
  obtain ⟨l0, en0, sl0, dd0⟩ := read_byt Tryd.underlying22 Tryd.underlying5 (by kernel_rfl) (hval 0 22 v0 rfl rfl) h0
  have sm0 := byt_small Tryd.underlying22 (by kernel_rfl) dd0 sz0
  refine (law_calls1 sl0 (lawDigest_does l0 sm0) Tryd.call7 ⟨_, _, rfl, sl0.den rfl, rfl⟩ (globOf rfl rfl hL)).mono fun e W' ⟨he, hb⟩ => ?_
  subst he
  exact ⟨_, rfl, law_post laidOut readable rfl Tryd.underlying4 hW' rfl rfl rfl rfl hb⟩
/-- A world for the witness: the settled one, each listed variable holding what its initialiser lays. -/
noncomputable def laidWorld (os : Os) : World :=
  { World.holding Tryd.prog os ⟨#[], #[], []⟩ with heap := (((World.holding Tryd.prog os ⟨#[], #[], []⟩).heap.modify 0 fun | .cells _ t fz => .cells #[.int .u32 1779033703, .int .u32 3144134277, .int .u32 1013904242, .int .u32 2773480762, .int .u32 1359893119, .int .u32 2600822924, .int .u32 528734635, .int .u32 1541459225] t fz | o => o).modify 2 fun | .cells _ t fz => .cells #[.int .u32 1116352408, .int .u32 1899447441, .int .u32 3049323471, .int .u32 3921009573, .int .u32 961987163, .int .u32 1508970993, .int .u32 2453635748, .int .u32 2870763221, .int .u32 3624381080, .int .u32 310598401, .int .u32 607225278, .int .u32 1426881987, .int .u32 1925078388, .int .u32 2162078206, .int .u32 2614888103, .int .u32 3248222580, .int .u32 3835390401, .int .u32 4022224774, .int .u32 264347078, .int .u32 604807628, .int .u32 770255983, .int .u32 1249150122, .int .u32 1555081692, .int .u32 1996064986, .int .u32 2554220882, .int .u32 2821834349, .int .u32 2952996808, .int .u32 3210313671, .int .u32 3336571891, .int .u32 3584528711, .int .u32 113926993, .int .u32 338241895, .int .u32 666307205, .int .u32 773529912, .int .u32 1294757372, .int .u32 1396182291, .int .u32 1695183700, .int .u32 1986661051, .int .u32 2177026350, .int .u32 2456956037, .int .u32 2730485921, .int .u32 2820302411, .int .u32 3259730800, .int .u32 3345764771, .int .u32 3516065817, .int .u32 3600352804, .int .u32 4094571909, .int .u32 275423344, .int .u32 430227734, .int .u32 506948616, .int .u32 659060556, .int .u32 883997877, .int .u32 958139571, .int .u32 1322822218, .int .u32 1537002063, .int .u32 1747873779, .int .u32 1955562222, .int .u32 2024104815, .int .u32 2227730452, .int .u32 2361852424, .int .u32 2428436474, .int .u32 2756734187, .int .u32 3204031479, .int .u32 3329325298] t fz | o => o) }
theorem laid_met (os : Os) : laidMet Tryd.prog Rows.sumsDigestRow.laid ((laidWorld os).forCall (fun _ _ => 0) ⟨#[], #[Value.slice none 0 0], []⟩).memory :=
  laidMet_of_run' 8 (by kernel_rfl) (by kernel_rfl)
theorem reads (os : Os) {H : Type} (enc : TypeId × Value → H) : ∃ places, DataW.whole enc Tryd.prog ((laidWorld os).forCall (fun _ _ => 0) ⟨#[], #[Value.slice none 0 0], []⟩).memory Tryd.f7.params.toList Rows.sumsDigestSpec.vars false #[Value.slice none 0 0].toList 8 = some ([.nil], [], places) :=
  ⟨[], by kernel_rfl⟩
set_option maxRecDepth 100000 in
theorem lifted (os : Os) (started : os.Started) (H : Type) (enc : TypeId × Value → H) (F : Stop.Interp) :
    ReturnsInHanded {} Tryd.checked os 7 .any ((OpenSpec.ofChange Rows.sumsDigestSpec).preRow enc Tryd.prog Tryd.f7 Rows.sumsDigestRow.domain false Rows.sumsDigestRow.laid) (((OpenSpec.ofChange Rows.sumsDigestSpec).at F).post enc Tryd.prog Tryd.f7 false true false false) := by
  obtain ⟨places, hx⟩ := reads os enc
  refine returnsInHanded_of_row (C := Tryd.checked) (s := (OpenSpec.ofChange Rows.sumsDigestSpec)) own started (by kernel_rfl) Tryd.func7
    (witness_row_at (enc := enc) (C := Tryd.checked) false (laidWorld os) #[.slice none 0 0] rfl (by kernel_rfl) (by kernel_rfl) (by kernel_rfl)
      (OpenSpec.preRow_of_cond 8 hx (by kernel_rfl) (fun k hk => by cases hk) (by kernel_rfl) (laid_met os))) ?_
  intro W base args ds gs before hval hW _ hcond hsz hL _ _
  exact contract H enc W base args ds gs before hval hW hsz hL
theorem said : Rows.SumsDigestSaid :=
  OpenClaim.holds_of_cond 7 Tryd.f7 rfl rfl rfl rfl rfl rfl rfl ⟨rfl, rfl, rfl, rfl, rfl⟩ rfl rfl rfl rfl rfl (by kernel_rfl) Tryd.func7 (by kernel_rfl)
    (of_decide_eq_true (by kernel_rfl)) (by unfold Func.isWrapper; first | (rw [if_pos (by decide +kernel)]; kernel_rfl) | (rw [if_neg (by decide +kernel)]; exact ⟨rfl, rfl⟩))
    (fun os started H enc _ F => by rw [OpenClaim.pre_eq_preRow]; exact lifted os started H enc F)
theorem plain (f : FuncId) (fn : Func) (hf : Tryd.pinned.checked.prog.funcNamed "tessera/tesseralaw03.SumsDigest" = some f) (hfn : Tryd.pinned.checked.prog.funcs[f]? = some fn) :
    false = Tryd.pinned.checked.prog.looks [] ∧ ∀ (j : Nat) t, fn.params[j]? = some t → Tryd.pinned.checked.prog.wantsStandIn t = false := by
  obtain rfl : f = 7 := Option.some.inj ((show Tryd.prog.funcNamed "tessera/tesseralaw03.SumsDigest" = some 7 by kernel_rfl).symm.trans hf) |>.symm
  obtain rfl : fn = Tryd.f7 := (Option.some.inj (Tryd.func7.symm.trans hfn)).symm
  refine ⟨by kernel_rfl, fun j t ht => ?_⟩
  have h : (Tryd.f7.params.toList.all fun t => !Tryd.prog.wantsStandIn t) = true := by kernel_rfl
  have := List.all_eq_true.1 h t (by simpa using Array.mem_of_getElem? ht)
  have e : Tryd.prog.wantsStandIn t = false := by simpa using this
  exact e
theorem card : Rows.SumsDigestCardSaid :=
  Claim7.holds_tied_plain_at .later [] _ _ _ _ said (fun _ h => by cases h) (by kernel_rfl) (fun _ h => by cases h) sumsDigest_row_tie rfl ⟨rfl, rfl⟩ (by kernel_rfl) rfl plain (by kernel_rfl)
end Go.Proofs.YtjgjfeicenkceaaDoor.sumsDigest
