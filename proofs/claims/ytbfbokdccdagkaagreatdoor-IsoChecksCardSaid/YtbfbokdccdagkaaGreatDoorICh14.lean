/- Part 14: StrLib, Iri, Iri2, Names1, Part1, Split1, Tag1, Tag2, Names2, Part2, Tag5, Tag6. Conditions: as each part says. -/
import Derived.Lib.Bytealg
import Derived.Test.YtbfbokdccdagkaaGreatDoorICh9
set_option linter.unusedVariables false
set_option linter.unusedSimpArgs false
set_option maxRecDepth 20000
set_option maxHeartbeats 8000000
namespace Go.Proofs.YtbfbokdccdagkaaGreatDoor
open Go.Sx Go.Our
theorem J6 (s : List UInt8) (c : Int) : Does Tryz.prog tab 257 0 [.str s, .int .u8 c] [] [] (Val (.int .i64 (Lib.indexByte s c.toNat.toUInt8))) := by
 refine Does.says fun η w vs hd => ?_
 simp only [DenL, Den] at hd
 obtain ⟨u, us, rfl, rfl, u', us', rfl, rfl, rfl⟩ := hd
 refine ⟨_, ?_, rfl⟩
 rw [run_callFunc_extern Tryz.func257 (by kernel_rfl) (by kernel_rfl) (by kernel_rfl) (e := Extern.BytealgIndexByte.indexByte) (by kernel_rfl), Lib.run_indexByteString]
 rfl
theorem VB (s : List UInt8) (c : Int) : Does Tryz.prog tab 254 0 [.str s, .int .u8 c] [] [] (Val (.int .i64 (Lib.indexByte s c.toNat.toUInt8))) := by
 refine Does.enter Z3 (g := 254) (fn := Tryz.f254) Tryz.call254 Tryz.func254 rfl 8 rfl rfl [.tmp 4] rfl ?_
 intro w0 F η0 h0
 conv => whnf
 repeat' ((first | refine CALL.value (J6 _ _) rfl rfl ?_ | refine AU ?_ | (refine IW (fun h => ?_) (fun h => ?_) <;> try (exfalso; omega))) <;> conv => whnf)
 exact FIN.value h0 rfl rfl
theorem V1 (s : List UInt8) (c : Int) : Does Tryz.prog tab 244 0 [.str s, .int .u8 c] [] [] (Val (.int .i64 (Lib.indexByte s c.toNat.toUInt8))) := by
 refine Does.enter Z3 (g := 244) (fn := Tryz.f244) Tryz.call244 Tryz.func244 rfl 8 rfl rfl [.tmp 4] rfl ?_
 intro w0 F η0 h0
 conv => whnf
 repeat' ((first | refine CALL.value (VB _ _) rfl rfl ?_ | refine AU ?_ | (refine IW (fun h => ?_) (fun h => ?_) <;> try (exfalso; omega))) <;> conv => whnf)
 exact FIN.value h0 rfl rfl
theorem Z2s (r : Int) : Does Tryz.prog tab 245 0 [.int .i32 r] [] [] (Val (.bool (Vr r))) := by
 refine Does.enter Z3 (g := 245) (fn := Tryz.f245) Tryz.call245 Tryz.func245 rfl 17 rfl rfl [.tmp 2] rfl ?_
 intro w0 F η0 h0
 conv => whnf
 repeat' ((first | refine AU ?_ | (refine IW (fun h => ?_) (fun h => ?_) <;> try (exfalso; omega))) <;> conv => whnf)
 all_goals
   refine FIN.value h0 rfl (congrArg SV.bool ?_)
   rw [Bool.eq_iff_iff, Yw]
   simp
   try omega
theorem Z5g (g : Nat) (p : Int → Bool) (hp : ∀ r : Int, Ya r → Does Tryz.prog tab g 0 [.int .i32 r] [] [] (Val (.bool (p r)))) (s : List UInt8) (hs : Sm s) : Does Tryz.prog tab 192 0 [.str s, .fn (.func g) [] [], .bool true] [] [] (Val (.int .i64 (idxF p s 0))) := by
 refine Does.enter Z3 (g := 192) (fn := Tryz.f192) Tryz.call192 Tryz.func192 rfl 21 rfl rfl [.tmp 6] rfl ?_
 intro w0 F η0 h0
 conv => whnf
 refine LOOP.go Z3 [1, 2, 10] (X := Nat) (fun i => i ≤ s.length ∧ idxF p s i = idxF p s 0) (fun i => []) (fun i => [(0, .siter s i)]) 1 (fun i => s.length - i) 0 ⟨by omega, rfl⟩ ?_
 conv => whnf
 refine ⟨by exact GOES.cA h0, ?_⟩
 rintro i ⟨hi, hc⟩
 conv => whnf
 refine ⟨fun h => ?_, fun h => ?_⟩
 · have h : i < s.length := by simpa using h
   have hf := Z1V s i h
   have hd := Z0O s i
   conv => whnf
   repeat' ((first | refine CALL.value (hp _ (Z66 s i)) rfl rfl ?_ | refine AU ?_ | (refine IW (fun h => ?_) (fun h => ?_) <;> try (exfalso; omega))) <;> conv => whnf)
   · refine FIN.value h0 rfl ?_
     rw [← hc, Z9h (by omega) (by simpa using h)]
   · refine ⟨i + (deco s i).2, ⟨by omega, ?_⟩, by omega, ?_⟩
     · rw [← hc, ← Z1X (by omega) (by simpa using h)]
     · conv => whnf
       exact GOES.cA h0
 · have h : s.length ≤ i := by simpa using h
   conv => whnf
   repeat' ((first | refine AU ?_ | (refine IW (fun h => ?_) (fun h => ?_) <;> try (exfalso; omega))) <;> conv => whnf)
   refine FIN.value h0 rfl ?_
   rw [← hc, Z6Y h]
theorem Z2t (g : Nat) (p : Int → Bool) (hp : ∀ r : Int, Ya r → Does Tryz.prog tab g 0 [.int .i32 r] [] [] (Val (.bool (p r)))) (s : List UInt8) (hs : Sm s) : Does Tryz.prog tab 161 0 [.str s, .fn (.func g) [] []] [] [] (Val (.int .i64 (idxF p s 0))) := by
 refine Does.enter Z3 (g := 161) (fn := Tryz.f161) Tryz.call161 Tryz.func161 rfl 8 rfl rfl [.tmp 4] rfl ?_
 intro w0 F η0 h0
 conv => whnf
 repeat' ((first | refine CALL.value (Z5g g p hp s hs) rfl rfl ?_ | refine AU ?_ | (refine IW (fun h => ?_) (fun h => ?_) <;> try (exfalso; omega))) <;> conv => whnf)
 exact FIN.value h0 rfl rfl
end Go.Proofs.YtbfbokdccdagkaaGreatDoor
namespace Go.Proofs.YtbfbokdccdagkaaGreatDoor
open Go.Sx Go.Our
theorem Z0t (c : Int) : Does Tryz.prog tab 215 0 [.int .u8 c] [] [] (Val (.bool (JY c))) := by
 refine Does.enter Z3 (g := 215) (fn := Tryz.f215) Tryz.call215 Tryz.func215 rfl 16 rfl rfl [.tmp 2] rfl ?_
 intro w0 F η0 h0
 conv => whnf
 repeat' ((first | refine AU ?_ | (refine IW (fun h => ?_) (fun h => ?_) <;> try (exfalso; omega))) <;> conv => whnf)
 all_goals
   refine FIN.value h0 rfl (congrArg SV.bool ?_)
   rw [Bool.eq_iff_iff, Z0e]
   unfold Our.Barred
   simp
   try omega
theorem Z0u (c : Int) : Does Tryz.prog tab 216 0 [.int .u8 c] [] [] (Val (.bool (decide (Xr c)))) := by
 refine Does.enter Z3 (g := 216) (fn := Tryz.f216) Tryz.call216 Tryz.func216 rfl 17 rfl rfl [.tmp 2] rfl ?_
 intro w0 F η0 h0
 conv => whnf
 repeat' ((first | refine AU ?_ | (refine IW (fun h => ?_) (fun h => ?_) <;> try (exfalso; omega))) <;> conv => whnf)
 refine FIN.value h0 rfl (congrArg SV.bool ?_)
 rw [Bool.eq_iff_iff]
 simp only [Bool.cond_eq_ite, decide_eq_true_eq, Bool.if_false_right, Bool.if_true_left, Bool.and_eq_true, Bool.or_eq_true]
 rfl
theorem Z26 (c : Int) : Does Tryz.prog tab 217 0 [.int .u8 c] [] [] (Val (.bool (decide (48 ≤ c ∧ c ≤ 57)))) := by
 refine Does.enter Z3 (g := 217) (fn := Tryz.f217) Tryz.call217 Tryz.func217 rfl 9 rfl rfl [.tmp 2] rfl ?_
 intro w0 F η0 h0
 conv => whnf
 repeat' ((first | refine AU ?_ | (refine IW (fun h => ?_) (fun h => ?_) <;> try (exfalso; omega))) <;> conv => whnf)
 refine FIN.value h0 rfl (congrArg SV.bool ?_)
 rw [Bool.eq_iff_iff]
 simp only [Bool.cond_eq_ite, decide_eq_true_eq, Bool.if_false_right, Bool.if_true_left, Bool.and_eq_true, Bool.or_eq_true]
theorem UU (s : List UInt8) (hs : Sm s) : Does Tryz.prog tab 184 0 [.str s] [] [] (Val (.int .i64 (refM s))) := by
 refine Does.enter Z3 (g := 184) (fn := Tryz.f184) Tryz.call184 Tryz.func184 rfl 20 rfl rfl [.tmp 2] rfl ?_
 intro w0 F η0 h0
 conv => whnf
 repeat' ((first | refine CALL.value (VW s hs) rfl rfl ?_ | refine AU ?_ | (refine IW (fun h => ?_) (fun h => ?_) <;> try (exfalso; omega))) <;> conv => whnf)
 · refine FIN.value h0 rfl ?_
   unfold refM; rw [if_pos (by omega)]
 · refine FIN.value h0 rfl ?_
   unfold refM; rw [if_neg (by omega), if_pos (by omega)]
 refine LOOP.go Z3 [0] (X := Nat) (fun i => i ≤ s.length ∧ anyB JY s i = anyB JY s 0) (fun i => [(3, .int .i64 (i : Int))]) (fun i => []) 0 (fun i => s.length - i) 0 ⟨by omega, rfl⟩ ?_
 conv => whnf
 refine ⟨by exact GOES.cA h0, ?_⟩
 rintro i ⟨hi, hc⟩
 conv => whnf
 repeat' ((first | refine CALL.value (Z0t _) rfl rfl ?_ | refine AU ?_ | (refine IW (fun h => ?_) (fun h => ?_) <;> try (exfalso; omega))) <;> conv => whnf)
 · refine FIN.value h0 rfl ?_
   unfold refM; rw [if_neg (by omega), if_neg (by omega), ← hc, Z1Y (by omega), h]; rfl
 · refine ⟨i + 1, ⟨by omega, ?_⟩, by omega, ?_⟩
   · rw [← hc, Z1Y (i := i) (by omega), h, Bool.false_or]
   · conv => whnf
     exact GOES.cA h0
 · refine FIN.value h0 rfl ?_
   unfold refM; rw [if_neg (by omega), if_neg (by omega), ← hc, Z3T (by omega)]; rfl
theorem Z0v (s : List UInt8) (hs : Sm s) : Does Tryz.prog tab 185 0 [.str s] [] [] (Val (.int .i64 (schM s 0))) := by
 refine Does.enter Z3 (g := 185) (fn := Tryz.f185) Tryz.call185 Tryz.func185 rfl 41 rfl rfl [.tmp 2] rfl ?_
 intro w0 F η0 h0
 conv => whnf
 refine LOOP.go Z3 [0] (X := Nat) (fun i => i ≤ s.length ∧ schM s i = schM s 0) (fun i => [(3, .int .i64 (i : Int))]) (fun i => []) 0 (fun i => s.length - i) 0 ⟨by omega, rfl⟩ ?_
 conv => whnf
 refine ⟨by exact GOES.cA h0, ?_⟩
 rintro i ⟨hi, hc⟩
 conv => whnf
 repeat' ((first | refine CALL.value (Z0u _) rfl rfl ?_ | refine CALL.value (Z26 _) rfl rfl ?_ | refine AU ?_ | (refine IW (fun h => ?_) (fun h => ?_) <;> try (exfalso; omega))) <;> conv => whnf)
 all_goals first
   | (refine FIN.value h0 rfl ?_; rw [← hc]; first | rw [Uh (by omega) (by assumption)] | (rw [Z20 (by omega) (by assumption) (by unfold SchI; rintro (h | h) <;> first | contradiction | omega)]) | rw [Z0P (by omega)])
   | (refine ⟨i + 1, ⟨by omega, ?_⟩, by omega, ?_⟩
      · rw [← hc, ← Z1Z (by omega) (by assumption) (by first | (left; assumption) | (right; unfold SchI; omega))]
      · conv => whnf
        exact GOES.cA h0)
def ZbF : Plan := (ZO [(0, 1), (1, 1), (2, 1), (3, 1), (4, 1), (5, 1), (6, 1)])
def ZbG : Plan := (ZO [(0, 1), (1, 1), (2, 1), (3, 1), (4, 1), (5, 1), (6, 1), (7, 3), (8, 1)])
def Z9o : Plan := (ZO [(0, 1), (1, 1), (2, 1), (3, 1), (4, 1), (5, 1), (6, 1), (7, 1), (8, 1), (9, 1), (10, 1)])
theorem VX (s : List UInt8) (hs : Sm s) : Does Tryz.prog tab 158 0 [.str s] [] [] (Val (.int .i64 (iriM s))) := by
 refine Does.enter Z3 (g := 158) (fn := Tryz.f158) Tryz.call158 Tryz.func158 rfl 14 rfl rfl [.tmp 2] rfl ?_
 intro w0 F η0 h0
 conv => whnf
 repeat' ((first | refine CALL.value (UU s hs) rfl rfl ?_ | refine CALL.value (Z0v s hs) rfl rfl ?_ | refine AU ?_ | (refine IW (fun h => ?_) (fun h => ?_) <;> try (exfalso; omega))) <;> conv => whnf)
 all_goals
   refine FIN.value h0 rfl (congrArg (SV.int _) ?_)
   unfold iriM
   simp_all
def Z27 (r : Int) : Int := if 0 ≤ r ∧ r < 128 then Lib.indexByte bars (IntKind.u8.wrap r).toNat.toUInt8 else -1
theorem Z2u (r : Int) (hr : Ya r) : Does Tryz.prog tab 230 0 [.str bars, .int .i32 r] [] [] (Val (.int .i64 (Z27 r))) := by
 have hlen : bars.length = 9 := rfl
 refine Does.enter Z3 (g := 230) (fn := Tryz.f230) Tryz.call230 Tryz.func230 rfl 187 rfl rfl [.tmp 4] rfl ?_
 intro w0 F η0 h0
 conv => whnf
 repeat' ((first | refine CALL.value (V1 _ _) rfl rfl ?_ | refine CALL.value (Z2s _) rfl rfl ?_ | refine AU ?_ | (refine IW (fun h => ?_) (fun h => ?_) <;> try (exfalso; omega))) <;> conv => whnf)
 · refine FIN.value h0 rfl ?_
   unfold Z27; rw [if_pos h]
 · subst h
   refine LOOP.go Z3 [175] (X := Nat) (fun i => i ≤ 9) (fun i => []) (fun i => [(0, .siter bars i)]) 1 (fun i => 9 - i) 0 (by omega) ?_
   conv => whnf
   refine ⟨by exact GOES.cA h0, ?_⟩
   intro i hi
   conv => whnf
   refine ⟨fun h => ?_, fun h => ?_⟩
   · have h : i < bars.length := by simpa using h
     have hd := Ug (Z3U i)
     have hb := ZF bars i
     conv => whnf
     refine IF.tt ?_
     conv => whnf
     refine IF.no (by rw [show Utf8.decode ⟨bars.toArray⟩ i = _ from hd]; have := Z3U i; simp; omega) ?_
     conv => whnf
     refine ⟨i + (deco bars i).2, by rw [hd]; show i + 1 ≤ 9; omega, by rw [hd]; show 9 - (i + 1) < 9 - i; omega, ?_⟩
     conv => whnf
     exact GOES.cA h0
   · conv => whnf
     refine IF.ff ?_
     conv => whnf
     refine FIN.value h0 rfl ?_
     unfold Z27; rw [if_neg (by omega)]
 · rw [Wh] at h
   exact (h hr).elim
 · have hl := Zak (r := r) (by unfold Ya at hr; omega)
   have hh := Z9g hr (by unfold Ya at hr; omega)
   have he := Z9f hr
   rw [he]
   have hm := Z7M (s := encM r) (i := ((encM r).length : Int) - 1) (by omega)
   have hm2 : 128 ≤ Z9 (encM r) (((encM r).length : Int) - 1) := by
     obtain ⟨c, hc, e⟩ := hm
     rw [e]; exact hh c hc
   have hm3 := ZF (encM r) (((encM r).length : Int) - 1)
   have hm4 := Z3U (((encM r).length : Int) - 1)
   refine LOOP.once Z3 ?_
   conv => whnf
   repeat' ((first | refine DRAWN.of (id := 6) Z3 mixed ZbF (by kernel_rfl) ?_ | refine DRAWN.of (id := 7) Z3 mixed ZbG (by kernel_rfl) ?_ | refine DRAWN.of (id := 14) Z3 mixed Z9o (by kernel_rfl) ?_ | refine DRAWN.of (id := 31) Z3 mixed Z9o (by kernel_rfl) ?_ | refine ADD.mk (fun _ _ => ?_) | refine AD ?_ | refine FORK.mk ?_ ?_ | refine CALL.value (V1 _ _) rfl rfl ?_ | refine AU ?_ | (refine IW (fun h => ?_) (fun h => ?_) <;> try (exfalso; omega))) <;> conv => whnf)
   · refine FIN.value h0 rfl ?_
     unfold Z27; rw [if_neg (by unfold Ya at hr; omega)]
   · have := Zan (l := List.drop (((encM r).length : Int) - 1 + 1).toNat bars) (c := Z9 (encM r) (((encM r).length : Int) - 1)) (by omega) (fun b hb => Zam b (List.mem_of_mem_drop hb))
     rw [this] at h
     omega
theorem WO (r : Int) (hr : Ya r) : Does Tryz.prog tab 193 0 [.str bars, .int .i32 r] [] [] (Val (.bool (decide (0 ≤ Z27 r)))) := by
 refine Does.enter Z3 (g := 193) (fn := Tryz.f193) Tryz.call193 Tryz.func193 rfl 9 rfl rfl [.tmp 4] rfl ?_
 intro w0 F η0 h0
 conv => whnf
 repeat' ((first | refine CALL.value (Z2u r hr) rfl rfl ?_ | refine AU ?_ | (refine IW (fun h => ?_) (fun h => ?_) <;> try (exfalso; omega))) <;> conv => whnf)
 exact FIN.value h0 rfl rfl
theorem ZbH {r : Int} (hr : Ya r) : (r ≤ 32 ∨ 0 ≤ Z27 r) ↔ Our.Barred r := by
 unfold Ya at hr
 unfold Z27
 by_cases h : 0 ≤ r ∧ r < 128
 · rw [if_pos h]
   have : ∀ n : Nat, n < 128 → (((n : Int) ≤ 32 ∨ 0 ≤ Lib.indexByte bars (IntKind.u8.wrap (n : Int)).toNat.toUInt8) ↔ Our.Barred (n : Int)) := by decide +kernel
   have := this r.toNat (by omega)
   rwa [show ((r.toNat : Nat) : Int) = r by omega] at this
 · rw [if_neg h]
   unfold Our.Barred
   omega
theorem Z6g (r : Int) (hr : Ya r) : Does Tryz.prog tab 162 0 [.int .i32 r] [] [] (Val (.bool (JY r))) := by
 refine Does.enter Z3 (g := 162) (fn := Tryz.f162) Tryz.call162 Tryz.func162 rfl 9 rfl rfl [.tmp 2] rfl ?_
 intro w0 F η0 h0
 conv => whnf
 repeat' ((first | refine CALL.value (WO r hr) rfl rfl ?_ | refine AU ?_ | (refine IW (fun h => ?_) (fun h => ?_) <;> try (exfalso; omega))) <;> conv => whnf)
 all_goals
   refine FIN.value h0 rfl (congrArg SV.bool ?_)
   rw [Bool.eq_iff_iff, Z0e, ← ZbH hr]
   simp
   try omega
theorem Z2v (s : List UInt8) (hs : Sm s) : Does Tryz.prog tab 132 0 [.str s] [] [] (Val (.int .i64 (refM s))) := by
 have hp : ∀ c : Int, 128 ≤ c → JY c = false := fun c hc => by rw [Z3S]; unfold Our.Barred; omega
 refine Does.enter Z3 (g := 132) (fn := Tryz.f132) Tryz.call132 Tryz.func132 rfl 15 rfl rfl [.tmp 2] rfl ?_
 intro w0 F η0 h0
 conv => whnf
 repeat' ((first | refine CALL.value (Z3e s hs) rfl rfl ?_ | refine CALL.value (Z2t _ JY (fun r hr => Z6g r hr) s hs) rfl rfl ?_ | refine AU ?_ | (refine IW (fun h => ?_) (fun h => ?_) <;> try (exfalso; omega))) <;> conv => whnf)
 all_goals
   refine FIN.value h0 rfl (congrArg (SV.int _) ?_)
   unfold refM
 · rw [if_pos (by omega)]
 · rw [if_neg (by omega), if_pos (by omega)]
 all_goals
   rename_i h1 h2
   have hc : chk s 0 = -1 := by
     have := Zce s 0
     omega
   have := Z58 JY hp s 0 hc
   rw [if_neg (by omega), if_neg (by omega)]
 · rw [if_pos (this.1 h)]
 · rw [if_neg (fun h' => by have := this.2 h'; omega)]
theorem Z6h (s : List UInt8) (hs : Sm s) : Does Tryz.prog tab 133 0 [.str s] [] [] (Val (.str (s.take (schM s 0).toNat))) := by
 refine Does.enter Z3 (g := 133) (fn := Tryz.f133) Tryz.call133 Tryz.func133 rfl 61 rfl rfl [.tmp 2] rfl ?_
 intro w0 F η0 h0
 conv => whnf
 refine LOOP.go Z3 [0, 7] (X := Nat) (fun i => i ≤ s.length ∧ schM s i = schM s 0) (fun i => []) (fun i => [(0, .siter s i)]) 1 (fun i => s.length - i) 0 ⟨by omega, rfl⟩ ?_
 conv => whnf
 refine ⟨by exact GOES.cA h0, ?_⟩
 rintro i ⟨hi, hc⟩
 conv => whnf
 refine ⟨fun h => ?_, fun h => ?_⟩
 · have h : i < s.length := by simpa using h
   have hf := Z1V s i h
   have hp := Z0O s i
   have hb := ZF s i
   have hd : ((deco s i).1 : Int) = Z9 s i ∧ (deco s i).2 = 1 ∨ 128 ≤ Z9 s i ∧ 128 ≤ (deco s i).1 := by
     by_cases ha : Z9 s i < 128
     · left; rw [Ug ha]; simp; omega
     · right; exact ⟨by omega, Z1W (by omega)⟩
   unfold deco at *
   generalize Utf8.decode ⟨s.toArray⟩ i = d at *
   obtain ⟨r, n⟩ := d
   simp only at hf hp hd
   conv => whnf
   repeat' ((first | refine AU ?_ | (refine IW (fun h => ?_) (fun h => ?_) <;> try (exfalso; omega))) <;> conv => whnf)
   all_goals first
     | (have hn : n = 1 := by omega
        subst hn
        refine ⟨i + 1, ⟨hf, ?_⟩, by omega, ?_⟩
        · rw [← hc, ← Z1Z (by omega) (by omega) (by unfold Xr SchI; omega)]
        · conv => whnf
          exact GOES.cA h0)
     | (refine FIN.value h0 rfl (congrArg SV.str ?_); rw [← hc, Uh (by omega) (by omega)])
     | (refine FIN.value h0 rfl (congrArg SV.str ?_); rw [← hc]
        by_cases h58 : Z9 s i = 58
        · rw [Uh (by omega) h58]; rw [show (i : Int) = 0 by omega]; rfl
        · rw [Z20 (by omega) h58 (by unfold Xr SchI; omega)]; rfl)
 · have h : s.length ≤ i := by simpa using h
   conv => whnf
   repeat' ((first | refine AU ?_ | (refine IW (fun h => ?_) (fun h => ?_) <;> try (exfalso; omega))) <;> conv => whnf)
   refine FIN.value h0 rfl ?_
   rw [← hc, Z0P h]; rfl
theorem Wo (s : List UInt8) (hs : Sm s) : Does Tryz.prog tab 108 0 [.str s] [] [] (Val (.int .i64 (iriM s))) := by
 have hr := Zal s 0
 refine Does.enter Z3 (g := 108) (fn := Tryz.f108) Tryz.call108 Tryz.func108 rfl 12 rfl rfl [.tmp 2] rfl ?_
 intro w0 F η0 h0
 conv => whnf
 repeat' ((first | refine CALL.value (Z2v s hs) rfl rfl ?_ | refine CALL.value (Z6h s hs) rfl rfl ?_ | refine AU ?_ | (refine IW (fun h => ?_) (fun h => ?_) <;> try (exfalso; omega))) <;> conv => whnf)
 · refine FIN.value h0 rfl (congrArg (SV.int _) ?_)
   unfold iriM; rw [if_pos h]
 · rename_i h1
   refine FIN.value h0 rfl (congrArg (SV.int _) ?_)
   unfold iriM; rw [if_neg (by omega), if_pos]
   have hz : (s.take (schM s 0).toNat).length = 0 := by
     have : s.take (schM s 0).toNat = [] := h
     rw [this]; rfl
   rw [List.length_take] at hz
   by_cases hl : s.length = 0
   · rw [Z0P (by omega)]
   · omega
 · rename_i h1
   refine FIN.value h0 rfl (congrArg (SV.int _) ?_)
   unfold iriM; rw [if_neg (by omega), if_neg]
   intro h2
   apply h
   rw [h2]; rfl
theorem Z0f (r : Int) : Does Tryz.prog tab 235 0 [.int .i32 r] [] [] (Val (.bool (decide (Xr r)))) := by
 refine Does.enter Z3 (g := 235) (fn := Tryz.f235) Tryz.call235 Tryz.func235 rfl 17 rfl rfl [.tmp 2] rfl ?_
 intro w0 F η0 h0
 conv => whnf
 repeat' ((first | refine AU ?_ | (refine IW (fun h => ?_) (fun h => ?_) <;> try (exfalso; omega))) <;> conv => whnf)
 refine FIN.value h0 rfl (congrArg SV.bool ?_)
 rw [Bool.eq_iff_iff]
 simp only [Bool.cond_eq_ite, decide_eq_true_eq, Bool.if_false_right, Bool.if_true_left, Bool.and_eq_true, Bool.or_eq_true]
 rfl
theorem Jw (r : Int) : Does Tryz.prog tab 196 0 [.int .i32 r] [] [] (Val (.bool (decide (VU r)))) := by
 refine Does.enter Z3 (g := 196) (fn := Tryz.f196) Tryz.call196 Tryz.func196 rfl 9 rfl rfl [.tmp 2] rfl ?_
 intro w0 F η0 h0
 conv => whnf
 repeat' ((first | refine AU ?_ | (refine IW (fun h => ?_) (fun h => ?_) <;> try (exfalso; omega))) <;> conv => whnf)
 refine FIN.value h0 rfl (congrArg SV.bool ?_)
 rw [Bool.eq_iff_iff]
 simp only [Bool.cond_eq_ite, decide_eq_true_eq, Bool.if_false_right, Bool.if_true_left, Bool.and_eq_true, Bool.or_eq_true]
 rfl
theorem Z7V (r : Int) : Does Tryz.prog tab 231 0 [.int .i32 r] [] [] (Val (.bool (decide (Z21 r)))) := by
 refine Does.enter Z3 (g := 231) (fn := Tryz.f231) Tryz.call231 Tryz.func231 rfl 25 rfl rfl [.tmp 2] rfl ?_
 intro w0 F η0 h0
 conv => whnf
 repeat' ((first | refine CALL.value (Z0f _) rfl rfl ?_ | (refine LOOP.once Z3 ?_; conv => whnf) | refine AU ?_ | (refine IW (fun h => ?_) (fun h => ?_) <;> try (exfalso; omega))) <;> conv => whnf)
 all_goals
   refine FIN.value h0 rfl (congrArg SV.bool ?_)
   first
     | exact decide_eq_decide.2 (by unfold Xr Z21; omega)
     | exact (decide_eq_true (by unfold Z21; omega)).symm
     | exact (decide_eq_false (by unfold Z21; omega)).symm
theorem Wp (r : Int) : Does Tryz.prog tab 195 0 [.int .i32 r] [] [] (Val (.bool (decide (Wl r)))) := by
 refine Does.enter Z3 (g := 195) (fn := Tryz.f195) Tryz.call195 Tryz.func195 rfl 9 rfl rfl [.tmp 2] rfl ?_
 intro w0 F η0 h0
 conv => whnf
 repeat' ((first | refine CALL.value (Z7V _) rfl rfl ?_ | refine AU ?_ | (refine IW (fun h => ?_) (fun h => ?_) <;> try (exfalso; omega))) <;> conv => whnf)
 all_goals
   refine FIN.value h0 rfl (congrArg SV.bool ?_)
   rw [Bool.eq_iff_iff, decide_eq_true_iff]
   unfold Wl
   simp
theorem Z2w (r : Int) : Does Tryz.prog tab 194 0 [.int .i32 r] [] [] (Val (.bool (decide (Yz r)))) := by
 refine Does.enter Z3 (g := 194) (fn := Tryz.f194) Tryz.call194 Tryz.func194 rfl 33 rfl rfl [.tmp 2] rfl ?_
 intro w0 F η0 h0
 conv => whnf
 repeat' ((first | refine CALL.value (Wp _) rfl rfl ?_ | refine CALL.value (Jw _) rfl rfl ?_ | refine AU ?_ | (refine IW (fun h => ?_) (fun h => ?_) <;> try (exfalso; omega))) <;> conv => whnf)
 all_goals
   refine FIN.value h0 rfl (congrArg SV.bool ?_)
   rw [Bool.eq_iff_iff]
   unfold Yz
   simp_all
   try omega
theorem Z5h (r : Int) : Does Tryz.prog tab 164 0 [.int .i32 r] [] [] (Val (.bool (decide (Js r)))) := by
 refine Does.enter Z3 (g := 164) (fn := Tryz.f164) Tryz.call164 Tryz.func164 rfl 9 rfl rfl [.tmp 2] rfl ?_
 intro w0 F η0 h0
 conv => whnf
 repeat' ((first | refine CALL.value (Wp _) rfl rfl ?_ | refine CALL.value (Jw _) rfl rfl ?_ | refine AU ?_ | (refine IW (fun h => ?_) (fun h => ?_) <;> try (exfalso; omega))) <;> conv => whnf)
 all_goals
   refine FIN.value h0 rfl (congrArg SV.bool ?_)
   unfold Js
   simp_all
theorem Z9p (g : Nat) (p : Int → Prop) [DecidablePred p] (hp : ∀ r : Int, Does Tryz.prog tab g 0 [.int .i32 r] [] [] (Val (.bool (decide (p r))))) (s : List UInt8) (i : Int) (hs : Sm s) : Does Tryz.prog tab 163 0 [.str s, .int .i64 i, .fn (.func g) [] []] [] [] (Val (.int .i64 (runM p s i))) := by
 have hn := Yy s i
 refine Does.enter Z3 (g := 163) (fn := Tryz.f163) Tryz.call163 Tryz.func163 rfl 55 rfl rfl [.tmp 6] rfl ?_
 intro w0 F η0 h0
 conv => whnf
 repeat' ((first | refine CALL.value (Z25 s _ hs) rfl rfl ?_ | refine CALL.value (hp _) rfl rfl ?_ | refine AU ?_ | (refine IW (fun h => ?_) (fun h => ?_) <;> try (exfalso; omega))) <;> conv => whnf)
 · exact FIN.value h0 rfl (congrArg (SV.int _) (by unfold runM; rw [if_pos (.inl h)]))
 · exact FIN.value h0 rfl (congrArg (SV.int _) (by unfold runM; rw [if_pos (.inr h)]))
 rename_i h1
 have hi : 0 ≤ i ∧ i < s.length := by
   apply Classical.byContradiction; intro hh; exact h1 (by unfold Zi; rw [if_pos (by omega)])
 refine LOOP.go Z3 [0, 1] (X := Nat × Nat) (fun x => x.1 ≤ s.length ∧ x.2 ≤ x.1 ∧ runGo s x.1 x.2 = runGo s (i.toNat + (Zi s i).2.toNat) (i.toNat + (Zi s i).2.toNat)) (fun x => [(10, .int .i64 (x.1 : Int)), (9, .int .i64 (x.2 : Int))]) (fun i => []) 0 (fun x => s.length - x.1) (i.toNat + (Zi s i).2.toNat, i.toNat + (Zi s i).2.toNat) ⟨by omega, by omega, rfl⟩ ?_
 conv => whnf
 refine ⟨by exact GOES.cA h0, ?_⟩
 rintro ⟨j, e⟩ ⟨hj, he, hc⟩
 simp only at hj he hc
 have hn' := Yy s j
 conv => whnf
 repeat' ((first | refine CALL.value (Z25 s _ hs) rfl rfl ?_ | refine CALL.value (Z2w _) rfl rfl ?_ | refine AU ?_ | (refine IW (fun h => ?_) (fun h => ?_) <;> try (exfalso; omega))) <;> conv => whnf)
 all_goals first
   | (refine FIN.value h0 rfl (congrArg (SV.int _) ?_)
      unfold runM
      rw [if_neg (by simp [*]), ← hc, WK (by simp [*])]
      simp (disch := omega) only [Z2])
   | (refine ⟨(j + (Zi s j).2.toNat, if (Zi s j).1 = 46 then e else j + (Zi s j).2.toNat), ⟨by simp only; omega, by simp only; split <;> omega, ?_⟩, by simp only; omega, ?_⟩
      · simp only
        rw [← hc, ← WJ (by simp [*])]
      · conv => whnf
        simp only [*, if_true, if_false]
        exact GOES.cA h0)
theorem Z3W (s : List UInt8) (i : Int) (hs : Sm s) : Does Tryz.prog tab 134 0 [.str s, .int .i64 i] [] [] (Val (.int .i64 (runM Js s i))) := by
 refine Does.enter Z3 (g := 134) (fn := Tryz.f134) Tryz.call134 Tryz.func134 rfl 8 rfl rfl [.tmp 4] rfl ?_
 intro w0 F η0 h0
 conv => whnf
 repeat' ((first | refine CALL.value (Z9p _ Js (fun r => Z5h r) s i hs) rfl rfl ?_ | refine AU ?_ | (refine IW (fun h => ?_) (fun h => ?_) <;> try (exfalso; omega))) <;> conv => whnf)
 exact FIN.value h0 rfl rfl
theorem Z6i (s : List UInt8) (hs : Sm s) : Does Tryz.prog tab 109 0 [.str s] [] [] (Val (.int .i64 (Z39 s))) := by
 refine Does.enter Z3 (g := 109) (fn := Tryz.f109) Tryz.call109 Tryz.func109 rfl 14 rfl rfl [.tmp 2] rfl ?_
 intro w0 F η0 h0
 conv => whnf
 repeat' ((first | refine CALL.value (Z3W s _ hs) rfl rfl ?_ | refine AU ?_ | (refine IW (fun h => ?_) (fun h => ?_) <;> try (exfalso; omega))) <;> conv => whnf)
 · exact FIN.value h0 rfl (congrArg (SV.int _) (by unfold Z39; rw [if_pos (by simpa using h)]))
 · exact FIN.value h0 rfl (congrArg (SV.int _) (by unfold Z39; rw [if_neg (by simp; exact h)]))
theorem Jx (s : List UInt8) (least most : Int) (pure : Bool) (hs : Sm s) : Does Tryz.prog tab 202 0 [.str s, .int .i64 least, .int .i64 most, .bool pure] [] [] (Val (.bool (ZE s least most pure))) := by
 refine Does.enter Z3 (g := 202) (fn := Tryz.f202) Tryz.call202 Tryz.func202 rfl 37 rfl rfl [.tmp 8] rfl ?_
 intro w0 F η0 h0
 conv => whnf
 refine LOOP.go Z3 [0, 1, 2, 3, 12] (X := Nat) (fun i => i ≤ s.length ∧ allB (Ju pure) s i = allB (Ju pure) s 0) (fun i => []) (fun i => [(0, .siter s i)]) 1 (fun i => s.length - i) 0 ⟨by omega, rfl⟩ ?_
 conv => whnf
 refine ⟨by exact GOES.cA h0, ?_⟩
 rintro i ⟨hi, hc⟩
 conv => whnf
 refine ⟨fun h => ?_, fun h => ?_⟩
 · have h : i < s.length := by simpa using h
   have hf := Z1V s i h
   have hp := Z0O s i
   have hd : ((deco s i).1 : Int) = Z9 s i ∧ (deco s i).2 = 1 ∨ 128 ≤ Z9 s i ∧ 128 ≤ (deco s i).1 := by
     have hb := ZF s i
     by_cases ha : Z9 s i < 128
     · left; rw [Ug ha]; simp; omega
     · right; exact ⟨by omega, Z1W (by omega)⟩
   unfold deco at *
   generalize Utf8.decode ⟨s.toArray⟩ i = d at *
   obtain ⟨r, n⟩ := d
   simp only at hf hp hd
   have key : allB (Ju pure) s 0 = (Ju pure r && allB (Ju pure) s (i + n)) ∨ 128 ≤ r ∧ allB (Ju pure) s 0 = false := by
     rcases hd with ⟨h1, rfl⟩ | ⟨h1, h2⟩
     · left; rw [← hc, J3 h, h1]
     · right; exact ⟨h2, by rw [← hc, J3 h, Z3a h1, Bool.false_and]⟩
   conv => whnf
   repeat' ((first | refine CALL.value (Z0f _) rfl rfl ?_ | refine CALL.value (Jw _) rfl rfl ?_ | refine AU ?_ | (refine IW (fun h => ?_) (fun h => ?_) <;> try (exfalso; omega))) <;> conv => whnf)
   all_goals first
     | (refine FIN.value h0 rfl (congrArg SV.bool ?_)
        have h1 : Ju pure r = false := by unfold Ju Jt Xb; simp [*]
        have h2 : allB (Ju pure) s 0 = false := by rcases key with h | h <;> simp [h, h1]
        unfold ZE; rw [h2]; rfl)
     | (have h1 : Ju pure r = true := by unfold Ju Jt Xb; simp [*]
        refine ⟨i + n, ⟨hf, ?_⟩, by omega, ?_⟩
        · rcases key with h | h
          · rw [h, h1, Bool.true_and]
          · rw [Z3a (by omega)] at h1; cases h1
        · conv => whnf
          exact GOES.cA h0)
 · have h : s.length ≤ i := by simpa using h
   conv => whnf
   repeat' ((first | refine AU ?_ | (refine IW (fun h => ?_) (fun h => ?_) <;> try (exfalso; omega))) <;> conv => whnf)
   all_goals
     refine FIN.value h0 rfl (congrArg SV.bool ?_)
     unfold ZE
     rw [← hc, Ui h, Bool.eq_iff_iff]
     simp [Bool.cond_eq_ite]
theorem JO (s : List UInt8) : Does Tryz.prog tab 168 0 [.str s] [] [] (Val (.bool (ZS s))) := by
 refine Does.enter Z3 (g := 168) (fn := Tryz.f168) Tryz.call168 Tryz.func168 rfl 9 rfl rfl [.tmp 2] rfl ?_
 intro w0 F η0 h0
 conv => whnf
 repeat' ((first | refine AU ?_ | (refine IW (fun h => ?_) (fun h => ?_) <;> try (exfalso; omega))) <;> conv => whnf)
 refine FIN.value h0 rfl (congrArg SV.bool ?_)
 unfold ZS
 rw [Bool.eq_iff_iff]
 simp [Bool.cond_eq_ite]
theorem Z28 (s : List UInt8) (hs : Sm s) : Does Tryz.prog tab 205 0 [.str s] [] [] (Val (.bool (YO s))) := by
 have b0 := ZF s 0; have b1 := ZF s 1; have b2 := ZF s 2
 refine Does.enter Z3 (g := 205) (fn := Tryz.f205) Tryz.call205 Tryz.func205 rfl 28 rfl rfl [.tmp 2] rfl ?_
 intro w0 F η0 h0
 conv => whnf
 repeat' ((first | refine CALL.value (Jx _ _ _ _ hs) rfl rfl ?_ | refine CALL.value (Jw _) rfl rfl ?_ | refine AU ?_ | (refine IW (fun h => ?_) (fun h => ?_) <;> try (exfalso; omega))) <;> conv => whnf)
 all_goals
   refine FIN.value h0 rfl (congrArg SV.bool ?_)
   unfold YO Xb
   try simp (disch := omega) only [Z7] at *
   simp_all
   try omega
theorem JP (s : List UInt8) (hs : Sm s) : Does Tryz.prog tab 206 0 [.str s] [] [] (Val (.bool (XM s))) := by
 have b0 := ZF s 0
 have hm : ZE s 4 4 false = true → s.length = 4 := by unfold ZE; simp; omega
 refine Does.enter Z3 (g := 206) (fn := Tryz.f206) Tryz.call206 Tryz.func206 rfl 15 rfl rfl [.tmp 2] rfl ?_
 intro w0 F η0 h0
 conv => whnf
 repeat' ((first | refine CALL.value (Jx _ _ _ _ hs) rfl rfl ?_ | refine CALL.value (Jw _) rfl rfl ?_ | (refine NEED.mk (by have := hm (by assumption); omega) ?_; conv => whnf) | refine AU ?_ | (refine IW (fun h => ?_) (fun h => ?_) <;> try (exfalso; omega))) <;> conv => whnf)
 all_goals
   refine FIN.value h0 rfl (congrArg SV.bool ?_)
   unfold XM Xb
   try simp (disch := omega) only [Z7] at *
   simp_all
theorem YS (s : List UInt8) (hs : Sm s) : Does Tryz.prog tab 137 0 [.str s] [] [] (Val (.str (Zd s))) := by
 refine Does.enter Z3 (g := 137) (fn := Tryz.f137) Tryz.call137 Tryz.func137 rfl 29 rfl rfl [.tmp 2] rfl ?_
 intro w0 F η0 h0
 conv => whnf
 repeat' ((first | refine AU ?_ | (refine IW (fun h => ?_) (fun h => ?_) <;> try (exfalso; omega))) <;> conv => whnf)
 refine LOOP.go Z3 [3, 8, 9] (X := Nat) (fun i => i ≤ s.length) (fun i => [(10, .int .i64 (i : Int))]) (fun i => [(0, .rows 1 ((curL s i).map Sx.bytesRow))]) 1 (fun i => s.length - i) 0 (by omega) ?_
 conv => whnf
 refine ⟨by (refine GOES.cutting h0 rfl rfl rfl (by first | rfl | (simp only [Z6, Z4, Z0 _ (ZB _), Bool.and_self, Bool.and_true] <;> rfl)) ?_ ?_ <;> (repeat' (first | (with_reducible rfl) | (exact Zp rfl (by first | (simp; done) | omega | (simp; omega))) | (exact congrArg (SV.int _) (by first | omega | (simp (disch := omega) only [lnB, Z2, Z7] <;> omega) | (simp; done) | (simp <;> omega))) | (exact congrArg (Hp.rows _) (by rw [Z5b])) | ((conv => whnf); refine ⟨?_, ?_⟩) | exact trivial | rfl))), ?_⟩
 intro i hi
 have hlen := Z71 s i
 conv => whnf
 repeat' ((first | (refine GET.at (row := Sx.bytesRow (s[i]'(by omega))) (by rw [show 0 + (i : Int).toNat = i by omega]; exact Z3V (by omega)) ?_; conv => whnf) | refine AU ?_ | (refine IW (fun h => ?_) (fun h => ?_) <;> try (exfalso; omega))) <;> conv => whnf)
 · have hl : i < s.length := by omega
   refine ⟨i + 1, by omega, by omega, ?_⟩
   conv => whnf
   (refine GOES.cutting h0 rfl rfl rfl (by first | rfl | (simp only [Z6, Z4, Z0 _ (ZB _), Bool.and_self, Bool.and_true] <;> rfl)) ?_ ?_ <;> (repeat' (first | (with_reducible rfl) | (exact Zp rfl (by first | (simp; done) | omega | (simp; omega))) | (exact congrArg (SV.int _) (by first | omega | (simp (disch := omega) only [lnB, Z2, Z7] <;> omega) | (simp; done) | (simp <;> omega))) | (exact congrArg (Hp.rows _) (by rw [Z9k h, show 0 + (i : Int).toNat = i by omega, Z73 hl])) | ((conv => whnf); refine ⟨?_, ?_⟩) | exact trivial | rfl)))
 · have hl : i < s.length := by omega
   refine ⟨i + 1, by omega, by omega, ?_⟩
   conv => whnf
   (refine GOES.cutting h0 rfl rfl rfl (by first | rfl | (simp only [Z6, Z4, Z0 _ (ZB _), Bool.and_self, Bool.and_true] <;> rfl)) ?_ ?_ <;> (repeat' (first | (with_reducible rfl) | (exact Zp rfl (by first | (simp; done) | omega | (simp; omega))) | (exact congrArg (SV.int _) (by first | omega | (simp (disch := omega) only [lnB, Z2, Z7] <;> omega) | (simp; done) | (simp <;> omega))) | (exact congrArg (Hp.rows _) (by rw [Z5c hl (Z69 (by omega))])) | ((conv => whnf); refine ⟨?_, ?_⟩) | exact trivial | rfl)))
 · refine NEED.mk (Vq (by omega)) ?_
   conv => whnf
   refine FIN.value h0 rfl (congrArg SV.str ?_)
   have := Z5U (curL s i)
   rw [hlen] at this
   rw [this, Z72 (by omega)]
theorem Z0w (s : List UInt8) (c : Int) : Does Tryz.prog tab 250 0 [.str s, .int .u8 c] [] [] (Val (.int .i64 (Lib.countByte s c.toNat.toUInt8 : Nat))) := by
 refine Does.says fun η w vs hd => ?_
 simp only [DenL, Den] at hd
 obtain ⟨u, us, rfl, rfl, u', us', rfl, rfl, rfl⟩ := hd
 refine ⟨_, ?_, rfl⟩
 rw [run_callFunc_extern Tryz.func250 (by kernel_rfl) (by kernel_rfl) (by kernel_rfl) (e := Extern.BytealgCount.count) (by kernel_rfl), Lib.run_countString]
 rfl
theorem Z7W (s : List UInt8) : Does Tryz.prog tab 233 0 [.str s, .str [45]] [] [] (Val (.int .i64 (s.count 45 : Nat))) := by
 refine Does.enter Z3 (g := 233) (fn := Tryz.f233) Tryz.call233 Tryz.func233 rfl 34 rfl rfl [.tmp 4] rfl ?_
 intro w0 F η0 h0
 conv => whnf
 repeat' ((first | refine CALL.value (Z0w _ _) rfl rfl ?_ | refine AU ?_ | (refine IW (fun h => ?_) (fun h => ?_) <;> try (exfalso; omega))) <;> conv => whnf)
 all_goals first
   | exact FIN.value h0 rfl rfl
   | (exfalso; simp at *; done)
theorem Z5i (s : List UInt8) : Does Tryz.prog tab 251 0 [.str s, .str [45]] [] [] (Val (.int .i64 (Lib.indexByte s 45))) := by
 refine Does.enter Z3 (g := 251) (fn := Tryz.f251) Tryz.call251 Tryz.func251 rfl 143 rfl rfl [.tmp 4] rfl ?_
 intro w0 F η0 h0
 conv => whnf
 repeat' ((first | refine CALL.value (J6 _ _) rfl rfl ?_ | refine CALL.value (VB _ _) rfl rfl ?_ | refine CALL.value (V1 _ _) rfl rfl ?_ | refine AU ?_ | (refine IW (fun h => ?_) (fun h => ?_) <;> try (exfalso; omega))) <;> conv => whnf)
 all_goals first
   | exact FIN.value h0 rfl rfl
   | (subst h; exact FIN.value h0 rfl rfl)
   | (rcases h with h | h
      · exact absurd h (by decide)
      · subst h; exact FIN.value h0 rfl rfl)
   | exact absurd (by assumption : ¬ ((0 + 1 : Nat) : Int) = 1) (by decide)
theorem Z3f (s : List UInt8) : Does Tryz.prog tab 234 0 [.str s, .str [45]] [] [] (Val (.int .i64 (Lib.indexByte s 45))) := by
 refine Does.enter Z3 (g := 234) (fn := Tryz.f234) Tryz.call234 Tryz.func234 rfl 8 rfl rfl [.tmp 4] rfl ?_
 intro w0 F η0 h0
 conv => whnf
 repeat' ((first | refine CALL.value (Z5i _) rfl rfl ?_ | refine AU ?_ | (refine IW (fun h => ?_) (fun h => ?_) <;> try (exfalso; omega))) <;> conv => whnf)
 exact FIN.value h0 rfl rfl
theorem Zas {l c : Int} {b : Nat} (B : Nat) (hb : Nat.ble b B = true) (h0 : 0 ≤ l) (h1 : l ≤ c) (h2 : (B : Int) * c ≤ 281474976710656 ∧ c ≤ 9223372036854775807) : 0 ≤ l ∧ l ≤ c ∧ c ≤ 9223372036854775807 ∧ (b : Int) * c ≤ 281474976710656 :=
 ⟨h0, h1, h2.2, Int.le_trans (Int.mul_le_mul_of_nonneg_right (by have := Nat.le_of_ble_eq_true hb; omega) (by omega)) h2.1⟩
theorem Z3X (s : List UInt8) (hs : s.length ≤ 68719476736) : Does Tryz.prog tab 200 0 [.str s, .str [45], .int .i64 0, .int .i64 (-1)] [] [] (NewS 1 ((Zu s).map Zb)) := by
 have hcnt := XI s
 have hlen := Wn s
 have hne := Z0Q s
 refine Does.enter Z3 (g := 200) (fn := Tryz.f200) Tryz.call200 Tryz.func200 rfl 66 rfl rfl [.tmp 8] rfl ?_
 intro w0 F η0 h0
 conv => whnf
 repeat' ((first | refine CALL.value (Z7W _) rfl rfl ?_ | refine AU ?_ | (refine IW (fun h => ?_) (fun h => ?_) <;> try (exfalso; omega))) <;> conv => whnf)
 have hn : (if IntKind.i64.wrap ((s.length : Int) + 1) < IntKind.i64.wrap (((s.count 45 : Nat) : Int) + 1) then IntKind.i64.wrap ((s.length : Int) + 1) else IntKind.i64.wrap (((s.count 45 : Nat) : Int) + 1)) = ((Zu s).length : Int) := by
   simp (disch := omega) only [Z2]
   rw [if_neg (by omega)]; omega
 rw [hn]
 refine NEED.mk (Zas 16 rfl (by omega) (by omega) (by omega)) ?_
 conv => whnf
 rw [show List.replicate ((Zu s).length : Int).toNat [SV.str []] = Z22 [] (Zu s).length by rw [Int.toNat_natCast]; rfl]
 refine LOOP.go Z3 [1, 2, 3, 9] (X := List (List UInt8) × List UInt8) (fun x => Zu s = x.1 ++ Zu x.2 ∧ x.2.length ≤ s.length) (fun x => [(10, .int .i64 (x.1.length : Int)), (0, .str x.2)]) (fun x => [(0, .rows 1 (Z22 x.1 ((Zu s).length - x.1.length)))]) 1 (fun x => (Zu s).length - x.1.length) ([], s) ⟨rfl, Nat.le_refl _⟩ ?_
 conv => whnf
 refine ⟨by (refine GOES.cutting h0 rfl rfl rfl (by first | rfl | (simp only [Z6, Z4, Z0 _ (Z5d _ _), Bool.and_self, Bool.and_true] <;> rfl)) ?_ ?_ <;> (repeat' (first | (with_reducible rfl) | (exact Zp rfl (by first | (simp; done) | omega | (simp; omega))) | (exact congrArg (SV.int _) (by first | omega | (simp (disch := omega) only [lnB, Z2, Z7] <;> omega) | (simp; done) | (simp <;> omega))) | (exact congrArg (Hp.rows _) (by rfl)) | ((conv => whnf); refine ⟨?_, ?_⟩) | exact trivial | rfl))), ?_⟩
 rintro ⟨d, u⟩ ⟨he, hu⟩
 dsimp only at he hu ⊢
 have hd : d.length + (Zu u).length = (Zu s).length := by rw [he, List.length_append]
 have hun : 1 ≤ (Zu u).length := by have := XI u; omega
 have hm : Lib.indexByte u 45 = -1 ∧ Zu u = [u] ∨ ∃ m : Nat, Lib.indexByte u 45 = m ∧ m < u.length ∧ Zu u = u.take m :: Zu (u.drop (m + 1)) := by
   have hge := Lib.indexByte_ge u 45
   by_cases h : Lib.indexByte u 45 = -1
   · exact .inl ⟨h, Z3b h⟩
   · have e : Lib.indexByte u 45 = ((Lib.indexByte u 45).toNat : Int) := by omega
     have := Z3c e
     exact .inr ⟨_, e, this.1, this.2⟩
 conv => whnf
 rcases hm with ⟨hm, hs1⟩ | ⟨m, hm, hml, hs1⟩
 · have h1 : (Zu u).length = 1 := by rw [hs1]; rfl
   repeat' ((first | refine CALL.value (Z3f _) rfl rfl ?_ | (refine GET.at (row := Zb []) (Z74 (by omega) (by omega)) ?_; conv => whnf) | (refine NEED.mk (by rw [Z2 (by omega) (by omega)]; refine ⟨by omega, ?_⟩; show _ ≤ ((max (((Zu s).length : Int).toNat) (_ - 0) : Nat) : Int); omega) ?_; conv => whnf) | refine AU ?_ | (refine IW (fun h => ?_) (fun h => ?_) <;> try (exfalso; omega))) <;> conv => whnf)
   rw [Z75 (by omega) (by omega)]
   have hw : (IntKind.i64.wrap ((d.length : Int) + 1)).toNat = ((Zu s).map Zb).length := by
     rw [Z2 (by omega) (by omega), List.length_map]; omega
   rw [hw, show (Zu s).length - d.length - 1 = 0 by omega, show Z22 (d ++ [u]) 0 = (Zu s).map Zb by rw [he, hs1]; simp [Z22]]
   exact FIN.rows h0 0 1 _ rfl rfl rfl (Z1 _) ⟨rfl, rfl, rfl⟩
 · have h1 : 2 ≤ (Zu u).length := by rw [hs1]; have := XI (u.drop (m + 1)); simp; omega
   repeat' ((first | refine CALL.value (Z3f _) rfl rfl ?_ | (refine GET.at (row := Zb []) (Z74 (by omega) (by omega)) ?_; conv => whnf) | refine AU ?_ | (refine IW (fun h => ?_) (fun h => ?_) <;> try (exfalso; omega))) <;> conv => whnf)
   have hw1 : (IntKind.i64.wrap (Lib.indexByte u 45 + (([45] : List UInt8).length : Int))).toNat = m + 1 := by
     rw [hm]; simp only [List.length_cons, List.length_nil]; rw [Z2 (by omega) (by omega)]; omega
   have hw2 : (IntKind.i64.wrap (Lib.indexByte u 45 + 0)).toNat = m := by
     rw [hm, Z2 (by omega) (by omega)]; omega
   rw [hw1, hw2, Z75 (by omega) (by omega)]
   refine ⟨(d ++ [u.take m], u.drop (m + 1)), ⟨by rw [he, hs1]; simp, by simp; omega⟩, by simp; omega, ?_⟩
   dsimp only
   conv => whnf
   (refine GOES.cutting h0 rfl rfl rfl (by first | rfl | (simp only [Z6, Z4, Z0 _ (Z5d _ _), Bool.and_self, Bool.and_true] <;> rfl)) ?_ ?_ <;> (repeat' (first | (with_reducible rfl) | (exact Zp rfl (by first | (simp; done) | omega | (simp; omega))) | (exact congrArg (SV.int _) (by first | omega | (simp (disch := omega) only [lnB, Z2, Z7] <;> omega) | (simp; done) | (simp <;> omega))) | (exact congrArg (Hp.rows _) (by congr 1; simp; omega)) | ((conv => whnf); refine ⟨?_, ?_⟩) | exact trivial | rfl)))
theorem Z7X (s : List UInt8) (hs : s.length ≤ 68719476736) : Does Tryz.prog tab 166 0 [.str s, .str [45]] [] [] (NewS 1 ((Zu s).map Zb)) := by
 refine Does.enter Z3 (g := 166) (fn := Tryz.f166) Tryz.call166 Tryz.func166 rfl 8 rfl rfl [.tmp 4] rfl ?_
 intro w0 F η0 h0
 conv => whnf
 refine CALL.newS (Z3X s hs) rfl (Z1 _) ?_
 conv => whnf
 exact FIN.rows h0 0 1 _ rfl rfl rfl (Z1 _) ⟨rfl, rfl, rfl⟩
theorem Z7Y (s : List UInt8) (hs : Sm s) : Does Tryz.prog tab 201 0 [.str s] [] [] (Val (.bool (ZE s 2 8 true))) := by
 refine Does.enter Z3 (g := 201) (fn := Tryz.f201) Tryz.call201 Tryz.func201 rfl 5 rfl rfl [.tmp 2] rfl ?_
 intro w0 F η0 h0
 conv => whnf
 repeat' ((first | refine CALL.value (Jx _ _ _ _ hs) rfl rfl ?_ | refine AU ?_ | (refine IW (fun h => ?_) (fun h => ?_) <;> try (exfalso; omega))) <;> conv => whnf)
 exact FIN.value h0 rfl rfl
theorem Z7Z (s : List UInt8) (hs : Sm s) : Does Tryz.prog tab 203 0 [.str s] [] [] (Val (.bool (ZE s 3 3 true))) := by
 refine Does.enter Z3 (g := 203) (fn := Tryz.f203) Tryz.call203 Tryz.func203 rfl 5 rfl rfl [.tmp 2] rfl ?_
 intro w0 F η0 h0
 conv => whnf
 repeat' ((first | refine CALL.value (Jx _ _ _ _ hs) rfl rfl ?_ | refine AU ?_ | (refine IW (fun h => ?_) (fun h => ?_) <;> try (exfalso; omega))) <;> conv => whnf)
 exact FIN.value h0 rfl rfl
theorem Z80 (s : List UInt8) (hs : Sm s) : Does Tryz.prog tab 204 0 [.str s] [] [] (Val (.bool (ZE s 4 4 true))) := by
 refine Does.enter Z3 (g := 204) (fn := Tryz.f204) Tryz.call204 Tryz.func204 rfl 5 rfl rfl [.tmp 2] rfl ?_
 intro w0 F η0 h0
 conv => whnf
 repeat' ((first | refine CALL.value (Jx _ _ _ _ hs) rfl rfl ?_ | refine AU ?_ | (refine IW (fun h => ?_) (fun h => ?_) <;> try (exfalso; omega))) <;> conv => whnf)
 exact FIN.value h0 rfl rfl
theorem Uj (s : List UInt8) (hs : Sm s) : Does Tryz.prog tab 208 0 [.str s] [] [] (Val (.bool (YX s))) := by
 refine Does.enter Z3 (g := 208) (fn := Tryz.f208) Tryz.call208 Tryz.func208 rfl 10 rfl rfl [.tmp 2] rfl ?_
 intro w0 F η0 h0
 conv => whnf
 repeat' ((first | refine CALL.value (Jx _ _ _ _ hs) rfl rfl ?_ | refine CALL.value (JO _) rfl rfl ?_ | refine AU ?_ | (refine IW (fun h => ?_) (fun h => ?_) <;> try (exfalso; omega))) <;> conv => whnf)
 all_goals
   refine FIN.value h0 rfl (congrArg SV.bool ?_)
   unfold YX
   simp_all
theorem WP (s : List UInt8) (least : Int) (hs : Sm s) : Does Tryz.prog tab 209 1 [.str s, .ptr (.loc 0) 0 0 0] [] [(0, .box [.int .i64 least])] (ValK 1 (.bool (ZE s least 8 false))) := by
 refine Does.enter Z3 (g := 209) (fn := Tryz.f209) Tryz.call209 Tryz.func209 rfl 7 rfl rfl [.tmp 3] rfl ?_
 intro w0 F η0 h0
 conv => whnf
 repeat' ((first | refine CALL.value (Jx _ _ _ _ hs) rfl rfl ?_ | refine AU ?_ | (refine IW (fun h => ?_) (fun h => ?_) <;> try (exfalso; omega))) <;> conv => whnf)
 exact FIN.valueK h0 rfl rfl
def VY (i m : Nat) (L E S R : List UInt8) (v x : Nat) (P : List UInt8) : Hp := .box [.sl (.loc 1) i 1 m none, .str L, .str E, .str S, .str R, .sl (.loc 2) 0 1 v none, .sl (.loc 3) 0 1 x none, .str P]
def Uy (i m : Nat) (L E S R : List UInt8) (v x : Nat) (P : List UInt8) : Hp := .box [.sl (.loc 1) i 1 m none, .str L, .str E, .str S, .str R, .any, .any, .str P]
def XX (i m : Nat) (L E S R : List UInt8) (v x : Nat) (P : List UInt8) : Hp := .box [.sl (.loc 1) i 1 m none, .str L, .str E, .str S, .str R, .sl (.loc 4) 0 1 v none, .sl (.loc 5) 0 1 x none, .str P]
def Yg (p : List UInt8 → Bool) (ps : List (List UInt8)) (i : Nat) : Bool := match ps[i]? with | some s => p s | none => false
theorem Uz {ps : List (List UInt8)} {i : Nat} {p : List UInt8} (h : ps[i]? = some p) : ((ps.take (i + 1)).map List.length).sum = ((ps.take i).map List.length).sum + p.length := by
 obtain ⟨h1, rfl⟩ := List.getElem?_eq_some_iff.1 h
 rw [List.take_succ_eq_append_getElem h1, List.map_append, List.sum_append]; simp
abbrev XY (ps : List (List UInt8)) : Nat := (ps.map List.length).sum
theorem Yq (ps : List (List UInt8)) (i : Nat) : ((ps.take i).map List.length).sum ≤ XY ps := by
 conv => rhs; unfold XY; rw [← List.take_append_drop i ps]
 rw [List.map_append, List.sum_append]; omega
theorem Jy (g : Nat) (p : List UInt8 → Bool) (ps : List (List UInt8)) (hp : ∀ s ∈ ps, Does Tryz.prog tab g 0 [.str s] [] [] (Val (.bool (p s)))) (i m : Nat) (him : i + m = ps.length) (L E S R : List UInt8) (v x : Nat) (P : List UInt8) :
   Does Tryz.prog tab 167 4 [.ptr (.loc 0) 0 0 0, .fn (.func g) [] []] [] [(0, VY i m L E S R v x P), (1, .rows 1 (ps.map Zb))] (ValK 4 (.bool (Yg p ps i))) := by
 refine Does.enter Z3 (g := 167) (fn := Tryz.f167) Tryz.call167 Tryz.func167 rfl 21 rfl rfl [.tmp 4] rfl ?_
 intro w0 F η0 h0
 conv => whnf
 repeat' ((first | (refine GET.at (row := Zb (ps[i]'(by omega))) (by rw [List.getElem?_map, show i + (0 : Int).toNat = i by simp, List.getElem?_eq_getElem (by omega)]; rfl) ?_; conv => whnf) | refine CALL.value (hp _ (List.getElem_mem (by omega))) rfl rfl ?_ | refine AU ?_ | (refine IW (fun h => ?_) (fun h => ?_) <;> try (exfalso; omega))) <;> conv => whnf)
 · refine FIN.valueK h0 rfl (congrArg SV.bool ?_)
   unfold Yg; rw [List.getElem?_eq_getElem (by omega)]; rfl
 · refine FIN.valueK h0 rfl (congrArg SV.bool ?_)
   unfold Yg; rw [List.getElem?_eq_none (by omega)]
theorem Z3Y (least : Int) (ps : List (List UInt8)) (hp : ∀ s ∈ ps, Sm s) (i m : Nat) (him : i + m = ps.length) (L E S R : List UInt8) (v x : Nat) (P : List UInt8) :
   Does Tryz.prog tab 167 5 [.ptr (.loc 0) 0 0 0, .fn (.func 209) [] [.ptr (.loc 4) 0 0 0]] [] [(0, VY i m L E S R v x P), (1, .rows 1 (ps.map Zb)), (4, .box [.int .i64 least])] (ValK 5 (.bool (Yg (fun s => ZE s least 8 false) ps i))) := by
 refine Does.enter Z3 (g := 167) (fn := Tryz.f167) Tryz.call167 Tryz.func167 rfl 21 rfl rfl [.tmp 4] rfl ?_
 intro w0 F η0 h0
 conv => whnf
 repeat' ((first | (refine GET.at (row := Zb (ps[i]'(by omega))) (by rw [List.getElem?_map, show i + (0 : Int).toNat = i by simp, List.getElem?_eq_getElem (by omega)]; rfl) ?_; conv => whnf) | (refine CALL.looks [4] (WP (ps[i]'(by omega)) least (hp _ (List.getElem_mem (by omega)))) rfl rfl rfl rfl ⟨⟨rfl, rfl, rfl⟩, trivial⟩ ?_; conv => whnf) | refine AU ?_ | (refine IW (fun h => ?_) (fun h => ?_) <;> try (exfalso; omega))) <;> conv => whnf)
 · refine FIN.valueK h0 rfl (congrArg SV.bool ?_)
   unfold Yg; rw [List.getElem?_eq_getElem (by omega)]; rfl
 · refine FIN.valueK h0 rfl (congrArg SV.bool ?_)
   unfold Yg; rw [List.getElem?_eq_none (by omega)]
theorem Yh (ps : List (List UInt8)) (i m : Nat) (him : i + (m + 1) = ps.length) (p : List UInt8) (hp : ps[i]? = some p) (L E S R : List UInt8) (v x : Nat) (P : List UInt8) :
   Does Tryz.prog tab 171 4 [.ptr (.loc 0) 0 0 0] [(0, VY i (m + 1) L E S R v x P)] [(1, .rows 1 (ps.map Zb))] (fun r O nx => r = .str p ∧ O = [(0, VY (i + 1) m L E S R v x P)] ∧ nx = 4) := by
 refine Does.enter Z3 (g := 171) (fn := Tryz.f171) Tryz.call171 Tryz.func171 rfl 19 rfl rfl [.tmp 2] rfl ?_
 intro w0 F η0 h0
 conv => whnf
 repeat' ((first | (refine GET.at (row := Zb p) (by rw [List.getElem?_map, show i + (0 : Int).toNat = i by simp, hp]; rfl) ?_; conv => whnf) | refine AU ?_ | (refine IW (fun h => ?_) (fun h => ?_) <;> try (exfalso; omega))) <;> conv => whnf)
 exact FIN.here h0 (Oc := [(0, VY (i + 1) m L E S R v x P)]) rfl rfl rfl ⟨rfl, trivial⟩ ⟨rfl, rfl, rfl⟩
theorem Z9q (least : Int) (ps : List (List UInt8)) (hb : XY ps + ps.length ≤ 1152921504606846976) (i m : Nat) (him : i + m = ps.length) (L E S R : List UInt8) (v x : Nat) (P : List UInt8) :
   Does Tryz.prog tab 172 4 [.ptr (.loc 0) 0 0 0, .int .i64 least] [(0, VY i m L E S R v x P)] [(1, .rows 1 (ps.map Zb))]
     (fun r O nx => ∃ (n : Nat) (s : List UInt8), n = ZK (fun s => ZE s least 8 false) (ps.drop i) ∧ s.length ≤ XY ps + ps.length ∧ r = .tup [.str s, .bool (decide (n ≠ 0))] ∧ O = [(0, VY (i + n) (m - n) L E S R v x P)] ∧ nx = 4) := by
 have hsm : ∀ s ∈ ps, Sm s := by
   intro s hs
   obtain ⟨j, hj, rfl⟩ := List.getElem_of_mem hs
   have h1 := Uz (List.getElem?_eq_getElem hj)
   have h2 := Yq ps (j + 1)
   omega
 refine Does.enter Z3 (g := 172) (fn := Tryz.f172) Tryz.call172 Tryz.func172 rfl 18 rfl rfl [.tmp 4, .tmp 5] rfl ?_
 intro w0 F η0 h0
 conv => whnf
 refine LOOP.go Z3 [0, 3] (X := Nat × List UInt8) (fun y => y.1 ≤ m ∧ y.2.length ≤ ((ps.take (i + y.1)).map List.length).sum + (i + y.1) ∧ (y.1 = 0 ↔ y.2 = []) ∧ ZK (fun s => ZE s least 8 false) (ps.drop i) = y.1 + ZK (fun s => ZE s least 8 false) (ps.drop (i + y.1))) (fun y => [(6, .str y.2)]) (fun y => [(0, VY (i + y.1) (m - y.1) L E S R v x P), (4, .box [.int .i64 least])]) 5 (fun y => m - y.1) (0, []) ⟨by simp, by simp, by simp, by simp⟩ ?_
 conv => whnf
 refine ⟨by exact GOES.cA h0, ?_⟩
 rintro ⟨n, s⟩ ⟨hn, hl, h0s, hspan⟩
 dsimp only at hn hl h0s hspan ⊢
 conv => whnf
 refine CALL.here (Z3Y least ps hsm (i + n) (m - n) (by omega) L E S R v x P) rfl rfl (by first | rfl | (simp only [Z6, Z4, Z0 _ (Z1 _), Bool.and_self, Bool.and_true] <;> rfl)) (by first | rfl | (simp only [Z6, Z4, Z0 _ (Z1 _), Bool.and_self, Bool.and_true] <;> rfl)) (by repeat' (first | exact trivial | exact rfl | ((conv => whnf); refine ⟨?_, ?_⟩))) (by repeat' (first | exact trivial | exact rfl | ((conv => whnf); refine ⟨?_, ?_⟩))) rfl ?_ ?_
 · rintro r O' nx' ⟨rfl, rfl, rfl⟩; exact ⟨rfl, rfl, rfl⟩
 rintro r O' ⟨rfl, rfl, _⟩
 conv => whnf
 refine ⟨fun h => ?_, fun h => ?_⟩
 · obtain ⟨p, hp, hpm⟩ : ∃ p, ps[i + n]? = some p ∧ ZE p least 8 false = true := by
     unfold Yg at h
     cases hp : ps[i + n]? with
     | none => rw [hp] at h; cases h
     | some p => rw [hp] at h; exact ⟨p, rfl, h⟩
   have hlt := (List.getElem?_eq_some_iff.1 hp).1
   have hs1 := Uz hp
   have hs2 := Yq ps (i + n + 1)
   obtain ⟨k, hk⟩ : ∃ k, m - n = k + 1 := ⟨m - n - 1, by omega⟩
   rw [hk]
   conv => whnf
   refine CALL.here (Yh ps (i + n) k (by omega) p hp L E S R v x P) rfl rfl (by first | rfl | (simp only [Z6, Z4, Z0 _ (Z1 _), Bool.and_self, Bool.and_true] <;> rfl)) (by first | rfl | (simp only [Z6, Z4, Z0 _ (Z1 _), Bool.and_self, Bool.and_true] <;> rfl)) (by repeat' (first | exact trivial | exact rfl | ((conv => whnf); refine ⟨?_, ?_⟩))) (by repeat' (first | exact trivial | exact rfl | ((conv => whnf); refine ⟨?_, ?_⟩))) rfl ?_ ?_
   · rintro r O' nx' ⟨rfl, rfl, rfl⟩; exact ⟨rfl, rfl, rfl⟩
   rintro r O' ⟨rfl, rfl, _⟩
   conv => whnf
   repeat' ((first | refine AU ?_ | (refine IW (fun h => ?_) (fun h => ?_) <;> try (exfalso; omega))) <;> conv => whnf)
   have hsp : ZK (fun s => ZE s least 8 false) (ps.drop (i + n)) = ZK (fun s => ZE s least 8 false) (ps.drop (i + (n + 1))) + 1 := by
     rw [List.drop_eq_getElem_cons hlt]
     have : ps[i + n] = p := by
       have := List.getElem?_eq_getElem hlt
       rw [hp] at this; injection this with this; exact this.symm
     rw [this]
     simp only [ZK, hpm, if_true]
     rfl
   refine ⟨(n + 1, s ++ ([45] ++ p)), ⟨by simp only; omega, ?_, by simp, by simp only; omega⟩, by simp only; omega, ?_⟩
   · simp only [List.length_append, List.length_cons, List.length_nil]
     rw [show i + (n + 1) = i + n + 1 by omega, hs1]; omega
   · dsimp only
     rw [show i + (n + 1) = i + n + 1 by omega, show m - (n + 1) = k by omega]
     conv => whnf
     exact GOES.cA h0
 · have hsp : ZK (fun s => ZE s least 8 false) (ps.drop (i + n)) = 0 := by
     unfold Yg at h
     cases hp : ps[i + n]? with
     | none => rw [List.drop_eq_nil_of_le (by simpa using hp)]; rfl
     | some p =>
       rw [hp] at h
       have hlt := (List.getElem?_eq_some_iff.1 hp).1
       rw [List.drop_eq_getElem_cons hlt]
       have : ps[i + n] = p := by
         have := List.getElem?_eq_getElem hlt
         rw [hp] at this; injection this with this; exact this.symm
       rw [this]
       simp only [ZK]
       simp only at h
       simp [h]
   have hs2 := Yq ps (i + n)
   conv => whnf
   repeat' ((first | refine AU ?_ | (refine IW (fun h => ?_) (fun h => ?_) <;> try (exfalso; omega))) <;> conv => whnf)
   refine FIN.here h0 (rc := .tup [.str s, .bool (decide (n ≠ 0))]) (Oc := [(0, VY (i + n) (m - n) L E S R v x P)]) ?_ rfl rfl ⟨rfl, trivial⟩ ⟨n, s, by omega, by omega, rfl, rfl, rfl⟩
   show SV.tup [SV.str s, SV.bool (s != [])] = SV.tup [SV.str s, SV.bool (decide (n ≠ 0))]
   have : (s != []) = decide (n ≠ 0) := by rw [Bool.eq_iff_iff]; simp [h0s]
   rw [this]
theorem Z81 (g : Nat) (p : List UInt8 → Bool) (ps : List (List UInt8)) (hp : ∀ s ∈ ps, Does Tryz.prog tab g 0 [.str s] [] [] (Val (.bool (p s)))) (i m : Nat) (him : i + m = ps.length) (L E S R : List UInt8) (v x : Nat) (P : List UInt8) :
   Does Tryz.prog tab 167 4 [.ptr (.loc 0) 0 0 0, .fn (.func g) [] []] [] [(0, Uy i m L E S R v x P), (1, .rows 1 (ps.map Zb))] (ValK 4 (.bool (Yg p ps i))) := by
 refine Does.enter Z3 (g := 167) (fn := Tryz.f167) Tryz.call167 Tryz.func167 rfl 21 rfl rfl [.tmp 4] rfl ?_
 intro w0 F η0 h0
 conv => whnf
 repeat' ((first | (refine GET.at (row := Zb (ps[i]'(by omega))) (by rw [List.getElem?_map, show i + (0 : Int).toNat = i by simp, List.getElem?_eq_getElem (by omega)]; rfl) ?_; conv => whnf) | refine CALL.value (hp _ (List.getElem_mem (by omega))) rfl rfl ?_ | refine AU ?_ | (refine IW (fun h => ?_) (fun h => ?_) <;> try (exfalso; omega))) <;> conv => whnf)
 · refine FIN.valueK h0 rfl (congrArg SV.bool ?_)
   unfold Yg; rw [List.getElem?_eq_getElem (by omega)]; rfl
 · refine FIN.valueK h0 rfl (congrArg SV.bool ?_)
   unfold Yg; rw [List.getElem?_eq_none (by omega)]
theorem Z2x (least : Int) (ps : List (List UInt8)) (hp : ∀ s ∈ ps, Sm s) (i m : Nat) (him : i + m = ps.length) (L E S R : List UInt8) (v x : Nat) (P : List UInt8) :
   Does Tryz.prog tab 167 5 [.ptr (.loc 0) 0 0 0, .fn (.func 209) [] [.ptr (.loc 4) 0 0 0]] [] [(0, Uy i m L E S R v x P), (1, .rows 1 (ps.map Zb)), (4, .box [.int .i64 least])] (ValK 5 (.bool (Yg (fun s => ZE s least 8 false) ps i))) := by
 refine Does.enter Z3 (g := 167) (fn := Tryz.f167) Tryz.call167 Tryz.func167 rfl 21 rfl rfl [.tmp 4] rfl ?_
 intro w0 F η0 h0
 conv => whnf
 repeat' ((first | (refine GET.at (row := Zb (ps[i]'(by omega))) (by rw [List.getElem?_map, show i + (0 : Int).toNat = i by simp, List.getElem?_eq_getElem (by omega)]; rfl) ?_; conv => whnf) | (refine CALL.looks [4] (WP (ps[i]'(by omega)) least (hp _ (List.getElem_mem (by omega)))) rfl rfl rfl rfl ⟨⟨rfl, rfl, rfl⟩, trivial⟩ ?_; conv => whnf) | refine AU ?_ | (refine IW (fun h => ?_) (fun h => ?_) <;> try (exfalso; omega))) <;> conv => whnf)
 · refine FIN.valueK h0 rfl (congrArg SV.bool ?_)
   unfold Yg; rw [List.getElem?_eq_getElem (by omega)]; rfl
 · refine FIN.valueK h0 rfl (congrArg SV.bool ?_)
   unfold Yg; rw [List.getElem?_eq_none (by omega)]
theorem UA (ps : List (List UInt8)) (i m : Nat) (him : i + (m + 1) = ps.length) (p : List UInt8) (hp : ps[i]? = some p) (L E S R : List UInt8) (v x : Nat) (P : List UInt8) :
   Does Tryz.prog tab 171 4 [.ptr (.loc 0) 0 0 0] [(0, Uy i (m + 1) L E S R v x P)] [(1, .rows 1 (ps.map Zb))] (fun r O nx => r = .str p ∧ O = [(0, Uy (i + 1) m L E S R v x P)] ∧ nx = 4) := by
 refine Does.enter Z3 (g := 171) (fn := Tryz.f171) Tryz.call171 Tryz.func171 rfl 19 rfl rfl [.tmp 2] rfl ?_
 intro w0 F η0 h0
 conv => whnf
 repeat' ((first | (refine GET.at (row := Zb p) (by rw [List.getElem?_map, show i + (0 : Int).toNat = i by simp, hp]; rfl) ?_; conv => whnf) | refine AU ?_ | (refine IW (fun h => ?_) (fun h => ?_) <;> try (exfalso; omega))) <;> conv => whnf)
 exact FIN.here h0 (Oc := [(0, Uy (i + 1) m L E S R v x P)]) rfl rfl rfl ⟨rfl, trivial⟩ ⟨rfl, rfl, rfl⟩
theorem Z82 (least : Int) (ps : List (List UInt8)) (hb : XY ps + ps.length ≤ 1152921504606846976) (i m : Nat) (him : i + m = ps.length) (L E S R : List UInt8) (v x : Nat) (P : List UInt8) :
   Does Tryz.prog tab 172 4 [.ptr (.loc 0) 0 0 0, .int .i64 least] [(0, Uy i m L E S R v x P)] [(1, .rows 1 (ps.map Zb))]
     (fun r O nx => ∃ (n : Nat) (s : List UInt8), n = ZK (fun s => ZE s least 8 false) (ps.drop i) ∧ s.length ≤ XY ps + ps.length ∧ r = .tup [.str s, .bool (decide (n ≠ 0))] ∧ O = [(0, Uy (i + n) (m - n) L E S R v x P)] ∧ nx = 4) := by
 have hsm : ∀ s ∈ ps, Sm s := by
   intro s hs
   obtain ⟨j, hj, rfl⟩ := List.getElem_of_mem hs
   have h1 := Uz (List.getElem?_eq_getElem hj)
   have h2 := Yq ps (j + 1)
   omega
 refine Does.enter Z3 (g := 172) (fn := Tryz.f172) Tryz.call172 Tryz.func172 rfl 18 rfl rfl [.tmp 4, .tmp 5] rfl ?_
 intro w0 F η0 h0
 conv => whnf
 refine LOOP.go Z3 [0, 3] (X := Nat × List UInt8) (fun y => y.1 ≤ m ∧ y.2.length ≤ ((ps.take (i + y.1)).map List.length).sum + (i + y.1) ∧ (y.1 = 0 ↔ y.2 = []) ∧ ZK (fun s => ZE s least 8 false) (ps.drop i) = y.1 + ZK (fun s => ZE s least 8 false) (ps.drop (i + y.1))) (fun y => [(6, .str y.2)]) (fun y => [(0, Uy (i + y.1) (m - y.1) L E S R v x P), (4, .box [.int .i64 least])]) 5 (fun y => m - y.1) (0, []) ⟨by simp, by simp, by simp, by simp⟩ ?_
 conv => whnf
 refine ⟨by exact GOES.cA h0, ?_⟩
 rintro ⟨n, s⟩ ⟨hn, hl, h0s, hspan⟩
 dsimp only at hn hl h0s hspan ⊢
 conv => whnf
 refine CALL.here (Z2x least ps hsm (i + n) (m - n) (by omega) L E S R v x P) rfl rfl (by first | rfl | (simp only [Z6, Z4, Z0 _ (Z1 _), Bool.and_self, Bool.and_true] <;> rfl)) (by first | rfl | (simp only [Z6, Z4, Z0 _ (Z1 _), Bool.and_self, Bool.and_true] <;> rfl)) (by repeat' (first | exact trivial | exact rfl | ((conv => whnf); refine ⟨?_, ?_⟩))) (by repeat' (first | exact trivial | exact rfl | ((conv => whnf); refine ⟨?_, ?_⟩))) rfl ?_ ?_
 · rintro r O' nx' ⟨rfl, rfl, rfl⟩; exact ⟨rfl, rfl, rfl⟩
 rintro r O' ⟨rfl, rfl, _⟩
 conv => whnf
 refine ⟨fun h => ?_, fun h => ?_⟩
 · obtain ⟨p, hp, hpm⟩ : ∃ p, ps[i + n]? = some p ∧ ZE p least 8 false = true := by
     unfold Yg at h
     cases hp : ps[i + n]? with
     | none => rw [hp] at h; cases h
     | some p => rw [hp] at h; exact ⟨p, rfl, h⟩
   have hlt := (List.getElem?_eq_some_iff.1 hp).1
   have hs1 := Uz hp
   have hs2 := Yq ps (i + n + 1)
   obtain ⟨k, hk⟩ : ∃ k, m - n = k + 1 := ⟨m - n - 1, by omega⟩
   rw [hk]
   conv => whnf
   refine CALL.here (UA ps (i + n) k (by omega) p hp L E S R v x P) rfl rfl (by first | rfl | (simp only [Z6, Z4, Z0 _ (Z1 _), Bool.and_self, Bool.and_true] <;> rfl)) (by first | rfl | (simp only [Z6, Z4, Z0 _ (Z1 _), Bool.and_self, Bool.and_true] <;> rfl)) (by repeat' (first | exact trivial | exact rfl | ((conv => whnf); refine ⟨?_, ?_⟩))) (by repeat' (first | exact trivial | exact rfl | ((conv => whnf); refine ⟨?_, ?_⟩))) rfl ?_ ?_
   · rintro r O' nx' ⟨rfl, rfl, rfl⟩; exact ⟨rfl, rfl, rfl⟩
   rintro r O' ⟨rfl, rfl, _⟩
   conv => whnf
   repeat' ((first | refine AU ?_ | (refine IW (fun h => ?_) (fun h => ?_) <;> try (exfalso; omega))) <;> conv => whnf)
   have hsp : ZK (fun s => ZE s least 8 false) (ps.drop (i + n)) = ZK (fun s => ZE s least 8 false) (ps.drop (i + (n + 1))) + 1 := by
     rw [List.drop_eq_getElem_cons hlt]
     have : ps[i + n] = p := by
       have := List.getElem?_eq_getElem hlt
       rw [hp] at this; injection this with this; exact this.symm
     rw [this]
     simp only [ZK, hpm, if_true]
     rfl
   refine ⟨(n + 1, s ++ ([45] ++ p)), ⟨by simp only; omega, ?_, by simp, by simp only; omega⟩, by simp only; omega, ?_⟩
   · simp only [List.length_append, List.length_cons, List.length_nil]
     rw [show i + (n + 1) = i + n + 1 by omega, hs1]; omega
   · dsimp only
     rw [show i + (n + 1) = i + n + 1 by omega, show m - (n + 1) = k by omega]
     conv => whnf
     exact GOES.cA h0
 · have hsp : ZK (fun s => ZE s least 8 false) (ps.drop (i + n)) = 0 := by
     unfold Yg at h
     cases hp : ps[i + n]? with
     | none => rw [List.drop_eq_nil_of_le (by simpa using hp)]; rfl
     | some p =>
       rw [hp] at h
       have hlt := (List.getElem?_eq_some_iff.1 hp).1
       rw [List.drop_eq_getElem_cons hlt]
       have : ps[i + n] = p := by
         have := List.getElem?_eq_getElem hlt
         rw [hp] at this; injection this with this; exact this.symm
       rw [this]
       simp only [ZK]
       simp only at h
       simp [h]
   have hs2 := Yq ps (i + n)
   conv => whnf
   repeat' ((first | refine AU ?_ | (refine IW (fun h => ?_) (fun h => ?_) <;> try (exfalso; omega))) <;> conv => whnf)
   refine FIN.here h0 (rc := .tup [.str s, .bool (decide (n ≠ 0))]) (Oc := [(0, Uy (i + n) (m - n) L E S R v x P)]) ?_ rfl rfl ⟨rfl, trivial⟩ ⟨n, s, by omega, by omega, rfl, rfl, rfl⟩
   show SV.tup [SV.str s, SV.bool (s != [])] = SV.tup [SV.str s, SV.bool (decide (n ≠ 0))]
   have : (s != []) = decide (n ≠ 0) := by rw [Bool.eq_iff_iff]; simp [h0s]
   rw [this]
theorem Xc (g : Nat) (p : List UInt8 → Bool) (ps : List (List UInt8)) (hp : ∀ s ∈ ps, Does Tryz.prog tab g 0 [.str s] [] [] (Val (.bool (p s)))) (i m : Nat) (him : i + m = ps.length) (L E S R : List UInt8) (v x : Nat) (P : List UInt8) :
   Does Tryz.prog tab 167 7 [.ptr (.loc 0) 0 0 0, .fn (.func g) [] []] [] [(0, XX i m L E S R v x P), (1, .rows 1 (ps.map Zb))] (ValK 7 (.bool (Yg p ps i))) := by
 refine Does.enter Z3 (g := 167) (fn := Tryz.f167) Tryz.call167 Tryz.func167 rfl 21 rfl rfl [.tmp 4] rfl ?_
 intro w0 F η0 h0
 conv => whnf
 repeat' ((first | (refine GET.at (row := Zb (ps[i]'(by omega))) (by rw [List.getElem?_map, show i + (0 : Int).toNat = i by simp, List.getElem?_eq_getElem (by omega)]; rfl) ?_; conv => whnf) | refine CALL.value (hp _ (List.getElem_mem (by omega))) rfl rfl ?_ | refine AU ?_ | (refine IW (fun h => ?_) (fun h => ?_) <;> try (exfalso; omega))) <;> conv => whnf)
 · refine FIN.valueK h0 rfl (congrArg SV.bool ?_)
   unfold Yg; rw [List.getElem?_eq_getElem (by omega)]; rfl
 · refine FIN.valueK h0 rfl (congrArg SV.bool ?_)
   unfold Yg; rw [List.getElem?_eq_none (by omega)]
theorem Z2y (least : Int) (ps : List (List UInt8)) (hp : ∀ s ∈ ps, Sm s) (i m : Nat) (him : i + m = ps.length) (L E S R : List UInt8) (v x : Nat) (P : List UInt8) :
   Does Tryz.prog tab 167 8 [.ptr (.loc 0) 0 0 0, .fn (.func 209) [] [.ptr (.loc 7) 0 0 0]] [] [(0, XX i m L E S R v x P), (1, .rows 1 (ps.map Zb)), (7, .box [.int .i64 least])] (ValK 8 (.bool (Yg (fun s => ZE s least 8 false) ps i))) := by
 refine Does.enter Z3 (g := 167) (fn := Tryz.f167) Tryz.call167 Tryz.func167 rfl 21 rfl rfl [.tmp 4] rfl ?_
 intro w0 F η0 h0
 conv => whnf
 repeat' ((first | (refine GET.at (row := Zb (ps[i]'(by omega))) (by rw [List.getElem?_map, show i + (0 : Int).toNat = i by simp, List.getElem?_eq_getElem (by omega)]; rfl) ?_; conv => whnf) | (refine CALL.looks [7] (WP (ps[i]'(by omega)) least (hp _ (List.getElem_mem (by omega)))) rfl rfl rfl rfl ⟨⟨rfl, rfl, rfl⟩, trivial⟩ ?_; conv => whnf) | refine AU ?_ | (refine IW (fun h => ?_) (fun h => ?_) <;> try (exfalso; omega))) <;> conv => whnf)
 · refine FIN.valueK h0 rfl (congrArg SV.bool ?_)
   unfold Yg; rw [List.getElem?_eq_getElem (by omega)]; rfl
 · refine FIN.valueK h0 rfl (congrArg SV.bool ?_)
   unfold Yg; rw [List.getElem?_eq_none (by omega)]
theorem ZU (ps : List (List UInt8)) (i m : Nat) (him : i + (m + 1) = ps.length) (p : List UInt8) (hp : ps[i]? = some p) (L E S R : List UInt8) (v x : Nat) (P : List UInt8) :
   Does Tryz.prog tab 171 7 [.ptr (.loc 0) 0 0 0] [(0, XX i (m + 1) L E S R v x P)] [(1, .rows 1 (ps.map Zb))] (fun r O nx => r = .str p ∧ O = [(0, XX (i + 1) m L E S R v x P)] ∧ nx = 7) := by
 refine Does.enter Z3 (g := 171) (fn := Tryz.f171) Tryz.call171 Tryz.func171 rfl 19 rfl rfl [.tmp 2] rfl ?_
 intro w0 F η0 h0
 conv => whnf
 repeat' ((first | (refine GET.at (row := Zb p) (by rw [List.getElem?_map, show i + (0 : Int).toNat = i by simp, hp]; rfl) ?_; conv => whnf) | refine AU ?_ | (refine IW (fun h => ?_) (fun h => ?_) <;> try (exfalso; omega))) <;> conv => whnf)
 exact FIN.here h0 (Oc := [(0, XX (i + 1) m L E S R v x P)]) rfl rfl rfl ⟨rfl, trivial⟩ ⟨rfl, rfl, rfl⟩
theorem Uk (least : Int) (ps : List (List UInt8)) (hb : XY ps + ps.length ≤ 1152921504606846976) (i m : Nat) (him : i + m = ps.length) (L E S R : List UInt8) (v x : Nat) (P : List UInt8) :
   Does Tryz.prog tab 172 7 [.ptr (.loc 0) 0 0 0, .int .i64 least] [(0, XX i m L E S R v x P)] [(1, .rows 1 (ps.map Zb))]
     (fun r O nx => ∃ (n : Nat) (s : List UInt8), n = ZK (fun s => ZE s least 8 false) (ps.drop i) ∧ s.length ≤ XY ps + ps.length ∧ r = .tup [.str s, .bool (decide (n ≠ 0))] ∧ O = [(0, XX (i + n) (m - n) L E S R v x P)] ∧ nx = 7) := by
 have hsm : ∀ s ∈ ps, Sm s := by
   intro s hs
   obtain ⟨j, hj, rfl⟩ := List.getElem_of_mem hs
   have h1 := Uz (List.getElem?_eq_getElem hj)
   have h2 := Yq ps (j + 1)
   omega
 refine Does.enter Z3 (g := 172) (fn := Tryz.f172) Tryz.call172 Tryz.func172 rfl 18 rfl rfl [.tmp 4, .tmp 5] rfl ?_
 intro w0 F η0 h0
 conv => whnf
 refine LOOP.go Z3 [0, 3] (X := Nat × List UInt8) (fun y => y.1 ≤ m ∧ y.2.length ≤ ((ps.take (i + y.1)).map List.length).sum + (i + y.1) ∧ (y.1 = 0 ↔ y.2 = []) ∧ ZK (fun s => ZE s least 8 false) (ps.drop i) = y.1 + ZK (fun s => ZE s least 8 false) (ps.drop (i + y.1))) (fun y => [(6, .str y.2)]) (fun y => [(0, XX (i + y.1) (m - y.1) L E S R v x P), (7, .box [.int .i64 least])]) 8 (fun y => m - y.1) (0, []) ⟨by simp, by simp, by simp, by simp⟩ ?_
 conv => whnf
 refine ⟨by exact GOES.cA h0, ?_⟩
 rintro ⟨n, s⟩ ⟨hn, hl, h0s, hspan⟩
 dsimp only at hn hl h0s hspan ⊢
 conv => whnf
 refine CALL.here (Z2y least ps hsm (i + n) (m - n) (by omega) L E S R v x P) rfl rfl (by first | rfl | (simp only [Z6, Z4, Z0 _ (Z1 _), Bool.and_self, Bool.and_true] <;> rfl)) (by first | rfl | (simp only [Z6, Z4, Z0 _ (Z1 _), Bool.and_self, Bool.and_true] <;> rfl)) (by repeat' (first | exact trivial | exact rfl | ((conv => whnf); refine ⟨?_, ?_⟩))) (by repeat' (first | exact trivial | exact rfl | ((conv => whnf); refine ⟨?_, ?_⟩))) rfl ?_ ?_
 · rintro r O' nx' ⟨rfl, rfl, rfl⟩; exact ⟨rfl, rfl, rfl⟩
 rintro r O' ⟨rfl, rfl, _⟩
 conv => whnf
 refine ⟨fun h => ?_, fun h => ?_⟩
 · obtain ⟨p, hp, hpm⟩ : ∃ p, ps[i + n]? = some p ∧ ZE p least 8 false = true := by
     unfold Yg at h
     cases hp : ps[i + n]? with
     | none => rw [hp] at h; cases h
     | some p => rw [hp] at h; exact ⟨p, rfl, h⟩
   have hlt := (List.getElem?_eq_some_iff.1 hp).1
   have hs1 := Uz hp
   have hs2 := Yq ps (i + n + 1)
   obtain ⟨k, hk⟩ : ∃ k, m - n = k + 1 := ⟨m - n - 1, by omega⟩
   rw [hk]
   conv => whnf
   refine CALL.here (ZU ps (i + n) k (by omega) p hp L E S R v x P) rfl rfl (by first | rfl | (simp only [Z6, Z4, Z0 _ (Z1 _), Bool.and_self, Bool.and_true] <;> rfl)) (by first | rfl | (simp only [Z6, Z4, Z0 _ (Z1 _), Bool.and_self, Bool.and_true] <;> rfl)) (by repeat' (first | exact trivial | exact rfl | ((conv => whnf); refine ⟨?_, ?_⟩))) (by repeat' (first | exact trivial | exact rfl | ((conv => whnf); refine ⟨?_, ?_⟩))) rfl ?_ ?_
   · rintro r O' nx' ⟨rfl, rfl, rfl⟩; exact ⟨rfl, rfl, rfl⟩
   rintro r O' ⟨rfl, rfl, _⟩
   conv => whnf
   repeat' ((first | refine AU ?_ | (refine IW (fun h => ?_) (fun h => ?_) <;> try (exfalso; omega))) <;> conv => whnf)
   have hsp : ZK (fun s => ZE s least 8 false) (ps.drop (i + n)) = ZK (fun s => ZE s least 8 false) (ps.drop (i + (n + 1))) + 1 := by
     rw [List.drop_eq_getElem_cons hlt]
     have : ps[i + n] = p := by
       have := List.getElem?_eq_getElem hlt
       rw [hp] at this; injection this with this; exact this.symm
     rw [this]
     simp only [ZK, hpm, if_true]
     rfl
   refine ⟨(n + 1, s ++ ([45] ++ p)), ⟨by simp only; omega, ?_, by simp, by simp only; omega⟩, by simp only; omega, ?_⟩
   · simp only [List.length_append, List.length_cons, List.length_nil]
     rw [show i + (n + 1) = i + n + 1 by omega, hs1]; omega
   · dsimp only
     rw [show i + (n + 1) = i + n + 1 by omega, show m - (n + 1) = k by omega]
     conv => whnf
     exact GOES.cA h0
 · have hsp : ZK (fun s => ZE s least 8 false) (ps.drop (i + n)) = 0 := by
     unfold Yg at h
     cases hp : ps[i + n]? with
     | none => rw [List.drop_eq_nil_of_le (by simpa using hp)]; rfl
     | some p =>
       rw [hp] at h
       have hlt := (List.getElem?_eq_some_iff.1 hp).1
       rw [List.drop_eq_getElem_cons hlt]
       have : ps[i + n] = p := by
         have := List.getElem?_eq_getElem hlt
         rw [hp] at this; injection this with this; exact this.symm
       rw [this]
       simp only [ZK]
       simp only at h
       simp [h]
   have hs2 := Yq ps (i + n)
   conv => whnf
   repeat' ((first | refine AU ?_ | (refine IW (fun h => ?_) (fun h => ?_) <;> try (exfalso; omega))) <;> conv => whnf)
   refine FIN.here h0 (rc := .tup [.str s, .bool (decide (n ≠ 0))]) (Oc := [(0, XX (i + n) (m - n) L E S R v x P)]) ?_ rfl rfl ⟨rfl, trivial⟩ ⟨n, s, by omega, by omega, rfl, rfl, rfl⟩
   show SV.tup [SV.str s, SV.bool (s != [])] = SV.tup [SV.str s, SV.bool (decide (n ≠ 0))]
   have : (s != []) = decide (n ≠ 0) := by rw [Bool.eq_iff_iff]; simp [h0s]
   rw [this]
def Z3Z : Plan := (.take 0 1 (.take 1 1 (.take 2 1 (.take 3 1 (.take 5 1 (.fork 4 3 6 0 (ZO [(6, 0), (7, 1), (8, 1), (9, 1), (10, 1), (11, 0)]) (ZO [(4, 2), (7, 1), (8, 1), (9, 1), (10, 1), (11, 0)])))))))
theorem UV {ps : List (List UInt8)} (hb : XY ps + ps.length ≤ 1152921504606846976) : ∀ s ∈ ps, Sm s := by
 intro s hs
 obtain ⟨j, hj, rfl⟩ := List.getElem_of_mem hs
 have h1 := Uz (List.getElem?_eq_getElem hj)
 have h2 := Yq ps (j + 1)
 omega
theorem ZH {p : List UInt8 → Bool} {ps : List (List UInt8)} {i : Nat} (h : Yg p ps i = true) : ∃ s, ps[i]? = some s ∧ p s = true := by
 unfold Yg at h
 cases hp : ps[i]? with
 | none => rw [hp] at h; cases h
 | some s => rw [hp] at h; exact ⟨s, rfl, h⟩
theorem ZM {ps : List (List UInt8)} {i : Nat} {s : List UInt8} (h : ps[i]? = some s) : ps.drop i = s :: ps.drop (i + 1) := by
 obtain ⟨h1, rfl⟩ := List.getElem?_eq_some_iff.1 h
 exact List.drop_eq_getElem_cons h1
theorem X8 {p : List UInt8 → Bool} {ps : List (List UInt8)} {i : Nat} (h : Yg p ps i = false) : ps.drop i = [] ∨ ∃ s, ps[i]? = some s ∧ ps.drop i = s :: ps.drop (i + 1) ∧ p s = false := by
 unfold Yg at h
 cases hp : ps[i]? with
 | none => exact .inl (List.drop_eq_nil_of_le (by simpa using hp))
 | some s => rw [hp] at h; exact .inr ⟨s, rfl, ZM hp, h⟩
theorem Zb4 {n : Nat} {ps : List (List UInt8)} {i : Nat} (h : Yg (fun s => ZE s 3 3 true) ps i = false) : extP n (ps.drop i) = ps.drop i := by
 rcases X8 h with h | ⟨s, _, h1, h2⟩
 · rw [h]; cases n <;> rfl
 · rw [h1]; cases n with
   | zero => rfl
   | succ n => simp only [extP]; simp [h2]
theorem XN {s : List UInt8} {a b : Int} {pure : Bool} (h : ZE s a b pure = true) : a ≤ s.length ∧ (s.length : Int) ≤ b := by
 unfold ZE at h; simp at h; omega
theorem Z40 (ps : List (List UInt8)) (hb : XY ps + ps.length ≤ 1152921504606846976) (i m : Nat) (him : i + m = ps.length) (S R : List UInt8) (v x : Nat) (P : List UInt8) :
   Does Tryz.prog tab 169 4 [.ptr (.loc 0) 0 0 0] [(0, VY i m [] [] S R v x P)] [(1, .rows 1 (ps.map Zb))]
     (fun r O nx => ∃ (i' m' : Nat) (L E : List UInt8), i' + m' = ps.length ∧ r = .bool (J4 (ps.drop i)).isSome ∧ (∀ l, J4 (ps.drop i) = some l → l = ps.drop i') ∧ O = [(0, VY i' m' L E S R v x P)] ∧ nx = 4) := by
 have hsm := UV hb
 refine Does.enter Z3 (g := 169) (fn := Tryz.f169) Tryz.call169 Tryz.func169 rfl 50 rfl rfl [.tmp 2] rfl ?_
 intro w0 F η0 h0
 conv => whnf
 refine CALL.here (Jy 201 _ ps (fun s hs => Z7Y s (hsm s hs)) i m him [] [] S R v x P) rfl rfl (by first | rfl | (simp only [Z6, Z4, Z0 _ (Z1 _), Bool.and_self, Bool.and_true] <;> rfl)) (by first | rfl | (simp only [Z6, Z4, Z0 _ (Z1 _), Bool.and_self, Bool.and_true] <;> rfl)) (by repeat' (first | exact trivial | exact rfl | ((conv => whnf); refine ⟨?_, ?_⟩))) (by repeat' (first | exact trivial | exact rfl | ((conv => whnf); refine ⟨?_, ?_⟩))) rfl ?_ ?_
 · rintro r O' nx' ⟨rfl, rfl, rfl⟩; exact ⟨rfl, rfl, rfl⟩
 rintro r O' ⟨rfl, rfl, _⟩
 conv => whnf
 refine IF.mk (fun h => ?_) (fun h => ?_)
 · conv => whnf
   have h : Yg (fun s => ZE s 2 8 true) ps i = false := by simpa using h
   have hn : J4 (ps.drop i) = none := by
     rcases X8 h with h | ⟨s, _, h1, h2⟩
     · rw [h]; rfl
     · rw [h1]; simp only [J4]; simp [h2]
   exact FIN.here h0 (Oc := [(0, VY i m [] [] S R v x P)]) rfl rfl rfl ⟨rfl, trivial⟩ ⟨i, m, [], [], him, by rw [hn]; rfl, by simp [hn], rfl, rfl⟩
 have h : Yg (fun s => ZE s 2 8 true) ps i = true := by simpa using h
 obtain ⟨p, hp, hpm⟩ := ZH h
 have hlt := (List.getElem?_eq_some_iff.1 hp).1
 have hd := ZM hp
 obtain ⟨k, rfl⟩ : ∃ k, m = k + 1 := ⟨m - 1, by omega⟩
 have hlen := XN hpm
 conv => whnf
 refine CALL.here (Yh ps i k him p hp [] [] S R v x P) rfl rfl (by first | rfl | (simp only [Z6, Z4, Z0 _ (Z1 _), Bool.and_self, Bool.and_true] <;> rfl)) (by first | rfl | (simp only [Z6, Z4, Z0 _ (Z1 _), Bool.and_self, Bool.and_true] <;> rfl)) (by repeat' (first | exact trivial | exact rfl | ((conv => whnf); refine ⟨?_, ?_⟩))) (by repeat' (first | exact trivial | exact rfl | ((conv => whnf); refine ⟨?_, ?_⟩))) rfl ?_ ?_
 · rintro r O' nx' ⟨rfl, rfl, rfl⟩; exact ⟨rfl, rfl, rfl⟩
 rintro r O' ⟨rfl, rfl, _⟩
 conv => whnf
 refine IF.mk (fun h => ?_) (fun h => ?_)
 · conv => whnf
   have h : 3 < p.length := by simp at h; omega
   exact FIN.here h0 (Oc := [(0, VY (i + 1) k p [] S R v x P)]) rfl rfl rfl ⟨rfl, trivial⟩ ⟨i + 1, k, p, [], by omega, by rw [hd]; simp only [J4]; simp [hpm, h], by rw [hd]; simp only [J4]; simp [hpm, h], rfl, rfl⟩
 have h : ¬ 3 < p.length := by simp at h; omega
 have hL : J4 (ps.drop i) = some (extP 3 (ps.drop (i + 1))) := by rw [hd]; simp only [J4]; rw [if_pos hpm, if_neg h]
 conv => whnf
 refine LOOP.go Z3 [0] (X := Nat × List UInt8 × Nat) (fun y => y.1 ≤ 3 ∧ y.2.1.length ≤ 4 * y.1 ∧ y.2.2 + (ps.length - y.2.2) = ps.length ∧ extP 3 (ps.drop (i + 1)) = extP (3 - y.1) (ps.drop y.2.2)) (fun y => [(3, .int .i64 (y.1 : Int))]) (fun y => [(0, VY y.2.2 (ps.length - y.2.2) p y.2.1 S R v x P)]) 4 (fun y => 3 - y.1) (0, [], i + 1) ⟨by simp, by simp, by simp only; omega, rfl⟩ ?_
 conv => whnf
 rw [show ps.length - (i + 1) = k by omega]
 refine ⟨by exact GOES.cA h0, ?_⟩
 rintro ⟨c, E, a⟩ ⟨hc, hE, ha, hx⟩
 dsimp only at hc hE ha hx ⊢
 conv => whnf
 have fin : Yg (fun s => ZE s 3 3 true) ps a = false ∨ c = 3 → extP 3 (ps.drop (i + 1)) = ps.drop a := by
   rintro (h | h)
   · rw [hx, Zb4 h]
   · subst h; rw [hx]; rfl
 refine IF.mk (fun h => ?_) (fun h => ?_)
 · have h : c < 3 := by simp at h; omega
   conv => whnf
   repeat' ((first | refine AU ?_ | (refine IW (fun h => ?_) (fun h => ?_) <;> try (exfalso; omega))) <;> conv => whnf)
   refine CALL.here (Jy 203 _ ps (fun s hs => Z7Z s (hsm s hs)) a (ps.length - a) ha p E S R v x P) rfl rfl (by first | rfl | (simp only [Z6, Z4, Z0 _ (Z1 _), Bool.and_self, Bool.and_true] <;> rfl)) (by first | rfl | (simp only [Z6, Z4, Z0 _ (Z1 _), Bool.and_self, Bool.and_true] <;> rfl)) (by repeat' (first | exact trivial | exact rfl | ((conv => whnf); refine ⟨?_, ?_⟩))) (by repeat' (first | exact trivial | exact rfl | ((conv => whnf); refine ⟨?_, ?_⟩))) rfl ?_ ?_
   · rintro r O' nx' ⟨rfl, rfl, rfl⟩; exact ⟨rfl, rfl, rfl⟩
   rintro r O' ⟨rfl, rfl, _⟩
   conv => whnf
   repeat' ((first | refine AU ?_ | (refine IW (fun h => ?_) (fun h => ?_) <;> try (exfalso; omega))) <;> conv => whnf)
   · obtain ⟨q, hq, hqm⟩ := ZH (by assumption)
     have hql := XN hqm
     obtain ⟨k', hk'⟩ : ∃ k', ps.length - a = k' + 1 := ⟨ps.length - a - 1, by have := (List.getElem?_eq_some_iff.1 hq).1; omega⟩
     rw [hk']
     repeat' ((first | refine DRAWN.of (id := 11) Z3 mixed Z3Z (by kernel_rfl) ?_ | refine ADD.mk (fun _ _ => ?_) | refine AD ?_ | refine FORK.mk ?_ ?_ | refine AU ?_ | (refine IW (fun h => ?_) (fun h => ?_) <;> try (exfalso; omega))) <;> conv => whnf)
     all_goals
       refine CALL.here (Yh ps a k' (by omega) q hq p (E ++ [45]) S R v x P) rfl rfl (by first | rfl | (simp only [Z6, Z4, Z0 _ (Z1 _), Bool.and_self, Bool.and_true] <;> rfl)) (by first | rfl | (simp only [Z6, Z4, Z0 _ (Z1 _), Bool.and_self, Bool.and_true] <;> rfl)) (by repeat' (first | exact trivial | exact rfl | ((conv => whnf); refine ⟨?_, ?_⟩))) (by repeat' (first | exact trivial | exact rfl | ((conv => whnf); refine ⟨?_, ?_⟩))) rfl ?_ ?_
       · rintro r O' nx' ⟨rfl, rfl, rfl⟩; exact ⟨rfl, rfl, rfl⟩
       rintro r O' ⟨rfl, rfl, _⟩
       conv => whnf
       repeat' ((first | refine DRAWN.of (id := 11) Z3 mixed Z3Z (by kernel_rfl) ?_ | refine ADD.mk (fun _ _ => ?_) | refine AD ?_ | refine FORK.mk ?_ ?_ | refine AU ?_ | (refine IW (fun h => ?_) (fun h => ?_) <;> try (exfalso; omega))) <;> conv => whnf)
       refine ⟨(c + 1, (E ++ [45]) ++ q, a + 1), ⟨by simp only; omega, by simp only [List.length_append, List.length_cons, List.length_nil]; omega, by simp only; omega, ?_⟩, by simp only; omega, ?_⟩
       · rw [hx, ZM hq, show 3 - c = (3 - (c + 1)) + 1 by omega]; simp only [extP]; rw [if_pos hqm]
       · dsimp only
         rw [show ps.length - (a + 1) = k' by omega]
         conv => whnf
         exact GOES.cA h0
   · obtain ⟨q, hq, hqm⟩ := ZH (by assumption)
     have hql := XN hqm
     obtain ⟨k', hk'⟩ : ∃ k', ps.length - a = k' + 1 := ⟨ps.length - a - 1, by have := (List.getElem?_eq_some_iff.1 hq).1; omega⟩
     rw [hk']
     have hc0 : c = 0 := by omega
     repeat' ((first | refine DRAWN.of (id := 11) Z3 mixed Z3Z (by kernel_rfl) ?_ | refine ADD.mk (fun _ _ => ?_) | refine AD ?_ | refine FORK.mk ?_ ?_ | refine AU ?_ | (refine IW (fun h => ?_) (fun h => ?_) <;> try (exfalso; omega))) <;> conv => whnf)
     all_goals
       refine CALL.here (Yh ps a k' (by omega) q hq p (E) S R v x P) rfl rfl (by first | rfl | (simp only [Z6, Z4, Z0 _ (Z1 _), Bool.and_self, Bool.and_true] <;> rfl)) (by first | rfl | (simp only [Z6, Z4, Z0 _ (Z1 _), Bool.and_self, Bool.and_true] <;> rfl)) (by repeat' (first | exact trivial | exact rfl | ((conv => whnf); refine ⟨?_, ?_⟩))) (by repeat' (first | exact trivial | exact rfl | ((conv => whnf); refine ⟨?_, ?_⟩))) rfl ?_ ?_
       · rintro r O' nx' ⟨rfl, rfl, rfl⟩; exact ⟨rfl, rfl, rfl⟩
       rintro r O' ⟨rfl, rfl, _⟩
       conv => whnf
       repeat' ((first | refine DRAWN.of (id := 11) Z3 mixed Z3Z (by kernel_rfl) ?_ | refine ADD.mk (fun _ _ => ?_) | refine AD ?_ | refine FORK.mk ?_ ?_ | refine AU ?_ | (refine IW (fun h => ?_) (fun h => ?_) <;> try (exfalso; omega))) <;> conv => whnf)
       refine ⟨(c + 1, (E) ++ q, a + 1), ⟨by simp only; omega, by simp only [List.length_append, List.length_cons, List.length_nil]; omega, by simp only; omega, ?_⟩, by simp only; omega, ?_⟩
       · rw [hx, ZM hq, show 3 - c = (3 - (c + 1)) + 1 by omega]; simp only [extP]; rw [if_pos hqm]
       · dsimp only
         rw [show ps.length - (a + 1) = k' by omega]
         conv => whnf
         exact GOES.cA h0
   · exact FIN.here h0 (Oc := [(0, VY a (ps.length - a) p E S R v x P)]) rfl rfl rfl ⟨rfl, trivial⟩ ⟨a, ps.length - a, p, E, ha, by rw [hL]; rfl, by rw [hL]; rintro l ⟨⟩; exact fin (.inl (by assumption)), rfl, rfl⟩
 · have h : c = 3 := by simp at h; omega
   conv => whnf
   repeat' ((first | refine AU ?_ | (refine IW (fun h => ?_) (fun h => ?_) <;> try (exfalso; omega))) <;> conv => whnf)
   exact FIN.here h0 (Oc := [(0, VY a (ps.length - a) p E S R v x P)]) rfl rfl rfl ⟨rfl, trivial⟩ ⟨a, ps.length - a, p, E, ha, by rw [hL]; rfl, by rw [hL]; rintro l ⟨⟩; exact fin (.inr h), rfl, rfl⟩
theorem WQ {p : List UInt8 → Bool} {ps : List (List UInt8)} {i : Nat} (h : Yg p ps i = false) : Xw p (ps.drop i) = ps.drop i := by
 rcases X8 h with h | ⟨s, _, h1, h2⟩
 · rw [h]; rfl
 · rw [h1]; simp only [Xw]; rw [if_neg (by simp [h2])]
theorem JQ {p : List UInt8 → Bool} {ps : List (List UInt8)} {i : Nat} {s : List UInt8} (h : ps[i]? = some s) (hp : p s = true) : Xw p (ps.drop i) = ps.drop (i + 1) := by
 rw [ZM h]; simp only [Xw]; rw [if_pos hp]
theorem Z41 (l : List (List UInt8)) (s : List UInt8) (hl : l.length ≤ 1152921504606846976) : Does Tryz.prog tab 236 1 [.sl (.loc 0) 0 1 l.length none, .str s] [] [(0, .rows 1 (l.map Zb))]
   (fun r O nx => ∃ n : Int, (0 ≤ n ↔ s ∈ l) ∧ r = .int .i64 n ∧ O = [] ∧ nx = 1) := by
 refine Does.enter Z3 (g := 236) (fn := Tryz.f236) Tryz.call236 Tryz.func236 rfl 19 rfl rfl [.tmp 4] rfl ?_
 intro w0 F η0 h0
 conv => whnf
 refine LOOP.go Z3 [0, 1, 7] (X := Nat) (fun i => i ≤ l.length ∧ s ∉ l.take i) (fun i => [(8, .int .i64 (i : Int))]) (fun i => []) 1 (fun i => l.length - i) 0 ⟨by omega, by simp⟩ ?_
 conv => whnf
 refine ⟨by exact GOES.cA h0, ?_⟩
 rintro i ⟨hi, hc⟩
 conv => whnf
 repeat' ((first | (refine GET.at (row := Zb (l[i]'(by omega))) (by rw [List.getElem?_map, show 0 + (i : Int).toNat = i by omega, List.getElem?_eq_getElem (by omega)]; rfl) ?_; conv => whnf) | refine AU ?_ | (refine IW (fun h => ?_) (fun h => ?_) <;> try (exfalso; omega))) <;> conv => whnf)
 · have hl : i < l.length := by omega
   exact FIN.val h0 rfl ⟨i, ⟨fun _ => by subst h; exact List.getElem_mem hl, fun _ => by omega⟩, rfl, rfl, rfl⟩
 · have hl : i < l.length := by omega
   refine ⟨i + 1, ⟨by omega, ?_⟩, by omega, ?_⟩
   · rw [List.take_succ_eq_append_getElem hl]
     simp only [List.mem_append, List.mem_singleton]
     rintro (h1 | h1)
     · exact hc h1
     · exact h h1
   · conv => whnf
     exact GOES.cA h0
 · refine FIN.val h0 rfl ⟨-1, ⟨fun h => by omega, fun h1 => ?_⟩, rfl, rfl, rfl⟩
   rw [List.take_of_length_le (by omega)] at hc
   exact (hc h1).elim
theorem Yi (l : List (List UInt8)) (s : List UInt8) (hl : l.length ≤ 1152921504606846976) : Does Tryz.prog tab 207 1 [.sl (.loc 0) 0 1 l.length none, .str s] [] [(0, .rows 1 (l.map Zb))] (ValK 1 (.bool (decide (s ∈ l)))) := by
 refine Does.enter Z3 (g := 207) (fn := Tryz.f207) Tryz.call207 Tryz.func207 rfl 9 rfl rfl [.tmp 4] rfl ?_
 intro w0 F η0 h0
 conv => whnf
 refine CALL.here (Z41 l s hl) rfl rfl (by first | rfl | (simp only [Z6, Z4, Z0 _ (Z1 _), Bool.and_self, Bool.and_true] <;> rfl)) (by first | rfl | (simp only [Z6, Z4, Z0 _ (Z1 _), Bool.and_self, Bool.and_true] <;> rfl)) (by repeat' (first | exact trivial | exact rfl | ((conv => whnf); refine ⟨?_, ?_⟩))) (by repeat' (first | exact trivial | exact rfl | ((conv => whnf); refine ⟨?_, ?_⟩))) rfl ?_ ?_
 · rintro r O' nx' ⟨n, _, rfl, rfl, rfl⟩; exact ⟨rfl, rfl, rfl⟩
 rintro r O' ⟨n, hn, rfl, rfl, _⟩
 conv => whnf
 exact FIN.valueK h0 rfl (congrArg SV.bool (decide_eq_decide.2 hn))
def orE : List Int → Int
 | [] => 0
 | a :: l => if a ≠ 0 then a else orE l
def Z9r (a : Int) : List SV := [.int .i64 a]
theorem Z42 (xs : List Int) (hn : xs.length ≤ 1152921504606846976) : Does Tryz.prog tab 138 1 [.sl (.loc 0) 0 1 xs.length none] [] [(0, .rows 1 (xs.map Z9r))] (ValK 1 (.int .i64 (orE xs))) := by
 refine Does.enter Z3 (g := 138) (fn := Tryz.f138) Tryz.call138 Tryz.func138 rfl 18 rfl rfl [.tmp 2] rfl ?_
 intro w0 F η0 h0
 conv => whnf
 refine LOOP.go Z3 [3, 6, 7] (X := Nat) (fun i => i ≤ xs.length ∧ orE xs = orE (xs.drop i)) (fun i => [(8, .int .i64 (i : Int))]) (fun i => []) 1 (fun i => xs.length - i) 0 ⟨by omega, rfl⟩ ?_
 conv => whnf
 refine ⟨by exact GOES.cA h0, ?_⟩
 rintro i ⟨hi, ho⟩
 conv => whnf
 repeat' ((first | (refine GET.at (row := Z9r (xs[i]'(by omega))) (by rw [List.getElem?_map, show 0 + (i : Int).toNat = i by omega, List.getElem?_eq_getElem (by omega)]; rfl) ?_; conv => whnf) | refine AU ?_ | (refine IW (fun h => ?_) (fun h => ?_) <;> try (exfalso; omega))) <;> conv => whnf)
 · have hl : i < xs.length := by omega
   refine FIN.valueK h0 rfl (congrArg (SV.int _) ?_)
   rw [ho, List.drop_eq_getElem_cons hl]; simp only [orE]; rw [if_pos h]
 · have hl : i < xs.length := by omega
   refine ⟨i + 1, ⟨by omega, ?_⟩, by omega, ?_⟩
   · rw [ho, List.drop_eq_getElem_cons hl]; simp only [orE]; rw [if_neg (by simpa using h)]
   · conv => whnf
     exact GOES.cA h0
 · refine FIN.valueK h0 rfl (congrArg (SV.int _) ?_)
   rw [ho, List.drop_eq_nil_of_le (by omega)]; rfl
theorem Z0g (r : Int) : Does Tryz.prog tab 188 0 [.int .i64 r] [] [] (Val (.bool (decide (VU r)))) := by
 refine Does.enter Z3 (g := 188) (fn := Tryz.f188) Tryz.call188 Tryz.func188 rfl 9 rfl rfl [.tmp 2] rfl ?_
 intro w0 F η0 h0
 conv => whnf
 repeat' ((first | refine AU ?_ | (refine IW (fun h => ?_) (fun h => ?_) <;> try (exfalso; omega))) <;> conv => whnf)
 refine FIN.value h0 rfl (congrArg SV.bool ?_)
 rw [Bool.eq_iff_iff]
 simp only [Bool.cond_eq_ite, decide_eq_true_eq, Bool.if_false_right, Bool.if_true_left, Bool.and_eq_true, Bool.or_eq_true]
 rfl
def Zav : List (List SV) := [65, 90, 97, 122, 192, 214, 216, 246, 248, 767, 880, 893, 895, 8191, 8204, 8205, 8304, 8591, 11264, 12271, 12289, 55295, 63744, 64975, 65008, 65533, 65536, 983039].map fun x => [SV.int .i64 x]
theorem Z5o : Does Tryz.prog tab 240 0 [] [] [] (Val (.arr 1 Zav)) := by
 refine Does.enter Z3 (g := 240) (fn := Tryz.f240) Tryz.call240 Tryz.func240 rfl 2 rfl rfl [.cell 0 266] rfl ?_
 intro w0 F η0 h0
 conv => whnf
 repeat' ((first | refine AU ?_ | (refine IW (fun h => ?_) (fun h => ?_) <;> try (exfalso; omega))) <;> conv => whnf)
 exact FIN.value h0 rfl rfl
theorem Z6j (r : Int) : Does Tryz.prog tab 219 0 [.int .i64 r] [] [] (Val (.bool (decide (Z21 r)))) := by
 refine Does.enter Z3 (g := 219) (fn := Tryz.f219) Tryz.call219 Tryz.func219 rfl 23 rfl rfl [.tmp 2] rfl ?_
 intro w0 F η0 h0
 conv => whnf
 repeat' ((first | refine CALL.value (Z5o) rfl rfl ?_ | (refine LOOP.once Z3 ?_; conv => whnf) | (refine NEED.mk ⟨rfl, rfl, rfl, rfl, rfl⟩ ?_; conv => whnf) | refine AU ?_ | (refine IW (fun h => ?_) (fun h => ?_) <;> try (exfalso; omega))) <;> conv => whnf)
 all_goals
   refine FIN.value h0 rfl (congrArg SV.bool ?_)
   first
     | exact (decide_eq_true (by unfold Z21; omega)).symm
     | exact (decide_eq_false (by unfold Z21; omega)).symm
theorem UB (r : Int) : Does Tryz.prog tab 187 0 [.int .i64 r] [] [] (Val (.bool (decide (Wl r)))) := by
 refine Does.enter Z3 (g := 187) (fn := Tryz.f187) Tryz.call187 Tryz.func187 rfl 9 rfl rfl [.tmp 2] rfl ?_
 intro w0 F η0 h0
 conv => whnf
 repeat' ((first | refine CALL.value (Z6j _) rfl rfl ?_ | refine AU ?_ | (refine IW (fun h => ?_) (fun h => ?_) <;> try (exfalso; omega))) <;> conv => whnf)
 all_goals
   refine FIN.value h0 rfl (congrArg SV.bool ?_)
   rw [Bool.eq_iff_iff, decide_eq_true_iff]
   unfold Wl
   simp
theorem Z2a (r : Int) : Does Tryz.prog tab 220 0 [.int .i64 r] [] [] (Val (.bool (decide (Yz r)))) := by
 refine Does.enter Z3 (g := 220) (fn := Tryz.f220) Tryz.call220 Tryz.func220 rfl 33 rfl rfl [.tmp 2] rfl ?_
 intro w0 F η0 h0
 conv => whnf
 repeat' ((first | refine CALL.value (UB _) rfl rfl ?_ | refine CALL.value (Z0g _) rfl rfl ?_ | refine AU ?_ | (refine IW (fun h => ?_) (fun h => ?_) <;> try (exfalso; omega))) <;> conv => whnf)
 all_goals
   refine FIN.value h0 rfl (congrArg SV.bool ?_)
   rw [Bool.eq_iff_iff]
   unfold Yz
   simp_all
   try omega
def UC (x : Int) : List SV := [.int .i64 x]
theorem Jz (l : List Int) : Zs (l.map UC) = true := ZX _ (fun _ => rfl) l
instance : PlF UC := ⟨fun _ => rfl⟩
theorem Z2b {l : List Int} {i : Nat} (h : i < l.length) : Xs (l.drop i) = if i + 1 = l.length then decide (Yz l[i]) else (decide (Yz l[i] ∨ l[i] = 46) && Xs (l.drop (i + 1))) := by
 rw [List.drop_eq_getElem_cons h]
 cases hd : l.drop (i + 1) with
 | nil =>
   have := congrArg List.length hd
   simp at this
   rw [if_pos (by omega)]; rfl
 | cons q t =>
   have := congrArg List.length hd
   simp at this
   rw [if_neg (by omega)]; rfl
theorem Z43 (l : List Int) (hl : l.length ≤ 1152921504606846976) : Does Tryz.prog tab 189 1 [.sl (.loc 0) 0 1 l.length none] [] [(0, .rows 1 (l.map UC))] (ValK 1 (.bool (Xs (l.drop 1)))) := by
 refine Does.enter Z3 (g := 189) (fn := Tryz.f189) Tryz.call189 Tryz.func189 rfl 30 rfl rfl [.tmp 2] rfl ?_
 intro w0 F η0 h0
 conv => whnf
 refine LOOP.go Z3 [0] (X := Nat) (fun i => 1 ≤ i ∧ Xs (l.drop i) = Xs (l.drop 1)) (fun i => [(3, .int .i64 (i : Int))]) (fun i => []) 1 (fun i => l.length - i) 1 ⟨by omega, rfl⟩ ?_
 conv => whnf
 refine ⟨by exact GOES.cA h0, ?_⟩
 rintro i ⟨hi, hc⟩
 conv => whnf
 repeat' ((first | refine CALL.value (Z2a _) rfl rfl ?_ | (refine GET.map (by omega) ?_; conv => whnf) | (refine GETG.at (row := UC (l[0 + (i : Int).toNat]'(by omega))) (by rw [List.getElem?_map, List.getElem?_eq_getElem (by omega)]; rfl) ?_; conv => whnf) | refine AU ?_ | (refine IW (fun h => ?_) (fun h => ?_) <;> try (exfalso; omega))) <;> conv => whnf)
 · rename_i h1
   have h1 : i < l.length := by omega
   have e : l[0 + (i : Int).toNat] = l[i] := by congr 1; omega
   rw [e] at h
   refine FIN.valueK h0 rfl (congrArg SV.bool ?_)
   rw [← hc, Z2b h1]
   split
   · simp [h.1]
   · rcases h.2 with h2 | h2
     · simp [h.1, h2]
     · omega
 · rename_i h1
   have h1 : i < l.length := by omega
   have e : l[0 + (i : Int).toNat] = l[i] := by congr 1; omega
   rw [e] at h
   refine ⟨i + 1, ⟨by omega, ?_⟩, by omega, ?_⟩
   · rw [← hc, Z2b h1]
     by_cases hf : Yz l[i]
     · split
       · rename_i h2; rw [List.drop_eq_nil_of_le (by omega)]; simp [hf, Xs]
       · simp [hf]
     · have := h hf
       rw [if_neg (by omega)]; simp [this.1]
   · conv => whnf
     exact GOES.cA h0
 · refine FIN.valueK h0 rfl (congrArg SV.bool ?_)
   rw [← hc, List.drop_eq_nil_of_le (by omega)]; rfl
def Z44 (o : Option (List Int)) : SV → Hps → Nat → Prop := fun r O nx => match o with
 | some l => r = .tup [.sl (.loc 0) 0 1 l.length none, .bool true] ∧ O = [(0, .rows 1 (l.map UC))] ∧ nx = 1
 | none => r = .tup [.val (.slice none 0 0), .bool false] ∧ O = [] ∧ nx = 0
theorem UD (s : List UInt8) (hs : s.length ≤ 68719476736) : Does Tryz.prog tab 186 0 [.str s] [] [] (Z44 (scalarsM s 0)) := by
 refine Does.enter Z3 (g := 186) (fn := Tryz.f186) Tryz.call186 Tryz.func186 rfl 28 rfl rfl [.tmp 2, .tmp 3] rfl ?_
 intro w0 F η0 h0
 conv => whnf
 refine LOOP.nil 4 1 rfl ?_
 refine LOOP.go Z3 [0] (X := Nat × List Int) (fun x => x.1 ≤ s.length ∧ x.2.length ≤ x.1 ∧ scalarsM s 0 = (scalarsM s x.1).map (x.2 ++ ·)) (fun x => [(5, .int .i64 (x.1 : Int)), (4, .sl (.loc 0) 0 1 x.2.length none)]) (fun x => [(0, .rows 1 (x.2.map UC))]) 1 (fun x => s.length - x.1) (0, []) ⟨by simp, by simp, by cases scalarsM s 0 <;> simp⟩ ?_
 conv => whnf
 refine ⟨by exact GOES.cA h0, ?_⟩
 rintro ⟨i, l⟩ ⟨hi, hl, hc⟩
 simp only at hi hl hc
 have hn := Yy s i
 dsimp only
 conv => whnf
 repeat' ((first | refine CALL.value (Ux s _ (by omega)) rfl rfl ?_ | refine AU ?_ | (refine IW (fun h => ?_) (fun h => ?_) <;> try (exfalso; omega))) <;> conv => whnf)
 · rename_i h1
   refine FIN.val h0 rfl ?_
   have : scalarsM s i = none := by rw [scalarsM, dif_pos (by omega), dif_neg (by simpa using h)]
   rw [hc, this]
   exact ⟨rfl, rfl, rfl⟩
 · rename_i h1
   refine ⟨(i + (Zi s i).2.toNat, l ++ [(Zi s i).1]), ⟨by simp only; omega, by simp only [List.length_append, List.length_cons, List.length_nil]; omega, ?_⟩, by simp only; omega, ?_⟩
   · rw [hc]
     conv => lhs; rw [scalarsM, dif_pos (by omega), dif_pos (by simpa using h)]
     cases scalarsM s (i + (Zi s i).2.toNat) <;> simp
   · dsimp only
     conv => whnf
     (refine GOES.keeping h0 [2] rfl rfl rfl (by first | rfl | (simp only [Z6, Z4, Z0 _ (Jz _), Bool.and_self, Bool.and_true] <;> rfl)) ?_ ?_ <;> (repeat' (first | (with_reducible rfl) | (exact Z8 (Jz _) (Z5 _ (Jz _))) | (exact Z8 (Jz _) (by simp [UC, Zw, List.take_of_length_le])) | (exact Zp rfl (by first | (simp; done) | omega | (simp; omega))) | (exact congrArg (SV.int _) (by first | omega | (simp (disch := omega) only [lnB, Z2, Z7] <;> omega) | (simp; done) | (simp <;> omega))) | ((conv => whnf); refine ⟨?_, ?_⟩) | exact trivial | (simp only [ren, renB]; done) | rfl)))
 · refine FIN.rowsT h0 0 1 _ rfl rfl rfl (Jz _) rfl ?_
   have : scalarsM s i = some [] := by rw [scalarsM, dif_neg (by omega)]
   rw [hc, this]
   simp [Z44]
theorem Z6k (s : List UInt8) (i : Nat) : ∀ l, scalarsM s i = some l → l.length ≤ s.length - i := by
 induction i using scalarsM.induct s with
 | case1 i h h0 ih =>
   intro l hl
   have hn := Yy s i
   rw [scalarsM, dif_pos h, dif_pos h0] at hl
   cases hc : scalarsM s (i + (Zi s i).2.toNat) with
   | none => rw [hc] at hl; cases hl
   | some t =>
     rw [hc] at hl
     simp only [Option.map_some, Option.some.injEq] at hl
     subst hl
     have := ih t hc
     simp only [List.length_cons]; omega
 | case2 i h h0 => intro l hl; rw [scalarsM, dif_pos h, dif_neg h0] at hl; cases hl
 | case3 i h => intro l hl; rw [scalarsM, dif_neg h] at hl; injection hl with hl; subst hl; simp
theorem Z5p (s : List UInt8) (hs : s.length ≤ 68719476736) : Does Tryz.prog tab 159 0 [.str s] [] [] (Val (.int .i64 (Z6Z s))) := by
 refine Does.enter Z3 (g := 159) (fn := Tryz.f159) Tryz.call159 Tryz.func159 rfl 36 rfl rfl [.tmp 2] rfl ?_
 intro w0 F η0 h0
 conv => whnf
 unfold Z6Z
 cases hc : scalarsM s 0 with
 | none =>
   have sp := (UD s hs).mono (Q' := Val (.tup [.val (.slice none 0 0), .bool false])) (fun r O nx hq => by rw [hc] at hq; exact hq)
   refine CALL.value sp rfl rfl ?_
   conv => whnf
   repeat' ((first | refine AU ?_ | (refine IW (fun h => ?_) (fun h => ?_) <;> try (exfalso; omega))) <;> conv => whnf)
   exact FIN.value h0 rfl rfl
 | some l =>
   have sp := (UD s hs).mono (Q' := NewT 1 (l.map UC) [.bool true]) (fun r O nx hq => by rw [hc] at hq; simpa [NewT, Z44] using hq)
   refine CALL.newT sp rfl (Jz l) rfl ?_
   have hlen : (l.map UC).length = l.length := by simp
   rw [hlen]
   conv => whnf
   cases l with
   | nil =>
     repeat' ((first | refine AU ?_ | (refine IW (fun h => ?_) (fun h => ?_) <;> try (exfalso; omega))) <;> conv => whnf)
     exact FIN.value h0 rfl rfl
   | cons r l =>
     have hL : (r :: l).length ≤ 1152921504606846976 := by have := Z6k s 0 _ hc; omega
     repeat' ((first | (refine GET.at (row := UC r) rfl ?_; conv => whnf) | refine CALL.value (UB _) rfl rfl ?_ | refine CALL.value (Z0g _) rfl rfl ?_ | (refine CALL.look1 _ (Z43 (r :: l) hL) rfl rfl rfl rfl (Jz _) rfl ?_; conv => whnf) | refine AU ?_ | (refine IW (fun h => ?_) (fun h => ?_) <;> try (exfalso; omega))) <;> conv => whnf)
     all_goals
       refine FIN.value h0 rfl (congrArg (SV.int _) ?_)
       try simp only [List.drop_succ_cons, List.drop_zero] at h
       unfold Js
       simp [*]
theorem UE (s : List UInt8) (hs : Sm s) : Does Tryz.prog tab 243 0 [.str s] [] [] (Val (.bool (allB Jt s 0))) := by
 refine Does.enter Z3 (g := 243) (fn := Tryz.f243) Tryz.call243 Tryz.func243 rfl 29 rfl rfl [.tmp 2] rfl ?_
 intro w0 F η0 h0
 conv => whnf
 refine LOOP.go Z3 [0] (X := Nat) (fun i => i ≤ s.length ∧ allB Jt s i = allB Jt s 0) (fun i => [(3, .int .i64 (i : Int))]) (fun i => []) 0 (fun i => s.length - i) 0 ⟨by omega, rfl⟩ ?_
 conv => whnf
 refine ⟨by exact GOES.cA h0, ?_⟩
 rintro i ⟨hi, hc⟩
 conv => whnf
 repeat' ((first | refine AU ?_ | (refine IW (fun h => ?_) (fun h => ?_) <;> try (exfalso; omega))) <;> conv => whnf)
 · refine FIN.value h0 rfl (congrArg SV.bool ?_)
   rw [← hc, J3 (by omega), show Jt (Z9 s i) = false from decide_eq_false (by unfold Xr; omega)]; rfl
 · refine ⟨i + 1, ⟨by omega, ?_⟩, by omega, ?_⟩
   · rw [← hc, J3 (i := i) (by omega), show Jt (Z9 s i) = true from decide_eq_true (by unfold Xr; omega), Bool.true_and]
   · conv => whnf
     exact GOES.cA h0
 · refine FIN.value h0 rfl (congrArg SV.bool ?_)
   rw [← hc, Ui (by omega)]
theorem JA (s : List UInt8) (hs : Sm s) : Does Tryz.prog tab 242 0 [.str s] [] [] (Val (.bool (allB Xb s 0))) := by
 refine Does.enter Z3 (g := 242) (fn := Tryz.f242) Tryz.call242 Tryz.func242 rfl 20 rfl rfl [.tmp 2] rfl ?_
 intro w0 F η0 h0
 conv => whnf
 refine LOOP.go Z3 [0] (X := Nat) (fun i => i ≤ s.length ∧ allB Xb s i = allB Xb s 0) (fun i => [(3, .int .i64 (i : Int))]) (fun i => []) 0 (fun i => s.length - i) 0 ⟨by omega, rfl⟩ ?_
 conv => whnf
 refine ⟨by exact GOES.cA h0, ?_⟩
 rintro i ⟨hi, hc⟩
 conv => whnf
 repeat' ((first | refine AU ?_ | (refine IW (fun h => ?_) (fun h => ?_) <;> try (exfalso; omega))) <;> conv => whnf)
 · refine FIN.value h0 rfl (congrArg SV.bool ?_)
   rw [← hc, J3 (by omega), show Xb (Z9 s i) = false from decide_eq_false (by unfold VU; omega)]; rfl
 · refine ⟨i + 1, ⟨by omega, ?_⟩, by omega, ?_⟩
   · rw [← hc, J3 (i := i) (by omega), show Xb (Z9 s i) = true from decide_eq_true (by unfold VU; omega), Bool.true_and]
   · conv => whnf
     exact GOES.cA h0
 · refine FIN.value h0 rfl (congrArg SV.bool ?_)
   rw [← hc, Ui (by omega)]
theorem cutB {s : List UInt8} {i : Nat} (h : i < s.length) : (s.drop (i : Int).toNat).take (((i : Int) + 1).toNat - (i : Int).toNat) = [s.getD i 0] := by
 rw [show ((i : Int) + 1).toNat - (i : Int).toNat = 1 by omega, Int.toNat_natCast, YN h]; rfl
theorem Zcs (s : List UInt8) (i : Nat) : bn (s.getD i 0) = Z9 s i := rfl
theorem JB (s : List UInt8) (least most : Int) (hs : Sm s) : Does Tryz.prog tab 227 0 [.str s, .int .i64 least, .int .i64 most] [] [] (Val (.bool (ZE s least most false))) := by
 refine Does.enter Z3 (g := 227) (fn := Tryz.f227) Tryz.call227 Tryz.func227 rfl 40 rfl rfl [.tmp 6] rfl ?_
 intro w0 F η0 h0
 conv => whnf
 refine LOOP.go Z3 [0, 1, 2] (X := Nat) (fun i => i ≤ s.length ∧ allB (Ju false) s i = allB (Ju false) s 0) (fun i => [(7, .int .i64 (i : Int))]) (fun i => []) 0 (fun i => s.length - i) 0 ⟨by omega, rfl⟩ ?_
 conv => whnf
 refine ⟨by exact GOES.cA h0, ?_⟩
 rintro i ⟨hi, hc⟩
 conv => whnf
 have sm : ∀ n m, Sm ((s.drop n).take m) := fun n m => by simp; omega
 repeat' ((first | refine CALL.value (UE _ (sm _ _)) rfl rfl ?_ | refine CALL.value (JA _ (sm _ _)) rfl rfl ?_ | refine AU ?_ | (refine IW (fun h => ?_) (fun h => ?_) <;> try (exfalso; omega))) <;> conv => whnf)
 all_goals first
   | (have hl : i < s.length := by omega
      simp only [cutB hl, Z70, Zcs] at *
      first
        | (refine FIN.value h0 rfl (congrArg SV.bool ?_)
           have h1 : Ju false (Z9 s i) = false := by unfold Ju; simp [*]
           unfold ZE; rw [← hc, J3 hl, h1]; rfl)
        | (have h1 : Ju false (Z9 s i) = true := by unfold Ju; simp [*]
           refine ⟨i + 1, ⟨by omega, ?_⟩, by omega, ?_⟩
           · rw [← hc, J3 (i := i) hl, h1, Bool.true_and]
           · conv => whnf
             exact GOES.cA h0))
   | (refine FIN.value h0 rfl (congrArg SV.bool ?_)
      unfold ZE; rw [← hc, Ui (by omega), Bool.eq_iff_iff]
      simp [Bool.cond_eq_ite])
theorem Z2z (s : List UInt8) (hs : Sm s) : Does Tryz.prog tab 226 0 [.str s] [] [] (Val (.bool (XM s))) := by
 have hm : ZE s 4 4 false = true → s.length = 4 := by unfold ZE; simp; omega
 have sm : ∀ m, Sm (s.take m) := fun m => by simp; omega
 refine Does.enter Z3 (g := 226) (fn := Tryz.f226) Tryz.call226 Tryz.func226 rfl 14 rfl rfl [.tmp 2] rfl ?_
 intro w0 F η0 h0
 conv => whnf
 repeat' ((first | refine CALL.value (JB _ _ _ hs) rfl rfl ?_ | refine CALL.value (JA _ (sm _)) rfl rfl ?_ | (refine NEED.mk (by have := hm (by assumption); omega) ?_; conv => whnf) | refine AU ?_ | (refine IW (fun h => ?_) (fun h => ?_) <;> try (exfalso; omega))) <;> conv => whnf)
 all_goals
   refine FIN.value h0 rfl (congrArg SV.bool ?_)
   unfold XM
   by_cases h4 : ZE s 4 4 false = true
   · have := hm h4
     cases s with
     | nil => simp at this
     | cons a t =>
       have ht : (a :: t).take (1 : Int).toNat = [a] := rfl
       have hb : bn a = Z9 (a :: t) 0 := rfl
       try simp only [ht, Z70, hb] at *
       simp_all
   · simp_all
theorem Yj (s : List UInt8) (hs : Sm s) : Does Tryz.prog tab 222 0 [.str s] [] [] (Val (.str (Zd s))) := by
 refine Does.enter Z3 (g := 222) (fn := Tryz.f222) Tryz.call222 Tryz.func222 rfl 35 rfl rfl [.tmp 2] rfl ?_
 intro w0 F η0 h0
 conv => whnf
 repeat' ((first | refine AU ?_ | (refine IW (fun h => ?_) (fun h => ?_) <;> try (exfalso; omega))) <;> conv => whnf)
 refine LOOP.go Z3 [3] (X := Nat) (fun i => i ≤ s.length) (fun i => [(4, .int .i64 (i : Int))]) (fun i => [(0, .rows 1 ((curL s i).map Sx.bytesRow))]) 1 (fun i => s.length - i) 0 (by omega) ?_
 conv => whnf
 refine ⟨by (refine GOES.cutting h0 rfl rfl rfl (by first | rfl | (simp only [Z6, Z4, Z0 _ (ZB _), Bool.and_self, Bool.and_true] <;> rfl)) ?_ ?_ <;> (repeat' (first | (with_reducible rfl) | (exact Zp rfl (by first | (simp; done) | omega | (simp; omega))) | (exact congrArg (SV.int _) (by first | omega | (simp (disch := omega) only [lnB, Z2, Z7] <;> omega) | (simp; done) | (simp <;> omega))) | (exact congrArg (Hp.rows _) (by rw [Z5b])) | ((conv => whnf); refine ⟨?_, ?_⟩) | exact trivial | rfl))), ?_⟩
 intro i hi
 have hlen := Z71 s i
 conv => whnf
 repeat' ((first | (refine GET.at (row := Sx.bytesRow (s[i]'(by omega))) (by rw [show 0 + (i : Int).toNat = i by omega]; exact Z3V (by omega)) ?_; conv => whnf) | (refine GETG.at (row := Sx.bytesRow (s[i]'(by omega))) (by rw [show 0 + (i : Int).toNat = i by omega]; exact Z3V (by omega)) ?_; conv => whnf) | refine AU ?_ | (refine IW (fun h => ?_) (fun h => ?_) <;> try (exfalso; omega))) <;> conv => whnf)
 · have hl : i < s.length := by omega
   refine ⟨i + 1, by omega, by omega, ?_⟩
   conv => whnf
   (refine GOES.cutting h0 rfl rfl rfl (by first | rfl | (simp only [Z6, Z4, Z0 _ (ZB _), Bool.and_self, Bool.and_true] <;> rfl)) ?_ ?_ <;> (repeat' (first | (with_reducible rfl) | (exact Zp rfl (by first | (simp; done) | omega | (simp; omega))) | (exact congrArg (SV.int _) (by first | omega | (simp (disch := omega) only [lnB, Z2, Z7] <;> omega) | (simp; done) | (simp <;> omega))) | (exact congrArg (Hp.rows _) (by rw [Z9k h, show 0 + (i : Int).toNat = i by omega, Z73 hl])) | ((conv => whnf); refine ⟨?_, ?_⟩) | exact trivial | rfl)))
 · have hl : i < s.length := by omega
   refine ⟨i + 1, by omega, by omega, ?_⟩
   conv => whnf
   (refine GOES.cutting h0 rfl rfl rfl (by first | rfl | (simp only [Z6, Z4, Z0 _ (ZB _), Bool.and_self, Bool.and_true] <;> rfl)) ?_ ?_ <;> (repeat' (first | (with_reducible rfl) | (exact Zp rfl (by first | (simp; done) | omega | (simp; omega))) | (exact congrArg (SV.int _) (by first | omega | (simp (disch := omega) only [lnB, Z2, Z7] <;> omega) | (simp; done) | (simp <;> omega))) | (exact congrArg (Hp.rows _) (by rw [Z5c hl (Z69 (by omega))])) | ((conv => whnf); refine ⟨?_, ?_⟩) | exact trivial | rfl)))
 · refine NEED.mk (Vq (by omega)) ?_
   conv => whnf
   refine FIN.value h0 rfl (congrArg SV.str ?_)
   have := Z5U (curL s i)
   rw [hlen] at this
   rw [this, Z72 (by omega)]
theorem Z9u {s : List UInt8} {i : Nat} {c : UInt8} (h : i < s.length) : Z9 s i = (c.toNat : Int) ↔ s[i]? = some c := by
 unfold Z9
 rw [Int.toNat_natCast, List.getD, List.getElem?_eq_getElem h]
 simp only [Option.getD_some, Option.some.injEq]
 constructor
 · intro h1; exact UInt8.toNat_inj.1 (by omega)
 · intro h1; rw [h1]
theorem Z5q (s : List UInt8) (hs : s.length ≤ 34359738368) : Does Tryz.prog tab 221 0 [.str s] [] [] (NewS 1 ((Zu s).map Zb)) := by
 have hlen := Wn s
 refine Does.enter Z3 (g := 221) (fn := Tryz.f221) Tryz.call221 Tryz.func221 rfl 31 rfl rfl [.tmp 2] rfl ?_
 intro w0 F η0 h0
 conv => whnf
 refine LOOP.nil 3 1 rfl ?_
 refine LOOP.go Z3 [0] (X := List (List UInt8) × Nat × Nat) (fun y => y.2.1 ≤ y.2.2 ∧ y.2.2 ≤ s.length ∧ Zu s = y.1 ++ Zu (s.drop y.2.1) ∧ ∀ c ∈ (s.drop y.2.1).take (y.2.2 - y.2.1), c ≠ 45) (fun y => [(3, .sl (.loc 0) 0 1 y.1.length none), (4, .int .i64 (y.2.1 : Int)), (5, .int .i64 (y.2.2 : Int))]) (fun y => [(0, .rows 1 (y.1.map Zb))]) 1 (fun y => s.length - y.2.2) ([], 0, 0) ⟨by simp, by simp, by simp, by simp⟩ ?_
 conv => whnf
 refine ⟨by (refine GOES.keeping h0 [0] rfl rfl rfl (by first | rfl | (simp only [Z6, Z4, Z0 _ (Z1 _), Bool.and_self, Bool.and_true] <;> rfl)) ?_ ?_ <;> (repeat' (first | (with_reducible rfl) | (exact Z8 (Z1 _) (Z5 _ (Z1 _))) | (exact Z8 (Z1 _) (by simp [Zb, Zw, List.take_of_length_le])) | (exact Zp rfl (by first | (simp; done) | omega | (simp; omega))) | (exact congrArg (SV.int _) (by first | omega | (simp (disch := omega) only [lnB, Z2, Z7] <;> omega) | (simp; done) | (simp <;> omega))) | ((conv => whnf); refine ⟨?_, ?_⟩) | exact trivial | (simp only [ren, renB]; done) | rfl))), ?_⟩
 rintro ⟨l, f, i⟩ ⟨hf, hi, he, hn⟩
 dsimp only at hf hi he hn ⊢
 have hl : l.length + (Zu (s.drop f)).length = (Zu s).length := by rw [he, List.length_append]
 have hl1 : 1 ≤ (Zu (s.drop f)).length := by have := XI (s.drop f); omega
 conv => whnf
 repeat' ((first | refine AU ?_ | (refine IW (fun h => ?_) (fun h => ?_) <;> try (exfalso; omega))) <;> conv => whnf)
 · have h45 : (s.drop f)[i - f]? = some 45 := by rw [List.getElem?_drop, show f + (i - f) = i by omega]; exact (Z9u (c := 45) (by omega)).1 h
   have hc := Z5e _ _ hn h45
   rw [List.drop_drop, show f + (i - f + 1) = i + 1 by omega] at hc
   refine ⟨(l ++ [(s.drop f).take (i - f)], i + 1, i + 1), ⟨by simp only; omega, by simp only; omega, by simp only; rw [he, hc]; simp, by simp⟩, by simp only; omega, ?_⟩
   dsimp only
   rw [show (l ++ [(s.drop f).take (i - f)]).length = l.length + 1 by simp]
   conv => whnf
   (refine GOES.keeping h0 [2] rfl rfl rfl (by first | rfl | (simp only [Z6, Z4, Z0 _ (Z1 _), Bool.and_self, Bool.and_true] <;> rfl)) ?_ ?_ <;> (repeat' (first | (with_reducible rfl) | (exact Z8 (Z1 _) (Z5 _ (Z1 _))) | (exact Z8 (Z1 _) (by simp [Zb, Zw, List.take_of_length_le])) | (exact Zp rfl (by first | (simp; done) | omega | (simp; omega))) | (exact congrArg (SV.int _) (by first | omega | (simp (disch := omega) only [lnB, Z2, Z7] <;> omega) | (simp; done) | (simp <;> omega))) | ((conv => whnf); refine ⟨?_, ?_⟩) | exact trivial | (simp only [ren, renB]; done) | rfl)))
 · refine ⟨(l, f, i + 1), ⟨by simp only; omega, by simp only; omega, he, ?_⟩, by simp only; omega, ?_⟩
   · dsimp only
     intro c hc
     have hlt : i - f < (s.drop f).length := by rw [List.length_drop]; omega
     rw [show i + 1 - f = (i - f) + 1 by omega, List.take_succ_eq_append_getElem hlt] at hc
     rcases List.mem_append.1 hc with hc | hc
     · exact hn c hc
     · have hc := List.mem_singleton.1 hc
       rintro rfl
       refine h ((Z9u (c := 45) (by omega)).2 ?_)
       have h1 : (s.drop f)[i - f]? = some 45 := by rw [List.getElem?_eq_getElem hlt, ← hc]
       rwa [List.getElem?_drop, show f + (i - f) = i by omega] at h1
   · dsimp only
     conv => whnf
     (refine GOES.keeping h0 [0] rfl rfl rfl (by first | rfl | (simp only [Z6, Z4, Z0 _ (Z1 _), Bool.and_self, Bool.and_true] <;> rfl)) ?_ ?_ <;> (repeat' (first | (with_reducible rfl) | (exact Z8 (Z1 _) (Z5 _ (Z1 _))) | (exact Z8 (Z1 _) (by simp [Zb, Zw, List.take_of_length_le])) | (exact Zp rfl (by first | (simp; done) | omega | (simp; omega))) | (exact congrArg (SV.int _) (by first | omega | (simp (disch := omega) only [lnB, Z2, Z7] <;> omega) | (simp; done) | (simp <;> omega))) | ((conv => whnf); refine ⟨?_, ?_⟩) | exact trivial | (simp only [ren, renB]; done) | rfl)))
 · have hc : Zu (s.drop f) = [s.drop f] := by
     refine Z5f _ fun c hc => hn c ?_
     rwa [List.take_of_length_le (by rw [List.length_drop]; omega)]
   rw [he, hc] at *
   refine FIN.rows h0 2 1 (l.length + 1) rfl rfl rfl (by simp [JV, ZX, Z1, Zs, Yn, plain, List.take_of_length_le]) ⟨by simp, ?_, rfl⟩
   simp [Zb, List.take_of_length_le]
theorem Xv (ps : List (List UInt8)) (hb : XY ps + ps.length ≤ 68719476736) (a m : Nat) (ham : a + m = ps.length) : Does Tryz.prog tab 241 1 [.sl (.loc 0) a 1 m none] [] [(0, .rows 1 (ps.map Zb))]
   (fun r O nx => ∃ s, s.length ≤ XY ps + ps.length ∧ (∀ p, ps[a]? = some p → ∃ t, s = p ++ t) ∧ r = .str s ∧ O = [] ∧ nx = 1) := by
 refine Does.enter Z3 (g := 241) (fn := Tryz.f241) Tryz.call241 Tryz.func241 rfl 24 rfl rfl [.tmp 2] rfl ?_
 intro w0 F η0 h0
 conv => whnf
 refine LOOP.nil 3 1 rfl ?_
 refine LOOP.go Z3 [0] (X := Nat × List UInt8) (fun y => y.1 ≤ m ∧ y.2.length ≤ ((ps.take (a + y.1)).map List.length).sum + y.1 ∧ (y.1 ≠ 0 → ∀ p, ps[a]? = some p → ∃ t, y.2 = p ++ t) ∧ (y.1 = 0 → y.2 = [])) (fun y => [(3, .sl (.loc 1) 0 1 y.2.length none), (4, .int .i64 (y.1 : Int))]) (fun y => [(1, .rows 1 (y.2.map Sx.bytesRow))]) 2 (fun y => m - y.1) (0, []) ⟨by simp, by simp, by simp, by simp⟩ ?_
 conv => whnf
 refine ⟨by (refine GOES.keeping h0 [1] rfl rfl rfl (by first | rfl | (simp only [Z6, Z4, Z0 _ (ZB _), Bool.and_self, Bool.and_true] <;> rfl)) ?_ ?_ <;> (repeat' (first | (with_reducible rfl) | (exact Z8 (ZB _) (Z5 _ (ZB _))) | (exact Z8 (ZB _) (by simp [Sx.bytesRow, Zw, List.take_of_length_le])) | (exact Zp rfl (by first | (simp; done) | omega | (simp; omega))) | (exact congrArg (SV.int _) (by first | omega | (simp (disch := omega) only [lnB, Z2, Z7] <;> omega) | (simp; done) | (simp <;> omega))) | ((conv => whnf); refine ⟨?_, ?_⟩) | exact trivial | (simp only [ren, renB]; done) | rfl))), ?_⟩
 rintro ⟨c, b⟩ ⟨hc, hl, hp, h00⟩
 dsimp only at hc hl hp h00 ⊢
 have hbt := Yq ps (a + c)
 rcases Nat.lt_or_ge c m with hcm | hcm
 · have hlt : a + c < ps.length := by omega
   have hs1 := Uz (List.getElem?_eq_getElem hlt)
   have hs2 := Yq ps (a + c + 1)
   have key : ∀ b' : List UInt8, (c = 0 → b' = []) → (c ≠ 0 → ∃ t, b' = b ++ t) → ∀ p, ps[a]? = some p → ∃ t, b' ++ ps[a + c] = p ++ t := by
     intro b' h1 h2 p hpa
     by_cases h : c = 0
     · subst h
       obtain ⟨h3, h4⟩ := List.getElem?_eq_some_iff.1 hpa
       exact ⟨[], by rw [h1 rfl, ← h4]; simp⟩
     · obtain ⟨t, ht⟩ := hp h p hpa
       obtain ⟨t', ht'⟩ := h2 h
       exact ⟨t ++ t' ++ ps[a + c], by rw [ht', ht]; simp⟩
   conv => whnf
   repeat' ((first | (refine GET.at (row := Zb (ps[a + c]'(by omega))) (by rw [List.getElem?_map, show a + (c : Int).toNat = a + c by omega, List.getElem?_eq_getElem (by omega)]; rfl) ?_; conv => whnf) | refine AU ?_ | (refine IW (fun h => ?_) (fun h => ?_) <;> try (exfalso; omega))) <;> conv => whnf)
   · refine ⟨(c + 1, b ++ [45] ++ ps[a + c]), ⟨by simp only; omega, ?_, fun _ => key _ (fun h1 => by omega) (fun _ => ⟨[45], rfl⟩), by simp⟩, by simp only; omega, ?_⟩
     · simp only [List.length_append, List.length_cons, List.length_nil]
       rw [show a + (c + 1) = a + c + 1 by omega, hs1]; omega
     · dsimp only
       have e : (b ++ [45] ++ ps[a + c]).length = b.length + 1 + ps[a + c].length := by simp; omega
       rw [e]
       conv => whnf
       (refine GOES.keeping h0 [4] rfl rfl rfl (by first | rfl | (simp only [Z6, Z4, Z0 _ (ZB _), Bool.and_self, Bool.and_true] <;> rfl)) ?_ ?_ <;> (repeat' (first | (with_reducible rfl) | (exact Z8 (ZB _) (Z5 _ (ZB _))) | (exact Z8 (ZB _) (by simp [Sx.bytesRow, Zw, List.take_of_length_le])) | (exact Zp rfl (by first | (simp; done) | omega | (simp; omega))) | (exact congrArg (SV.int _) (by first | omega | (simp (disch := omega) only [lnB, Z2, Z7] <;> omega) | (simp; done) | (simp <;> omega))) | ((conv => whnf); refine ⟨?_, ?_⟩) | exact trivial | (simp only [ren, renB]; done) | rfl)))
   · refine ⟨(c + 1, b ++ ps[a + c]), ⟨by simp only; omega, ?_, fun _ => key _ (fun h1 => h00 h1) (fun h1 => by omega), by simp⟩, by simp only; omega, ?_⟩
     · simp only [List.length_append]
       rw [show a + (c + 1) = a + c + 1 by omega, hs1]; omega
     · dsimp only
       have e : (b ++ ps[a + c]).length = b.length + ps[a + c].length := by simp
       rw [e]
       conv => whnf
       (refine GOES.keeping h0 [2] rfl rfl rfl (by first | rfl | (simp only [Z6, Z4, Z0 _ (ZB _), Bool.and_self, Bool.and_true] <;> rfl)) ?_ ?_ <;> (repeat' (first | (with_reducible rfl) | (exact Z8 (ZB _) (Z5 _ (ZB _))) | (exact Z8 (ZB _) (by simp [Sx.bytesRow, Zw, List.take_of_length_le])) | (exact Zp rfl (by first | (simp; done) | omega | (simp; omega))) | (exact congrArg (SV.int _) (by first | omega | (simp (disch := omega) only [lnB, Z2, Z7] <;> omega) | (simp; done) | (simp <;> omega))) | ((conv => whnf); refine ⟨?_, ?_⟩) | exact trivial | (simp only [ren, renB]; done) | rfl)))
 · conv => whnf
   repeat' ((first | refine AU ?_ | (refine IW (fun h => ?_) (fun h => ?_) <;> try (exfalso; omega))) <;> conv => whnf)
   refine NEED.mk (Vq (by simp)) ?_
   conv => whnf
   refine FIN.val h0 rfl ⟨b, by omega, fun p hpa => ?_, by rw [Z5U], rfl, rfl⟩
   have := (List.getElem?_eq_some_iff.1 hpa).1
   exact hp (by omega) p hpa
def rd6 (i m : Nat) : Hp := .box [.sl (.loc 1) i 1 m none]
def tg6 (L E S R : List UInt8) (jv v jx x : Nat) (P : List UInt8) : Hp := .box [.str L, .str E, .str S, .str R, .sl (.loc jv) 0 1 v none, .sl (.loc jx) 0 1 x none, .str P]
theorem XZ (least most : Int) (digits : Bool) (ps : List (List UInt8)) (hsm : ∀ s ∈ ps, Sm s) (i m : Nat) (him : i + m = ps.length) :
   Does Tryz.prog tab 224 2 [.ptr (.loc 0) 0 0 0, .int .i64 least, .int .i64 most, .bool digits] [] [(0, rd6 i m), (1, .rows 1 (ps.map Zb))] (ValK 2 (.bool (Yg (WN least most digits) ps i))) := by
 refine Does.enter Z3 (g := 224) (fn := Tryz.f224) Tryz.call224 Tryz.func224 rfl 52 rfl rfl [.tmp 8] rfl ?_
 intro w0 F η0 h0
 conv => whnf
 rcases Nat.eq_zero_or_pos m with hm | hm
 · subst hm
   repeat' ((first | (refine GETG.mk ⟨Zb [], fun h => (by simp at h), ?_⟩; conv => whnf) | refine AU ?_ | (refine IW (fun h => ?_) (fun h => ?_) <;> try (exfalso; omega))) <;> conv => whnf)
   all_goals first
     | (refine FIN.valueK h0 rfl (congrArg SV.bool ?_)
        unfold Yg; rw [List.getElem?_eq_none (by omega)])
     | (exfalso; simp_all; done)
 · have hlt : i < ps.length := by omega
   have hse : Yg (WN least most digits) ps i = WN least most digits ps[i] := by unfold Yg; rw [List.getElem?_eq_getElem hlt]
   have hs := hsm _ (List.getElem_mem hlt)
   repeat' ((first | (refine GET.at (row := Zb (ps[i]'(by omega))) (by rw [List.getElem?_map, show i + (0 : Int).toNat = i by simp, List.getElem?_eq_getElem (by omega)]; rfl) ?_; conv => whnf) | (refine GETG.at (row := Zb (ps[i]'(by omega))) (by rw [List.getElem?_map, show i + (0 : Int).toNat = i by simp, List.getElem?_eq_getElem (by omega)]; rfl) ?_; conv => whnf) | refine CALL.value (UE _ hs) rfl rfl ?_ | refine CALL.value (JA _ hs) rfl rfl ?_ | refine AU ?_ | (refine IW (fun h => ?_) (fun h => ?_) <;> try (exfalso; omega))) <;> conv => whnf)
   all_goals
     refine FIN.valueK h0 rfl (congrArg SV.bool ?_)
     rw [hse]; unfold WN
   · rw [show decide (least ≤ (ps[i].length : Int) ∧ (ps[i].length : Int) ≤ most) = false from decide_eq_false (by omega)]; rfl
   · rw [show decide (least ≤ (ps[i].length : Int) ∧ (ps[i].length : Int) ≤ most) = true from decide_eq_true (by omega)]; simp [h]
   · rw [show decide (least ≤ (ps[i].length : Int) ∧ (ps[i].length : Int) ≤ most) = true from decide_eq_true (by omega)]; simp [h]
theorem Yr (ps : List (List UInt8)) (i m : Nat) (him : i + (m + 1) = ps.length) (p : List UInt8) (hp : ps[i]? = some p) :
   Does Tryz.prog tab 225 2 [.ptr (.loc 0) 0 0 0] [(0, rd6 i (m + 1))] [(1, .rows 1 (ps.map Zb))] (fun r O nx => r = .str p ∧ O = [(0, rd6 (i + 1) m)] ∧ nx = 2) := by
 refine Does.enter Z3 (g := 225) (fn := Tryz.f225) Tryz.call225 Tryz.func225 rfl 19 rfl rfl [.tmp 2] rfl ?_
 intro w0 F η0 h0
 conv => whnf
 repeat' ((first | (refine GET.at (row := Zb p) (by rw [List.getElem?_map, show i + (0 : Int).toNat = i by simp, hp]; rfl) ?_; conv => whnf) | refine AU ?_ | (refine IW (fun h => ?_) (fun h => ?_) <;> try (exfalso; omega))) <;> conv => whnf)
 exact FIN.here h0 (Oc := [(0, rd6 (i + 1) m)]) rfl rfl rfl ⟨rfl, trivial⟩ ⟨rfl, rfl, rfl⟩
theorem Z9v {b : Nat} : ∀ {l : List (List UInt8)}, (∀ s ∈ l, s.length ≤ b) → XY l ≤ b * l.length
 | [], _ => by simp [XY]
 | s :: l, h => by
   have h1 := h s (by simp)
   have h2 := Z9v (l := l) fun x hx => h x (by simp [hx])
   unfold XY at *
   simp only [List.map_cons, List.sum_cons, List.length_cons, Nat.mul_add]; omega
theorem Zct : WN 3 3 false = fun s => ZE s 3 3 true := funext (Xt 3 3)
theorem Z2A (ps : List (List UInt8)) (hb : XY ps + ps.length ≤ 68719476736) (i m : Nat) (him : i + m = ps.length) :
   Does Tryz.prog tab 223 5 [.ptr (.loc 0) 0 0 0, .ptr (.loc 2) 0 0 0] [(0, rd6 i m), (2, tg6 [] [] [] [] 3 0 4 0 [])] [(1, .rows 1 (ps.map Zb))]
     (fun r O nx => ∃ (i' m' : Nat) (L E : List UInt8), i' + m' = ps.length ∧ r = .bool (J4 (ps.drop i)).isSome ∧ (∀ l, J4 (ps.drop i) = some l → l = ps.drop i' ∧ L ≠ []) ∧ O = [(0, rd6 i' m'), (2, tg6 L E [] [] 3 0 4 0 [])] ∧ nx = 5) := by
 have hsm := UV (ps := ps) (by omega)
 refine Does.enter Z3 (g := 223) (fn := Tryz.f223) Tryz.call223 Tryz.func223 rfl 41 rfl rfl [.tmp 4] rfl ?_
 intro w0 F η0 h0
 conv => whnf
 refine CALL.aA [0, 1] (XZ 2 3 false ps hsm i m him) ?_
 rintro r O' nx' ⟨rfl, rfl, rfl⟩
 conv => whnf
 refine IF.mk (fun h1 => ?_) (fun h1 => ?_)
 · obtain ⟨w, hw, hwm⟩ := ZH h1
   rw [Xt] at hwm
   have hwl := XN hwm
   have hlt := (List.getElem?_eq_some_iff.1 hw).1
   obtain ⟨k, rfl⟩ : ∃ k, m = k + 1 := ⟨m - 1, by omega⟩
   have hne : w ≠ [] := by rintro rfl; simp at hwl
   have hL : J4 (ps.drop i) = some (extP 3 (ps.drop (i + 1))) := by
     rw [ZM hw]; simp only [J4]
     rw [if_pos (by rw [Z23, Xt, hwm]; rfl), if_neg (by omega)]
   conv => whnf
   refine CALL.aA [0, 1] (Yr ps i k him w hw) ?_
   rintro r O' nx' ⟨rfl, rfl, rfl⟩
   conv => whnf
   refine LOOP.nil 5 1 rfl ?_
   refine LOOP.go Z3 [0, 1] (X := List (List UInt8) × Nat) (fun y => y.1.length ≤ 3 ∧ (∀ s ∈ y.1, s.length ≤ 3) ∧ y.2 + (ps.length - y.2) = ps.length ∧ extP 3 (ps.drop (i + 1)) = extP (3 - y.1.length) (ps.drop y.2)) (fun y => [(5, .sl (.loc 5) 0 1 y.1.length none)]) (fun y => [(0, rd6 y.2 (ps.length - y.2)), (2, tg6 w [] [] [] 3 0 4 0 []), (5, .rows 1 (y.1.map Zb))]) 6 (fun y => 3 - y.1.length) ([], i + 1) ⟨by simp, by simp, by simp only; omega, rfl⟩ ?_
   conv => whnf
   rw [show ps.length - (i + 1) = k by omega]
   refine ⟨by (refine GOES.keeping h0 [5] rfl rfl rfl (by first | rfl | (simp only [Z6, Z4, Z0 _ (Z1 _), Bool.and_self, Bool.and_true] <;> rfl)) ?_ ?_ <;> (repeat' (first | (with_reducible rfl) | (exact Z8 (Z1 _) (Z5 _ (Z1 _))) | (exact Z8 (Z1 _) (by simp [Zb, Zw, List.take_of_length_le])) | (exact Zp rfl (by first | (simp; done) | omega | (simp; omega))) | (exact congrArg (SV.int _) (by first | omega | (simp (disch := omega) only [lnB, Z2, Z7] <;> omega) | (simp; done) | (simp <;> omega))) | ((conv => whnf); refine ⟨?_, ?_⟩) | exact trivial | (simp only [ren, renB]; done) | rfl))), ?_⟩
   rintro ⟨l, a⟩ ⟨hl, hls, ha, hx⟩
   dsimp only at hl hls ha hx ⊢
   have fin : Yg (fun s => ZE s 3 3 true) ps a = false ∨ l.length = 3 → extP 3 (ps.drop (i + 1)) = ps.drop a := by
     rintro (h | h)
     · rw [hx, Zb4 h]
     · rw [hx, h]; rfl
   have hbl := Z9v hls
   conv => whnf
   refine IF.mk (fun h => ?_) (fun h => ?_)
   · have h : l.length < 3 := by simp at h; omega
     conv => whnf
     repeat' ((first | refine AU ?_ | (refine IW (fun h => ?_) (fun h => ?_) <;> try (exfalso; omega))) <;> conv => whnf)
     refine CALL.aA [0, 1] (XZ 3 3 false ps hsm a (ps.length - a) ha) ?_
     rintro r O' nx' ⟨rfl, rfl, rfl⟩
     conv => whnf
     repeat' ((first | refine AU ?_ | (refine IW (fun h => ?_) (fun h => ?_) <;> try (exfalso; omega))) <;> conv => whnf)
     · obtain ⟨u, hu, hum⟩ := ZH h
       rw [Xt] at hum
       have hul := XN hum
       have hlt2 := (List.getElem?_eq_some_iff.1 hu).1
       obtain ⟨k', hk'⟩ : ∃ k', ps.length - a = k' + 1 := ⟨ps.length - a - 1, by omega⟩
       rw [hk']
       refine CALL.aA [0, 1] (Yr ps a k' (by omega) u hu) ?_
       rintro r O' nx' ⟨rfl, rfl, rfl⟩
       conv => whnf
       repeat' ((first | refine AU ?_ | (refine IW (fun h => ?_) (fun h => ?_) <;> try (exfalso; omega))) <;> conv => whnf)
       refine ⟨(l ++ [u], a + 1), ⟨by simp; omega, ?_, by simp only; omega, ?_⟩, by simp; omega, ?_⟩
       · intro x hx'
         rcases List.mem_append.1 hx' with h | h
         · exact hls x h
         · rw [List.mem_singleton.1 h]; omega
       · dsimp only
         rw [hx, ZM hu, show 3 - l.length = (3 - (l ++ [u]).length) + 1 by simp; omega]
         simp only [extP]; rw [if_pos hum]
       · dsimp only
         rw [show ps.length - (a + 1) = k' by omega, show (l ++ [u]).length = l.length + 1 by simp]
         conv => whnf
         (refine GOES.keeping h0 [7] rfl rfl rfl (by first | rfl | (simp only [Z6, Z4, Z0 _ (Z1 _), Bool.and_self, Bool.and_true] <;> rfl)) ?_ ?_ <;> (repeat' (first | (with_reducible rfl) | (exact Z8 (Z1 _) (Z5 _ (Z1 _))) | (exact Z8 (Z1 _) (by simp [Zb, Zw, List.take_of_length_le])) | (exact Zp rfl (by first | (simp; done) | omega | (simp; omega))) | (exact congrArg (SV.int _) (by first | omega | (simp (disch := omega) only [lnB, Z2, Z7] <;> omega) | (simp; done) | (simp <;> omega))) | ((conv => whnf); refine ⟨?_, ?_⟩) | exact trivial | (simp only [ren, renB]; done) | rfl)))
     · rw [Zct] at h
       refine CALL.aA [5] (Xv l (by omega) 0 l.length (by omega)) ?_
       rintro r O' nx' ⟨E, hE, _, rfl, rfl, rfl⟩
       conv => whnf
       exact FIN.here h0 (Oc := [(0, rd6 (a) (ps.length - a)), (2, tg6 (w) (E) [] [] 3 0 4 0 [])]) rfl rfl rfl ⟨rfl, rfl, trivial⟩ ⟨a, ps.length - a, w, E, by omega, by rw [hL]; rfl, by rw [hL]; rintro x ⟨⟩; exact ⟨fin (.inl h), hne⟩, rfl, rfl⟩
   · have h : l.length = 3 := by simp at h; omega
     conv => whnf
     repeat' ((first | refine AU ?_ | (refine IW (fun h => ?_) (fun h => ?_) <;> try (exfalso; omega))) <;> conv => whnf)
     refine CALL.aA [5] (Xv l (by omega) 0 l.length (by omega)) ?_
     rintro r O' nx' ⟨E, hE, _, rfl, rfl, rfl⟩
     conv => whnf
     exact FIN.here h0 (Oc := [(0, rd6 (a) (ps.length - a)), (2, tg6 (w) (E) [] [] 3 0 4 0 [])]) rfl rfl rfl ⟨rfl, rfl, trivial⟩ ⟨a, ps.length - a, w, E, by omega, by rw [hL]; rfl, by rw [hL]; rintro x ⟨⟩; exact ⟨fin (.inr h), hne⟩, rfl, rfl⟩
 · conv => whnf
   refine CALL.aA [0, 1] (XZ 4 8 false ps hsm i m him) ?_
   rintro r O' nx' ⟨rfl, rfl, rfl⟩
   conv => whnf
   refine IF.mk (fun h2 => ?_) (fun h2 => ?_)
   · obtain ⟨w, hw, hwm⟩ := ZH h2
     have hwm' := hwm
     rw [Xt] at hwm
     have hwl := XN hwm
     have hlt := (List.getElem?_eq_some_iff.1 hw).1
     obtain ⟨k, rfl⟩ : ∃ k, m = k + 1 := ⟨m - 1, by omega⟩
     have hne : w ≠ [] := by rintro rfl; simp at hwl
     have hL : J4 (ps.drop i) = some (ps.drop (i + 1)) := by
       rw [ZM hw]; simp only [J4]
       rw [if_pos (by rw [Z23, hwm', Bool.or_true]), if_pos (by omega)]
     conv => whnf
     refine CALL.aA [0, 1] (Yr ps i k him w hw) ?_
     rintro r O' nx' ⟨rfl, rfl, rfl⟩
     conv => whnf
     exact FIN.here h0 (Oc := [(0, rd6 (i + 1) (k)), (2, tg6 (w) ([]) [] [] 3 0 4 0 [])]) rfl rfl rfl ⟨rfl, rfl, trivial⟩ ⟨i + 1, k, w, [], by omega, by rw [hL]; rfl, by rw [hL]; rintro x ⟨⟩; exact ⟨rfl, hne⟩, rfl, rfl⟩
   · have hL : J4 (ps.drop i) = none := by
       rcases X8 h1 with h | ⟨s, hs, h3, h4⟩
       · rw [h]; rfl
       · rcases X8 h2 with h | ⟨s', hs', h5, h6⟩
         · rw [h] at h3; cases h3
         · rw [hs] at hs'; cases hs'
           rw [h3]; simp only [J4]; rw [if_neg (by rw [Z23, h4, h6]; simp)]
     conv => whnf
     exact FIN.here h0 (Oc := [(0, rd6 (i) (m)), (2, tg6 ([]) ([]) [] [] 3 0 4 0 [])]) rfl rfl rfl ⟨rfl, rfl, trivial⟩ ⟨i, m, [], [], by omega, by rw [hL]; rfl, by simp [hL], rfl, rfl⟩
end Go.Proofs.YtbfbokdccdagkaaGreatDoor
