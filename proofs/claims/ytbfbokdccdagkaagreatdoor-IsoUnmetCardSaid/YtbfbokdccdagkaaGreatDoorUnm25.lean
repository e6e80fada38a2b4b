/- Part 25: UnmetM. Conditions: as each part says. -/
import Derived.Test.YtbfbokdccdagkaaGreatDoorUnm8
set_option linter.unusedVariables false
set_option linter.unusedSimpArgs false
namespace Go.Our
open Go.Sx
theorem Zci{m m' a b c d b' c' d':Int}(h:(decB m a b c d).2≠0)(hm:m<=m')(hb:2<=m->b'=b)(hc:3<=m->c'=c)(hd:4<=m->d'=d):decB m' a b' c' d'=decB m a b c d:=by
 unfold decB at h⊢;by_cases a1:a<128
 ·rw[if_pos a1,if_pos a1]
 rw[if_neg a1]at h⊢;rw[if_neg a1];by_cases a2:a<192
 ·rw[if_pos a2]at h;exact(h rfl).elim
 rw[if_neg a2]at h⊢;rw[if_neg a2];by_cases a3:a<224
 ·rw[if_pos a3]at h⊢;rw[if_pos a3];split at h
  ·rename_i k;rw[hb k.1,if_pos ⟨by omega,k.2⟩,if_pos k]
  ·exact(h rfl).elim
 rw[if_neg a3]at h⊢;rw[if_neg a3];by_cases a4:a<240
 ·rw[if_pos a4]at h⊢;rw[if_pos a4];split at h
  ·rename_i k;rw[hb (by omega),hc k.1,if_pos ⟨by omega,k.2⟩,if_pos k]
  ·exact(h rfl).elim
 rw[if_neg a4]at h⊢;rw[if_neg a4];by_cases a5:a<248
 ·rw[if_pos a5]at h⊢;rw[if_pos a5];split at h
  ·rename_i k;rw[hb (by omega),hc (by omega),hd k.1,if_pos ⟨by omega,k.2⟩,if_pos k]
  ·exact(h rfl).elim
 rw[if_neg a5]at h;exact(h rfl).elim
theorem Ux{s R:List UInt8}{k:Int}(h0:0<=k)(h:k<s.length):Zi (s++R) k=Zi s k:=by
 unfold Zi;rw[List.getD_eq_getElem?_getD,List.getD_eq_getElem?_getD,List.getElem?_append_left (by omega)]
theorem Z7A{s R:List UInt8}{i:Nat}(h:(Za s i).2≠0):Za (s++R) i=Za s i:=by
 have hi:i<s.length:=Nat.lt_of_not_le fun h1=>h (Up h1);unfold Za at h⊢;rw[if_neg (by omega)]at h;rw[if_neg (by rw[List.length_append];omega),if_neg (by omega),Ux (by omega) (by omega)];exact Zci h (by rw[List.length_append];omega) (fun h=>Ux (by omega) (by omega)) (fun h=>Ux (by omega) (by omega)) (fun h=>Ux (by omega) (by omega))
theorem Zcj(s:List UInt8)(i:Nat)(hi:i<=s.length):∀l,scalarsM s i=some l->scalarsM (s++ [120]) i=some (l++ [120]):=by
 induction i using scalarsM.induct s with
 |case1 i h h0 ih=>
  intro l hl;have hn:=YX s i;have e:=Z7A (R:=[120]) h0;rw[scalarsM,dif_pos h,dif_pos h0]at hl;obtain⟨m,hm,rfl⟩:=Option.map_eq_some_iff.1 hl;rw[scalarsM,dif_pos (by rw[List.length_append];omega),dif_pos (by rw[e];exact h0),e,ih (by omega) m hm];rfl
 |case2 i h h0=>
  intro l hl;rw[scalarsM,dif_pos h,dif_neg h0]at hl;cases hl
 |case3 i h=>
  intro l hl;rw[scalarsM,dif_neg h]at hl;injection hl with hl;subst hl;have hie:i=s.length:=by omega
  subst hie
  have e:Za (s++ [120]) (s.length:Nat)=(120,1):=by
   unfold Za;rw[if_neg (by rw[List.length_append];simp;omega)]
   have:Zi (s++ [120]) (s.length:Nat)=120:=by
    unfold Zi;rw[Int.toNat_natCast,List.getD_eq_getElem?_getD,List.getElem?_append_right (Nat.le_refl _)];simp
   rw[this];unfold decB;rw[if_pos (by decide)]
  rw[scalarsM,dif_pos (by rw[List.length_append];simp),dif_pos (by rw[e];decide),e];rw[scalarsM,dif_neg (by rw[List.length_append];simp)];rfl
theorem Z8A:∀l:List Int,XR l=true->XR (l++ [120])=true
 | [],_=>by decide
 | [r],h=>by
   simp only[XR,decide_eq_true_eq]at h;show(decide (YQ r\/r=46)&&decide (YQ 120))=true
   rw[decide_eq_true (.inl h)];decide
 |r::q::l,h=>by
  simp only[XR,Bool.and_eq_true]at h;show(decide (YQ r\/r=46)&&XR (q::l++ [120]))=true
  rw[h.1,Z8A (q::l) h.2];rfl
theorem ZfA{s:List UInt8}(h:VY s=0):VY (s++ [120])=0:=by
 rw[Zd8]at h⊢;unfold Zb8 at h⊢;split at h
 ·rename_i r l hs;split at h
  ·rename_i hk;rw[Zcj s 0 (Nat.zero_le _) _ hs];exact if_pos ⟨hk.1,Z8A l hk.2⟩
  ·cases h
 ·cases h
theorem Z8B{s:List UInt8}(h:VY s=0):∀j,VY (xsL s j)=0
 |0=>by rw[Z71];exact h
 |j+1=>by rw[Z72];exact ZfA (Z8B h j)
theorem Z6y:∀{own U:List LB} {ps qs:List (LB×LB)},Ww own U ps=some qs->∃fr:List LB,fr.length=own.length/\qs=ps++own.zip fr/\fr.Nodup/\(∀u∈fr,u∉U)/\(∀p∈own.zip fr,p.2.length<=65536/\∃j,p.2=xsL p.1 (j+1))
 | [],U,ps,qs,h=>by
   injection h with h;exact⟨[],rfl,by rw[<-h];simp,List.nodup_nil,fun _ h=>(by cases h),fun _ h=>(by cases h)⟩
 |x::own,U,ps,qs,h=>by
  unfold Ww at h;split at h
  ·cases h
  ·rename_i hl;obtain⟨fr,h1,h2,h3,h4,h5⟩:=Z6y h;obtain⟨j,j1,j2⟩:=Zf3 U (x++ [120]);have e:=ZaK j1 j2;refine⟨Z4l U (x++ [120])::fr,by simp[h1],by rw[h2];simp,List.nodup_cons.2 ⟨fun hm=>h4 _ hm (by simp),h3⟩,fun u hu=>?_,fun p hp=>?_⟩
   ·rcases List.mem_cons.1 hu with rfl|hu
    ·rw[e];exact j2
    ·exact fun hm=>h4 u hu (by simp[hm])
   ·rw[List.zip_cons_cons]at hp;rcases List.mem_cons.1 hp with rfl|hp
    ·refine⟨by simpa using hl,j,?_⟩;show Z4l U (x++ [120])=_
     rw[e];unfold xsL;rw[List.append_assoc,show [(120:UInt8)]=List.replicate 1 120 from rfl,List.replicate_append_replicate,Nat.add_comm 1 j]
    ·exact h5 p hp
end Go.Our
