/- Part 47: LabD. Conditions: as each part says. -/
import Derived.Test.YtlcbipfmodcedaaGreatDoorCiso27
import Derived.Test.YtlcbipfmodcedaaGreatDoorCiso46
set_option linter.unusedVariables false
set_option linter.unusedSimpArgs false
namespace Go.Our
open Go.Sx Go.Lib
theorem Zf1{b:UInt8}(hb:b.toNat<128)(s:List UInt8)(i:Nat)(hi:i<=s.length):∀l,ur s i=some l->ur (s++ [b]) i=some (l++ [(b.toNat:Int)]):=by
 induction i using ur.induct s with
 |case1 i h h0 ih=>
  intro l hl;have hn:=Xa s i;have e:=Z9i (R:=[b]) h0;rw[ur,yx h,yx h0]at hl;obtain⟨m,hm,rfl⟩:=zH.1 hl;rw[ur,yx (by rw[ze];omega),yx (by rw[e];exact h0),e,ih (by omega) m hm];rfl
 |case2 i h h0=>
  intro l hl;rw[ur,yx h,yP h0]at hl;cases hl
 |case3 i h=>
  intro l hl;rw[ur,yP h]at hl;injection hl with hl;subst hl;have hie:i=s.length:=by omega
  subst hie
  have e:Zf (s++ [b]) (s.length:Nat)=((b.toNat:Int),1):=by
   unfold Zf;rw[z6 (by rw[ze];simp;omega)]
   have:Zm (s++ [b]) (s.length:Nat)=b.toNat:=by
    unfold Zm;rw[Int.toNat_natCast,zi,zz (zn _)];simp
   rw[this];unfold gG;rw[z8 (by omega)]
  rw[ur,yx (by rw[ze];simp),yx (by rw[e];show(1:Int)≠0;omega),e];rw[ur,yP (by rw[ze];simp)];rfl
theorem Ty{d:Nat}(h:48<=d/\d<=57):YK (d:Int):=by
 obtain rfl|rfl|rfl|rfl|rfl|rfl|rfl|rfl|rfl|rfl:d=48\/d=49\/d=50\/d=51\/d=52\/d=53\/d=54\/d=55\/d=56\/d=57:=by omega
 all_goals decide
theorem Tz{d:Nat}(hd:48<=d/\d<=57):∀l:List Int,J2 l=true->J2 (l++ [(d:Int)])=true
 | [],_=>by
   show decide (YK (d:Int))=true
   exact yA (Ty hd)
 | [r],h=>by
   simp only[J2,yN]at h;show(decide (YK r\/r=46)&&decide (YK (d:Int)))=true
   rw[yA (.inl h),yA (Ty hd)];rfl
 |r::q::l,h=>by
  simp only[J2,zk]at h;show(decide (YK r\/r=46)&&J2 (q::l++ [(d:Int)]))=true
  rw[h.1,Tz hd (q::l) h.2];rfl
theorem Zj9{s:List UInt8}{d:UInt8}(hd:48<=d.toNat/\d.toNat<=57)(h:U9 s=0):U9 (s++ [d])=0:=by
 rw[ZfT]at h⊢;unfold CT at h⊢;split at h
 .rename_i r l hs;split at h
  .rename_i hk;rw[Zf1 (by omega) s 0 (x8 _) _ hs];exact z8 ⟨hk.1,Tz hd l hk.2⟩
  cases h
 cases h
theorem bK:∀(ds:List UInt8) {s:List UInt8},(∀d∈ds,48<=d.toNat/\d.toNat<=57)->U9 s=0->U9 (s++ds)=0
 | [],s,_,h=>by rw[zU];exact h
 |d::ds,s,hd,h=>by
  have e:s++d::ds=(s++ [d])++ds:=by simp
  rw[e];exact bK ds (fun x hx=>hd x (zG _ hx)) (Zj9 (hd d (zF ..)) h)
theorem Zja(c:Int):U9 (bJ c)=0:=
 bK (decDigits c.toNat) (s:=[99]) (HI _) (by decide+kernel)
end Go.Our
