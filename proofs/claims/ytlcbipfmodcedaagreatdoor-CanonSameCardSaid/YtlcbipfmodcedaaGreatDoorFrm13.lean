/- Part 13: Utf04, Iri, Iri2, Names1, Part1, Names2, Part2. Conditions: as each part says. -/
import Derived.Test.YtlcbipfmodcedaaGreatDoorFrm8
set_option linter.unusedVariables false
set_option linter.unusedSimpArgs false
set_option maxRecDepth 20000
set_option maxHeartbeats 8000000
namespace Go.Proofs.YtlcbipfmodcedaaGreatDoor
open Go.Sx Go.Our
open _root_.Go.Proofs.Tryz
def H6:uu:=(Zs [(0,1),(1,1),(4,1),(5,1),(6,1),(2,2),(3,1),(7,2),(8,1),(9,1)])
def H7:uu:=(Zs [(0,1),(1,1),(2,1),(3,1),(6,1),(7,2),(4,3),(5,2),(8,1),(9,1)])
theorem Xv(r:Int):vS prog uf 302 0 [.int .i64 r] [] [] (uN (.bool (Ul r))):=by
 refine vS.enter Z0 call302 func302 rfl 17 rfl rfl [.tmp 2] rfl ?_;intro w0 F η0 h0;conv=>whnf
 skip
 refine u0.value h0 rfl (z8 SV.bool ?_);rw[zX,YT];simp only[x8,yw,xw,xC,zj,yU];omega
theorem J1(r:Int)(hr:0<=r/\r<=1114111):vS prog uf 274 0 [.int .i64 r] [] [] (Ni 0 (qK r)):=by
 refine vS.enter Z0 call274 func274 rfl 57 rfl rfl [.tmp 2] rfl ?_;intro w0 F η0 h0;conv=>whnf
 repeat'(first|refine AU ?_|refine IW ?_ ?_<;>intro h<;>try omega)<;>conv=>whnf
 all_goals
  refine u0.rows h0 0 1 _ rfl rfl rfl rfl ?_;unfold qK Go.Our.encI;simp(disch:=omega) only[↓zf,↓z7,zG,yP,MM,Z9,ZkE,ZkF];refine⟨rfl,?_,rfl⟩;simp(disch:=omega) only[zG,yP,<-Z9t]
theorem Z9C(a:UInt8):vS prog uf 272 1 [.sl (.loc 0) 0 1 1 none] [] [(0, .rows 1 ([a].map Sx.bytesRow))] (w6 1 (.int .i64 (Yc [a]))):=by
 have ha:=a.toNat_lt;refine vS.enter Z0 call272 func272 rfl 45 rfl rfl [.tmp 2] rfl ?_;intro w0 F η0 h0;conv=>whnf
 repeat'(first|refine Z4 2 H6 ?_|refine Z4 8 H7 ?_|refine wh.mk (fun _ _=>?_)|refine CALL.value (Xv _) rfl rfl ?_|refine vZ.once Z0 ?_|refine CALL.bytes (J1 _ (by simp(disch:=omega) only[YT,Z9,xU]at*;omega)) rfl ?_|refine u6.mk (Uk (by simp)) ?_|refine AU ?_|refine IW ?_ ?_<;>intro h<;>try omega)<;>conv=>whnf
 all_goals
  refine u0.ua h0 rfl (z8 (SV.int _) ?_);simp(disch:=omega) only[Z9,xU,yN,<-xQ,K9,y8,List.take_succ_cons,List.take_zero,Ul,yw,yl]at*
  simp_all[Yc,jc,bn]
theorem Z9D(a b:UInt8):vS prog uf 272 1 [.sl (.loc 0) 0 1 2 none] [] [(0, .rows 1 ([a,b].map Sx.bytesRow))] (w6 1 (.int .i64 (Yc [a,b]))):=by
 have ha:=a.toNat_lt;have hb:=b.toNat_lt;refine vS.enter Z0 call272 func272 rfl 45 rfl rfl [.tmp 2] rfl ?_;intro w0 F η0 h0;conv=>whnf
 repeat'(first|refine Z4 2 H6 ?_|refine Z4 8 H7 ?_|refine wh.mk (fun _ _=>?_)|refine CALL.value (Xv _) rfl rfl ?_|refine vZ.once Z0 ?_|refine CALL.bytes (J1 _ (by simp(disch:=omega) only[YT,Z9,xU]at*;omega)) rfl ?_|refine u6.mk (Uk (by simp)) ?_|refine AU ?_|refine IW ?_ ?_<;>intro h<;>try omega)<;>conv=>whnf
 all_goals
  refine u0.ua h0 rfl (z8 (SV.int _) ?_);simp(disch:=omega) only[Z9,xU,yN,<-xQ,K9,y8,List.take_succ_cons,List.take_zero,Ul,yw,yl]at*
  simp_all[Yc,jc,bn]
theorem Z9E(a b c:UInt8):vS prog uf 272 1 [.sl (.loc 0) 0 1 3 none] [] [(0, .rows 1 ([a,b,c].map Sx.bytesRow))] (w6 1 (.int .i64 (Yc [a,b,c]))):=by
 have ha:=a.toNat_lt;have hb:=b.toNat_lt;have hc:=c.toNat_lt;refine vS.enter Z0 call272 func272 rfl 45 rfl rfl [.tmp 2] rfl ?_;intro w0 F η0 h0;conv=>whnf
 repeat'(first|refine Z4 2 H6 ?_|refine Z4 8 H7 ?_|refine wh.mk (fun _ _=>?_)|refine CALL.value (Xv _) rfl rfl ?_|refine vZ.once Z0 ?_|refine CALL.bytes (J1 _ (by simp(disch:=omega) only[YT,Z9,xU]at*;omega)) rfl ?_|refine u6.mk (Uk (by simp)) ?_|refine AU ?_|refine IW ?_ ?_<;>intro h<;>try omega)<;>conv=>whnf
 all_goals
  refine u0.ua h0 rfl (z8 (SV.int _) ?_);simp(disch:=omega) only[Z9,xU,yN,<-xQ,K9,y8,List.take_succ_cons,List.take_zero,Ul,yw,yl]at*
  simp_all[Yc,jc,bn]
theorem Z9F(a b c d:UInt8):vS prog uf 272 1 [.sl (.loc 0) 0 1 4 none] [] [(0, .rows 1 ([a,b,c,d].map Sx.bytesRow))] (w6 1 (.int .i64 (Yc [a,b,c,d]))):=by
 have ha:=a.toNat_lt;have hb:=b.toNat_lt;have hc:=c.toNat_lt;have hd:=d.toNat_lt;refine vS.enter Z0 call272 func272 rfl 45 rfl rfl [.tmp 2] rfl ?_;intro w0 F η0 h0;conv=>whnf
 repeat'(first|refine Z4 2 H6 ?_|refine Z4 8 H7 ?_|refine wh.mk (fun _ _=>?_)|refine CALL.value (Xv _) rfl rfl ?_|refine vZ.once Z0 ?_|refine CALL.bytes (J1 _ (by simp(disch:=omega) only[YT,Z9,xU]at*;omega)) rfl ?_|refine u6.mk (Uk (by simp)) ?_|refine AU ?_|refine IW ?_ ?_<;>intro h<;>try omega)<;>conv=>whnf
 all_goals
  refine u0.ua h0 rfl (z8 (SV.int _) ?_);simp(disch:=omega) only[Z9,xU,yN,<-xQ,K9,y8,List.take_succ_cons,List.take_zero,Ul,yw,yl]at*
  simp_all[Yc,jc,bn]
theorem Zcd(l:List UInt8)(hl:1<=l.length/\l.length<=4):vS prog uf 272 1 [.sl (.loc 0) 0 1 l.length none] [] [(0, .rows 1 (l.map Sx.bytesRow))] (w6 1 (.int .i64 (Yc l))):=by
 match l,hl with
 | [a],_=>exact Z9C a
 | [a,b],_=>exact Z9D a b
 | [a,b,c],_=>exact Z9E a b c
 | [a,b,c,d],_=>exact Z9F a b c d
 | [],h=>simp at h
 |_::_::_::_::_::_,h=>simp at h
theorem WQ(s:List UInt8)(i:Int)(hs:Sm s):vS prog uf 225 0 [.str s, .int .i64 i] [] [] (uN (.uz [.int .i64 (Zc s i).1, .int .i64 (Zc s i).2])):=by
 refine vS.enter Z0 call225 func225 rfl 40 rfl rfl [.tmp 4, .tmp 5] rfl ?_;intro w0 F η0 h0;conv=>whnf
 repeat'(first|refine vZ.once Z0 ?_|refine CALL.kT _ (Zcd _ (by simp(disch:=omega) only[Z9,zq,zD];omega)) rfl rfl rfl rfl (XI _) rfl ?_|refine AU ?_|refine IW ?_ ?_<;>intro h<;>try omega)<;>conv=>whnf
 all_goals
  refine u0.value h0 rfl ?_
  first
   |(unfold Zc;rw[zf (by assumption)])
   |(rw[Z8c (by omega)];simp(disch:=omega) only[↓zf,↓z7,Z9,Int.reduceAdd])
theorem W4(s:List UInt8)(hs:Sm s):vS prog uf 224 0 [.str s] [] [] (uN (.int .i64 (eM s 0))):=by
 refine vS.enter Z0 call224 func224 rfl 22 rfl rfl [.tmp 2] rfl ?_;intro w0 F η0 h0;conv=>whnf
 refine vZ.go Z0 [0] (X:=Nat) (fun i=>i<=s.length/\eM s i=eM s 0) (fun i=>[(3, .int .i64 (i:Int))]) (fun _=>[]) 0 (fun i=>s.length-i) 0 ⟨by omega,rfl⟩ ?_;conv=>whnf
 refine⟨by exact vU.cA h0,?_⟩;rintro i ⟨hi,hc⟩;conv=>whnf
 have hn:=YY s i;repeat'(first|refine CALL.value (WQ s _ hs) rfl rfl ?_|refine IW ?_ ?_<;>intro h<;>try omega)<;>conv=>whnf
 .have hz:(Zc s i).2=0:=h;refine u0.value h0 rfl ?_;rw[<-hc,Fq (by omega) hz]
 .rename_i h1;refine⟨i+(Zc s i).2.toNat,⟨by omega,?_⟩,by omega,?_⟩;rw[<-hc,<-Fs (by omega) h]
  .conv=>whnf
   exact vU.cA h0
 .refine u0.value h0 rfl ?_;rw[<-hc,DE (by omega)]
end Go.Proofs.YtlcbipfmodcedaaGreatDoor
namespace Go.Proofs.YtlcbipfmodcedaaGreatDoor
open Go.Sx Go.Our
open _root_.Go.Proofs.Tryz
theorem Z2q(c:Int):vS prog uf 280 0 [.int .u8 c] [] [] (uN (.bool (VP c))):=by
 refine vS.enter Z0 call280 func280 rfl 16 rfl rfl [.tmp 2] rfl ?_;intro w0 F η0 h0;conv=>whnf
 repeat'(first|refine AU ?_|refine IW ?_ ?_<;>intro h<;>try omega)<;>conv=>whnf
 all_goals
  refine u0.value h0 rfl (z8 SV.bool ?_);rw[zX,MR];unfold Our.Barred;simp;try omega
theorem Z2r(c:Int):vS prog uf 281 0 [.int .u8 c] [] [] (uN (.bool (decide (XY c)))):=by
 refine vS.enter Z0 call281 func281 rfl 17 rfl rfl [.tmp 2] rfl ?_;intro w0 F η0 h0;conv=>whnf
 skip
 refine u0.value h0 rfl (z8 SV.bool ?_);rw[zX];simp only[x8,yw,xw,xC,zj,yU]
 rfl
theorem Z49(c:Int):vS prog uf 282 0 [.int .u8 c] [] [] (uN (.bool (decide (48<=c/\c<=57)))):=by
 refine vS.enter Z0 call282 func282 rfl 9 rfl rfl [.tmp 2] rfl ?_;intro w0 F η0 h0;conv=>whnf
 skip
 refine u0.value h0 rfl (z8 SV.bool ?_);rw[zX];simp only[x8,yw,xw,xC,zj,yU]
theorem Z0i(s:List UInt8)(hs:Sm s):vS prog uf 240 0 [.str s] [] [] (uN (.int .i64 (dN s))):=by
 refine vS.enter Z0 call240 func240 rfl 20 rfl rfl [.tmp 2] rfl ?_;intro w0 F η0 h0;conv=>whnf
 repeat'(first|refine CALL.value (W4 s hs) rfl rfl ?_|refine IW ?_ ?_<;>intro h<;>try omega)<;>conv=>whnf
 .refine u0.value h0 rfl ?_;unfold dN;rw[zf (by omega)]
 .refine u0.value h0 rfl ?_;unfold dN;rw[z7 (by omega),zf (by omega)]
 refine vZ.go Z0 [0] (X:=Nat) (fun i=>i<=s.length/\gp VP s i=gp VP s 0) (fun i=>[(3, .int .i64 (i:Int))]) (fun i=>[]) 0 (fun i=>s.length-i) 0 ⟨by omega,rfl⟩ ?_;conv=>whnf
 refine⟨by exact vU.cA h0,?_⟩;rintro i ⟨hi,hc⟩;conv=>whnf
 repeat'(first|refine CALL.value (Z2q _) rfl rfl ?_|refine AU ?_|refine IW ?_ ?_<;>intro h<;>try omega)<;>conv=>whnf
 .refine u0.value h0 rfl ?_;unfold dN;rw[z7 (by omega),z7 (by omega),<-hc,KJ (by omega),h];rfl
 .refine⟨i+1,⟨by omega,?_⟩,by omega,?_⟩;rw[<-hc,KJ (i:=i) (by omega),h,xE]
  .conv=>whnf
   exact vU.cA h0
 .refine u0.value h0 rfl ?_;unfold dN;rw[z7 (by omega),z7 (by omega),<-hc,Cr (by omega)];rfl
theorem Z2s(s:List UInt8)(hs:Sm s):vS prog uf 241 0 [.str s] [] [] (uN (.int .i64 (qL s 0))):=by
 refine vS.enter Z0 call241 func241 rfl 41 rfl rfl [.tmp 2] rfl ?_;intro w0 F η0 h0;conv=>whnf
 refine vZ.go Z0 [0] (X:=Nat) (fun i=>i<=s.length/\qL s i=qL s 0) (fun i=>[(3, .int .i64 (i:Int))]) (fun i=>[]) 0 (fun i=>s.length-i) 0 ⟨by omega,rfl⟩ ?_;conv=>whnf
 refine⟨by exact vU.cA h0,?_⟩;rintro i ⟨hi,hc⟩;conv=>whnf
 repeat'(first|refine CALL.value (Z2r _) rfl rfl ?_|refine CALL.value (Z49 _) rfl rfl ?_|refine AU ?_|refine IW ?_ ?_<;>intro h<;>try omega)<;>conv=>whnf
 all_goals first
  |(refine u0.value h0 rfl ?_;rw[<-hc];first|rw[Wu (by omega) (by assumption)]|(rw[Ct (by omega) (by assumption) (by unfold dO;rintro(h|h)<;>first|contradiction|omega)])|rw[FV (by omega)])
  |(refine⟨i+1,⟨by omega,?_⟩,by omega,?_⟩
    rw[<-hc,<-Cs (by omega) (by assumption) (by first|(left;assumption)|(right;unfold dO;omega))]
    .conv=>whnf
     exact vU.cA h0)
open _root_.Go.Proofs.Tryz
def Zin:uu:=(Zs [(0,1),(1,1),(2,1),(3,1),(4,1),(5,1),(6,1)])
def Zio:uu:=(Zs [(0,1),(1,1),(2,1),(3,1),(4,1),(5,1),(6,1),(7,3),(8,1)])
theorem W5(s:List UInt8)(hs:Sm s):vS prog uf 192 0 [.str s] [] [] (uN (.int .i64 (dP s))):=by
 refine vS.enter Z0 call192 func192 rfl 14 rfl rfl [.tmp 2] rfl ?_;intro w0 F η0 h0;conv=>whnf
 repeat'(first|refine CALL.value (Z0i s hs) rfl rfl ?_|refine CALL.value (Z2s s hs) rfl rfl ?_|refine AU ?_|refine IW ?_ ?_<;>intro h<;>try omega)<;>conv=>whnf
 all_goals
  refine u0.value h0 rfl (z8 (SV.int _) ?_);unfold dP
  simp_all
def tE(r:Int):Int:=if 0<=r/\r<128 then Lib.indexByte bars (IntKind.u8.wrap r).toNat.toUInt8 else-1
theorem Z4O(r:Int)(hr:Yp r):vS prog uf 294 0 [.str bars, .int .i32 r] [] [] (uN (.int .i64 (tE r))):=by
 have hlen:bars.length=9:=rfl;refine vS.enter Z0 call294 func294 rfl 187 rfl rfl [.tmp 4] rfl ?_;intro w0 F η0 h0;conv=>whnf
 repeat'(first|refine CALL.value (WR _ _) rfl rfl ?_|refine CALL.value (Z4M _) rfl rfl ?_|refine IW ?_ ?_<;>intro h<;>try omega)<;>conv=>whnf
 .refine u0.value h0 rfl ?_;unfold tE;rw[zf h]
 .subst h;refine vZ.go Z0 [175] (X:=Nat) (fun i=>i<=9) (fun i=>[]) (fun i=>[(0, .wu bars i)]) 1 (fun i=>9-i) 0 (by omega) ?_;conv=>whnf
  refine⟨by exact vU.cA h0,?_⟩;intro i hi;conv=>whnf
  refine⟨fun h=>?_,fun h=>?_⟩
  .have h:i<bars.length:=by simpa using h
   have hd:=Wt (Cu i);have hb:=ZJ bars i;conv=>whnf
   refine IF.tt ?_;conv=>whnf
   refine IF.no (by rw[show Utf8.decode ⟨bars.toArray⟩ i=_ from hd];have:=Cu i;simp;omega) ?_;conv=>whnf
   refine⟨i+(qp bars i).2,by rw[hd];show i+1<=9;omega,by rw[hd];show 9-(i+1)<9-i;omega,?_⟩;conv=>whnf
   exact vU.cA h0
  .conv=>whnf
   refine IF.ff ?_;conv=>whnf
   refine u0.value h0 rfl ?_;unfold tE;rw[z7 (by omega)]
 .rw[Nl]at h;exact(h hr).elim
 .have hl:=Zgb (r:=r) (by unfold Yp at hr;omega);have hh:=Zeh hr (by unfold Yp at hr;omega);have he:=Zeg hr;rw[he];have hm:=Zc5 (s:=qK r) (i:=((qK r).length:Int)-1) (by omega)
  have hm2:128<=Z1 (qK r) (((qK r).length:Int)-1):=by
   obtain⟨c,hc,e⟩:=hm;rw[e];exact hh c hc
  have hm3:=ZJ (qK r) (((qK r).length:Int)-1);have hm4:=Cu (((qK r).length:Int)-1);refine vZ.once Z0 ?_;conv=>whnf
  repeat'(first|refine Z4 6 Zin ?_|refine Z4 7 Zio ?_|refine wh.mk (fun _ _=>?_)|refine CALL.value (WR _ _) rfl rfl ?_|refine AU ?_|refine IW ?_ ?_<;>intro h<;>try omega)<;>conv=>whnf
  .refine u0.value h0 rfl ?_;unfold tE;rw[z7 (by unfold Yp at hr;omega)]
  .have:=Zge (l:=List.drop (((qK r).length:Int)-1+1).toNat bars) (c:=Z1 (qK r) (((qK r).length:Int)-1)) (by omega) (fun b hb=>Zgd b (vr hb));rw[this]at h;omega
theorem Z1x(r:Int)(hr:Yp r):vS prog uf 251 0 [.str bars, .int .i32 r] [] [] (uN (.bool (decide (0<=tE r)))):=by
 refine vS.enter Z0 call251 func251 rfl 9 rfl rfl [.tmp 4] rfl ?_;intro w0 F η0 h0;conv=>whnf
 repeat'(first|refine CALL.value (Z4O r hr) rfl rfl ?_)<;>conv=>whnf
 exact u0.value h0 rfl rfl
theorem Zip{r:Int}(hr:Yp r):(r<=32\/0<=tE r)<->Our.Barred r:=by
 unfold Yp at hr;unfold tE;by_cases h:0<=r/\r<128
 .rw[zf h];have:∀n:Nat,n<128->(((n:Int)<=32\/0<=Lib.indexByte bars (IntKind.u8.wrap (n:Int)).toNat.toUInt8)<->Our.Barred (n:Int)):=by decide+kernel
  have:=this r.toNat (by omega);rwa [show((r.toNat:Nat):Int)=r by omega]at this
 .rw[z7 h];unfold Our.Barred;omega
theorem Z9G(r:Int)(hr:Yp r):vS prog uf 205 0 [.int .i32 r] [] [] (uN (.bool (VP r))):=by
 refine vS.enter Z0 call205 func205 rfl 9 rfl rfl [.tmp 2] rfl ?_;intro w0 F η0 h0;conv=>whnf
 repeat'(first|refine CALL.value (Z1x r hr) rfl rfl ?_|refine AU ?_|refine IW ?_ ?_<;>intro h<;>try omega)<;>conv=>whnf
 all_goals
  refine u0.value h0 rfl (z8 SV.bool ?_);rw[zX,MR,<-Zip hr];simp;try omega
theorem Z4P(s:List UInt8)(hs:Sm s):vS prog uf 157 0 [.str s] [] [] (uN (.int .i64 (dN s))):=by
 have hp:∀c:Int,128<=c->VP c=false:=fun c hc=>by rw[Z6t];unfold Our.Barred;omega
 refine vS.enter Z0 call157 func157 rfl 15 rfl rfl [.tmp 2] rfl ?_;intro w0 F η0 h0;conv=>whnf
 repeat'(first|refine CALL.value (Lc s hs) rfl rfl ?_|refine CALL.value (Z4N _ VP (fun r hr=>Z9G r hr) s hs) rfl rfl ?_|refine IW ?_ ?_<;>intro h<;>try omega)<;>conv=>whnf
 all_goals
  refine u0.value h0 rfl (z8 (SV.int _) ?_);unfold dN
 rw[zf (by omega)];rw[z7 (by omega),zf (by omega)]
 all_goals
  rename_i h1 h2
  have hc:eM s 0= -1:=by
   have:=ZjD s 0;omega
  have:=Z8d VP hp s 0 hc;rw[z7 (by omega),z7 (by omega)]
 rw[zf (this.1 h)];rw[z7 (fun h'=>by have:=this.2 h';omega)]
theorem Z9H(s:List UInt8)(hs:Sm s):vS prog uf 158 0 [.str s] [] [] (uN (.str (s.take (qL s 0).toNat))):=by
 refine vS.enter Z0 call158 func158 rfl 61 rfl rfl [.tmp 2] rfl ?_;intro w0 F η0 h0;conv=>whnf
 refine vZ.go Z0 [0,7] (X:=Nat) (fun i=>i<=s.length/\qL s i=qL s 0) (fun i=>[]) (fun i=>[(0, .wu s i)]) 1 (fun i=>s.length-i) 0 ⟨by omega,rfl⟩ ?_;conv=>whnf
 refine⟨by exact vU.cA h0,?_⟩;rintro i ⟨hi,hc⟩;conv=>whnf
 refine⟨fun h=>?_,fun h=>?_⟩
 .have h:i<s.length:=by simpa using h
  have hf:=Co s i h;have hp:=FU s i;have hb:=ZJ s i
  have hd:((qp s i).1:Int)=Z1 s i/\(qp s i).2=1\/128<=Z1 s i/\128<=(qp s i).1:=by
   by_cases ha:Z1 s i<128
   left;rw[Wt ha];simp;omega
   right;exact⟨by omega,Cp (by omega)⟩
  unfold qp at*;generalize Utf8.decode ⟨s.toArray⟩ i=d at*;obtain⟨r,n⟩:=d;simp only at hf hp hd;conv=>whnf
  repeat'(first|refine AU ?_|refine IW ?_ ?_<;>intro h<;>try omega)<;>conv=>whnf
  all_goals first
   |(have hn:n=1:=by omega
     subst hn;refine⟨i+1,⟨hf,?_⟩,by omega,?_⟩;rw[<-hc,<-Cs (by omega) (by omega) (by unfold XY dO;omega)]
     .conv=>whnf
      exact vU.cA h0)
   |(refine u0.value h0 rfl (z8 SV.str ?_);rw[<-hc,Wu (by omega) (by omega)])
   |(refine u0.value h0 rfl (z8 SV.str ?_);rw[<-hc]
     by_cases Ld:Z1 s i=58
     rw[Wu (by omega) Ld];rw[show(i:Int)=0 by omega];rfl
     rw[Ct (by omega) Ld (by unfold XY dO;omega)];rfl)
 .have h:s.length<=i:=by simpa using h
  conv=>whnf
  repeat'(first|refine AU ?_)<;>conv=>whnf
  refine u0.value h0 rfl ?_;rw[<-hc,FV h];rfl
theorem Le(s:List UInt8)(hs:Sm s):vS prog uf 121 0 [.str s] [] [] (uN (.int .i64 (dP s))):=by
 have hr:=Zgc s 0;refine vS.enter Z0 call121 func121 rfl 12 rfl rfl [.tmp 2] rfl ?_;intro w0 F η0 h0;conv=>whnf
 repeat'(first|refine CALL.value (Z4P s hs) rfl rfl ?_|refine CALL.value (Z9H s hs) rfl rfl ?_|refine IW ?_ ?_<;>intro h<;>try omega)<;>conv=>whnf
 .refine u0.value h0 rfl (z8 (SV.int _) ?_);unfold dP;rw[zf h]
 .rename_i h1;refine u0.value h0 rfl (z8 (SV.int _) ?_);unfold dP;rw[z7 (by omega),zf]
  have hz:(s.take (qL s 0).toNat).length=0:=by
   have:s.take (qL s 0).toNat=[]:=h;rw[this];rfl
  rw[zq]at hz;by_cases hl:s.length=0
  rw[FV (by omega)];omega
 .rename_i h1;refine u0.value h0 rfl (z8 (SV.int _) ?_);unfold dP;rw[z7 (by omega),z7];intro h2;apply h;rw[h2];rfl
open _root_.Go.Proofs.Tryz
theorem Lf(r:Int):vS prog uf 299 0 [.int .i32 r] [] [] (uN (.bool (decide (XY r)))):=by
 refine vS.enter Z0 call299 func299 rfl 17 rfl rfl [.tmp 2] rfl ?_;intro w0 F η0 h0;conv=>whnf
 skip
 refine u0.value h0 rfl (z8 SV.bool ?_);rw[zX];simp only[x8,yw,xw,xC,zj,yU]
 rfl
theorem Vk(r:Int):vS prog uf 254 0 [.int .i32 r] [] [] (uN (.bool (decide (W3 r)))):=by
 refine vS.enter Z0 call254 func254 rfl 9 rfl rfl [.tmp 2] rfl ?_;intro w0 F η0 h0;conv=>whnf
 skip
 refine u0.value h0 rfl (z8 SV.bool ?_);rw[zX];simp only[x8,yw,xw,xC,zj,yU]
 rfl
theorem Zce(r:Int):vS prog uf 295 0 [.int .i32 r] [] [] (uN (.bool (decide (nh r)))):=by
 refine vS.enter Z0 call295 func295 rfl 25 rfl rfl [.tmp 2] rfl ?_;intro w0 F η0 h0;conv=>whnf
 repeat'(first|refine CALL.value (Lf _) rfl rfl ?_|refine vZ.once Z0 ?_|refine AU ?_|refine IW ?_ ?_<;>intro h<;>try omega)<;>conv=>whnf
 all_goals
  refine u0.value h0 rfl (z8 SV.bool ?_)
  first
   |exact vv.2 (by unfold XY nh;omega)
   |exact(yq (by unfold nh;omega)).symm
   |exact(y5 (by unfold nh;omega)).symm
theorem Lg(r:Int):vS prog uf 253 0 [.int .i32 r] [] [] (uN (.bool (decide (mT r)))):=by
 refine vS.enter Z0 call253 func253 rfl 9 rfl rfl [.tmp 2] rfl ?_;intro w0 F η0 h0;conv=>whnf
 repeat'(first|refine CALL.value (Zce _) rfl rfl ?_)<;>conv=>whnf
 all_goals
  refine u0.value h0 rfl (z8 SV.bool ?_);rw[zX,yx];unfold mT;simp
theorem Z4Q(r:Int):vS prog uf 252 0 [.int .i32 r] [] [] (uN (.bool (decide (X0 r)))):=by
 refine vS.enter Z0 call252 func252 rfl 33 rfl rfl [.tmp 2] rfl ?_;intro w0 F η0 h0;conv=>whnf
 repeat'(first|refine CALL.value (Lg _) rfl rfl ?_|refine CALL.value (Vk _) rfl rfl ?_|refine AU ?_|refine IW ?_ ?_<;>intro h<;>try omega)<;>conv=>whnf
 all_goals
  refine u0.value h0 rfl (z8 SV.bool ?_);rw[zX];unfold X0
  simp_all
  try omega
theorem Z8m(r:Int):vS prog uf 207 0 [.int .i32 r] [] [] (uN (.bool (decide (Vh r)))):=by
 refine vS.enter Z0 call207 func207 rfl 9 rfl rfl [.tmp 2] rfl ?_;intro w0 F η0 h0;conv=>whnf
 repeat'(first|refine CALL.value (Lg _) rfl rfl ?_|refine CALL.value (Vk _) rfl rfl ?_|refine AU ?_|refine IW ?_ ?_<;>intro h<;>try omega)<;>conv=>whnf
 all_goals
  refine u0.value h0 rfl (z8 SV.bool ?_);unfold Vh
  simp_all
theorem Zen(g:Nat)(p:Int->Prop)[DecidablePred p](hp:∀r:Int,vS prog uf g 0 [.int .i32 r] [] [] (uN (.bool (decide (p r)))))(s:List UInt8)(i:Int)(hs:Sm s):vS prog uf 206 0 [.str s, .int .i64 i, .fn (.func g) [] []] [] [] (uN (.int .i64 (runM p s i))):=by
 have hn:=YY s i;refine vS.enter Z0 call206 func206 rfl 55 rfl rfl [.tmp 6] rfl ?_;intro w0 F η0 h0;conv=>whnf
 repeat'(first|refine CALL.value (CG s _ hs) rfl rfl ?_|refine CALL.value (hp _) rfl rfl ?_|refine AU ?_|refine IW ?_ ?_<;>intro h<;>try omega)<;>conv=>whnf
 exact u0.value h0 rfl (z8 (SV.int _) (by unfold runM;rw[zf (.inl h)]));exact u0.value h0 rfl (z8 (SV.int _) (by unfold runM;rw[zf (.inr h)]));rename_i h1
 have hi:0<=i/\i<s.length:=by
  apply xS;intro hh;exact h1 (by unfold Zc;rw[zf (by omega)])
 refine vZ.go Z0 [0,1] (X:=Nat×Nat) (fun x=>x.1<=s.length/\x.2<=x.1/\qG s x.1 x.2=qG s (i.toNat+(Zc s i).2.toNat) (i.toNat+(Zc s i).2.toNat)) (fun x=>[(10, .int .i64 (x.1:Int)),(9, .int .i64 (x.2:Int))]) (fun i=>[]) 0 (fun x=>s.length-x.1) (i.toNat+(Zc s i).2.toNat,i.toNat+(Zc s i).2.toNat) ⟨by omega,by omega,rfl⟩ ?_;conv=>whnf
 refine⟨by exact vU.cA h0,?_⟩;rintro⟨j,e⟩ ⟨hj,he,hc⟩;simp only at hj he hc;have hn':=YY s j;conv=>whnf
 repeat'(first|refine CALL.value (CG s _ hs) rfl rfl ?_|refine CALL.value (Z4Q _) rfl rfl ?_|refine AU ?_|refine IW ?_ ?_<;>intro h<;>try omega)<;>conv=>whnf
 all_goals first
  |(refine u0.value h0 rfl (z8 (SV.int _) ?_)
    unfold runM;rw[z7 (by simp[*]),<-hc,Cw (by simp[*])]
    simp(disch:=omega) only[Z9])
  |(refine⟨(j+(Zc s j).2.toNat,if(Zc s j).1=46 then e else j+(Zc s j).2.toNat),⟨by simp only;omega,by simp only;split<;>omega,?_⟩,by simp only;omega,?_⟩
    .simp only;rw[<-hc,<-Cv (by simp[*])]
    .conv=>whnf
     simp only[*,yJ,xG]
     exact vU.cA h0)
theorem Z6x(s:List UInt8)(i:Int)(hs:Sm s):vS prog uf 159 0 [.str s, .int .i64 i] [] [] (uN (.int .i64 (runM Vh s i))):=by
 refine vS.enter Z0 call159 func159 rfl 8 rfl rfl [.tmp 4] rfl ?_;intro w0 F η0 h0;conv=>whnf
 repeat'(first|refine CALL.value (Zen _ Vh (fun r=>Z8m r) s i hs) rfl rfl ?_)<;>conv=>whnf
 exact u0.value h0 rfl rfl
theorem Z9I(s:List UInt8)(hs:Sm s):vS prog uf 122 0 [.str s] [] [] (uN (.int .i64 (iW s))):=by
 refine vS.enter Z0 call122 func122 rfl 14 rfl rfl [.tmp 2] rfl ?_;intro w0 F η0 h0;conv=>whnf
 repeat'(first|refine CALL.value (Z6x s _ hs) rfl rfl ?_|refine IW ?_ ?_<;>intro h<;>try omega)<;>conv=>whnf
 exact u0.value h0 rfl (z8 (SV.int _) (by unfold iW;rw[zf (by simpa using h)]));exact u0.value h0 rfl (z8 (SV.int _) (by unfold iW;rw[z7 (by simp;exact h)]))
open _root_.Go.Proofs.Tryz
theorem Vl(s:List UInt8)(least most:Int)(pure:Bool)(hs:Sm s):vS prog uf 260 0 [.str s, .int .i64 least, .int .i64 most, .bool pure] [] [] (uN (.bool (ZH s least most pure))):=by
 refine vS.enter Z0 call260 func260 rfl 37 rfl rfl [.tmp 8] rfl ?_;intro w0 F η0 h0;conv=>whnf
 refine vZ.go Z0 [0,1,2,3,12] (X:=Nat) (fun i=>i<=s.length/\qq (JT pure) s i=qq (JT pure) s 0) (fun i=>[]) (fun i=>[(0, .wu s i)]) 1 (fun i=>s.length-i) 0 ⟨by omega,rfl⟩ ?_;conv=>whnf
 refine⟨by exact vU.cA h0,?_⟩;rintro i ⟨hi,hc⟩;conv=>whnf
 refine⟨fun h=>?_,fun h=>?_⟩
 .have h:i<s.length:=by simpa using h
  have hf:=Co s i h;have hp:=FU s i
  have hd:((qp s i).1:Int)=Z1 s i/\(qp s i).2=1\/128<=Z1 s i/\128<=(qp s i).1:=by
   have hb:=ZJ s i;by_cases ha:Z1 s i<128
   left;rw[Wt ha];simp;omega
   right;exact⟨by omega,Cp (by omega)⟩
  unfold qp at*;generalize Utf8.decode ⟨s.toArray⟩ i=d at*;obtain⟨r,n⟩:=d;simp only at hf hp hd
  have key:qq (JT pure) s 0=(JT pure r&&qq (JT pure) s (i+n))\/128<=r/\qq (JT pure) s 0=false:=by
   rcases hd with⟨h1,rfl⟩|⟨h1,h2⟩
   left;rw[<-hc,JJ h,h1]
   right;exact⟨h2,by rw[<-hc,JJ h,MU h1,Bool.false_and]⟩
  conv=>whnf
  repeat'(first|refine CALL.value (Lf _) rfl rfl ?_|refine CALL.value (Vk _) rfl rfl ?_|refine AU ?_|refine IW ?_ ?_<;>intro h<;>try omega)<;>conv=>whnf
  all_goals first
   |(refine u0.value h0 rfl (z8 SV.bool ?_)
     have h1:JT pure r=false:=by unfold JT Vi XJ;simp[*]
     have h2:qq (JT pure) s 0=false:=by rcases key with h|h<;>simp[h,h1]
     unfold ZH;rw[h2];rfl)
   |(have h1:JT pure r=true:=by unfold JT Vi XJ;simp[*]
     refine⟨i+n,⟨hf,?_⟩,by omega,?_⟩
     .rcases key with h|h
      rw[h,h1,xd];rw[MU (by omega)]at h1;cases h1
     .conv=>whnf
      exact vU.cA h0)
 .have h:s.length<=i:=by simpa using h
  conv=>whnf
  repeat'(first|refine AU ?_)<;>conv=>whnf
  all_goals
   refine u0.value h0 rfl (z8 SV.bool ?_);unfold ZH;rw[<-hc,Wv h,zX];simp[x8]
theorem VD(s:List UInt8):vS prog uf 211 0 [.str s] [] [] (uN (.bool (Y2 s))):=by
 refine vS.enter Z0 call211 func211 rfl 9 rfl rfl [.tmp 2] rfl ?_;intro w0 F η0 h0;conv=>whnf
 skip
 refine u0.value h0 rfl (z8 SV.bool ?_);unfold Y2;rw[zX];simp[x8]
theorem Lh(s:List UInt8)(hs:Sm s):vS prog uf 263 0 [.str s] [] [] (uN (.bool (Xf s))):=by
 have b0:=ZJ s 0;have b1:=ZJ s 1;have b2:=ZJ s 2;refine vS.enter Z0 call263 func263 rfl 28 rfl rfl [.tmp 2] rfl ?_;intro w0 F η0 h0;conv=>whnf
 repeat'(first|refine CALL.value (Vl _ _ _ _ hs) rfl rfl ?_|refine CALL.value (Vk _) rfl rfl ?_|refine AU ?_|refine IW ?_ ?_<;>intro h<;>try omega)<;>conv=>whnf
 all_goals
  refine u0.value h0 rfl (z8 SV.bool ?_);unfold Xf XJ;try simp(disch:=omega) only[Zp]at*
  simp_all
  try omega
theorem VE(s:List UInt8)(hs:Sm s):vS prog uf 264 0 [.str s] [] [] (uN (.bool (Jn s))):=by
 have b0:=ZJ s 0;have hm:ZH s 4 4 false=true->s.length=4:=by unfold ZH;simp;omega
 refine vS.enter Z0 call264 func264 rfl 15 rfl rfl [.tmp 2] rfl ?_;intro w0 F η0 h0;conv=>whnf
 repeat'(first|refine CALL.value (Vl _ _ _ _ hs) rfl rfl ?_|refine CALL.value (Vk _) rfl rfl ?_|refine u6.mk (by have:=hm (by assumption);omega) ?_|refine AU ?_|refine IW ?_ ?_<;>intro h<;>try omega)<;>conv=>whnf
 all_goals
  refine u0.value h0 rfl (z8 SV.bool ?_);unfold Jn XJ;try simp(disch:=omega) only[Zp]at*
  simp_all
theorem Xm(s:List UInt8)(hs:Sm s):vS prog uf 162 0 [.str s] [] [] (uN (.str (Z7 s))):=by
 refine vS.enter Z0 call162 func162 rfl 29 rfl rfl [.tmp 2] rfl ?_;intro w0 F η0 h0;conv=>whnf
 repeat'(first|refine AU ?_)<;>conv=>whnf
 refine vZ.go Z0 [3,8,9] (X:=Nat) (fun i=>i<=s.length) (fun i=>[(10, .int .i64 (i:Int))]) (fun i=>[(0, .rows 1 ((qU s i).map Sx.bytesRow))]) 1 (fun i=>s.length-i) 0 (by omega) ?_;conv=>whnf
 refine⟨by(refine vU.wE h0 rfl rfl rfl (by first|rfl|(simp only[Zl,Zh,Z2 _ (XI _),zB,zF]<;>rfl)) ?_ ?_<;>(repeat'(first|(with_reducible rfl)|(exact YA rfl (by first|(simp;done)|omega|(simp;omega)))|(exact z8 (SV.int _) (by first|omega|(simp(disch:=omega) only[wI,Z9,Zp]<;>omega)|(simp;done)|(simp<;>omega)))|(exact z8 (Hp.rows _) (by rw[MX]))|((conv=>whnf);refine⟨?_,?_⟩)|exact trivial|rfl))),?_⟩;intro i hi;have hlen:=MW s i;conv=>whnf
 repeat'(first|refine GET.at (row:=Sx.bytesRow (s[i]'(by omega))) (by rw[show 0+(i:Int).toNat=i by omega];exact Cz (by omega)) ?_|refine AU ?_|refine IW ?_ ?_<;>intro h<;>try omega)<;>conv=>whnf
 .have hl:i<s.length:=by omega
  refine⟨i+1,by omega,by omega,?_⟩;conv=>whnf
  (refine vU.wE h0 rfl rfl rfl (by first|rfl|(simp only[Zl,Zh,Z2 _ (XI _),zB,zF]<;>rfl)) ?_ ?_<;>(repeat'(first|(with_reducible rfl)|(exact YA rfl (by first|(simp;done)|omega|(simp;omega)))|(exact z8 (SV.int _) (by first|omega|(simp(disch:=omega) only[wI,Z9,Zp]<;>omega)|(simp;done)|(simp<;>omega)))|(exact z8 (Hp.rows _) (by rw[L2 h,show 0+(i:Int).toNat=i by omega,L0 hl]))|((conv=>whnf);refine⟨?_,?_⟩)|exact trivial|rfl)))
 .have hl:i<s.length:=by omega
  refine⟨i+1,by omega,by omega,?_⟩;conv=>whnf
  (refine vU.wE h0 rfl rfl rfl (by first|rfl|(simp only[Zl,Zh,Z2 _ (XI _),zB,zF]<;>rfl)) ?_ ?_<;>(repeat'(first|(with_reducible rfl)|(exact YA rfl (by first|(simp;done)|omega|(simp;omega)))|(exact z8 (SV.int _) (by first|omega|(simp(disch:=omega) only[wI,Z9,Zp]<;>omega)|(simp;done)|(simp<;>omega)))|(exact z8 (Hp.rows _) (by rw[MZ hl (CA (by omega))]))|((conv=>whnf);refine⟨?_,?_⟩)|exact trivial|rfl)))
 .refine u6.mk (Uk (by omega)) ?_;conv=>whnf
  refine u0.value h0 rfl (z8 SV.str ?_);have:=DA (qU s i);rw[hlen]at this;rw[this,MY (by omega)]
open _root_.Go.Proofs.Tryz
theorem Lm(r:Int):vS prog uf 244 0 [.int .i64 r] [] [] (uN (.bool (decide (W3 r)))):=by
 refine vS.enter Z0 call244 func244 rfl 9 rfl rfl [.tmp 2] rfl ?_;intro w0 F η0 h0;conv=>whnf
 skip
 refine u0.value h0 rfl (z8 SV.bool ?_);rw[zX];simp only[x8,yw,xw,xC,zj,yU]
 rfl
def Zgm:List (List SV):=[65,90,97,122,192,214,216,246,248,767,880,893,895,8191,8204,8205,8304,8591,11264,12271,12289,55295,63744,64975,65008,65533,65536,983039].map fun x=>[SV.int .i64 x]
theorem Z8t:vS prog uf 304 0 [] [] [] (uN (.arr 1 Zgm)):=by
 refine vS.enter Z0 call304 func304 rfl 2 rfl rfl [.cell 0 330] rfl ?_;intro w0 F η0 h0;conv=>whnf
 repeat'(first|refine AU ?_)<;>conv=>whnf
 exact u0.value h0 rfl rfl
theorem Z9J(r:Int):vS prog uf 283 0 [.int .i64 r] [] [] (uN (.bool (decide (nh r)))):=by
 refine vS.enter Z0 call283 func283 rfl 23 rfl rfl [.tmp 2] rfl ?_;intro w0 F η0 h0;conv=>whnf
 repeat'(first|refine CALL.value (Z8t) rfl rfl ?_|refine vZ.once Z0 ?_|refine u6.mk ⟨rfl,rfl,rfl,rfl,rfl⟩ ?_|refine AU ?_|refine IW ?_ ?_<;>intro h<;>try omega)<;>conv=>whnf
 all_goals
  refine u0.value h0 rfl (z8 SV.bool ?_)
  first
   |exact(yq (by unfold nh;omega)).symm
   |exact(y5 (by unfold nh;omega)).symm
theorem WV(r:Int):vS prog uf 243 0 [.int .i64 r] [] [] (uN (.bool (decide (mT r)))):=by
 refine vS.enter Z0 call243 func243 rfl 9 rfl rfl [.tmp 2] rfl ?_;intro w0 F η0 h0;conv=>whnf
 repeat'(first|refine CALL.value (Z9J _) rfl rfl ?_)<;>conv=>whnf
 all_goals
  refine u0.value h0 rfl (z8 SV.bool ?_);rw[zX,yx];unfold mT;simp
theorem Z4d(r:Int):vS prog uf 284 0 [.int .i64 r] [] [] (uN (.bool (decide (X0 r)))):=by
 refine vS.enter Z0 call284 func284 rfl 33 rfl rfl [.tmp 2] rfl ?_;intro w0 F η0 h0;conv=>whnf
 repeat'(first|refine CALL.value (WV _) rfl rfl ?_|refine CALL.value (Lm _) rfl rfl ?_|refine AU ?_|refine IW ?_ ?_<;>intro h<;>try omega)<;>conv=>whnf
 all_goals
  refine u0.value h0 rfl (z8 SV.bool ?_);rw[zX];unfold X0
  simp_all
  try omega
def mW(x:Int):List SV:=[.int .i64 x]
theorem CJ(l:List Int):Zj (l.map mW)=true:=ZD _ (fun _=>rfl) l
instance :dZ mW:=⟨fun _=>rfl⟩
theorem Ln{l:List Int}{i:Nat}(h:i<l.length):XZ (l.drop i)=if i+1=l.length then decide (X0 l[i])else(decide (X0 l[i]\/l[i]=46)&&XZ (l.drop (i+1))):=by
 rw[zm h];cases hd:l.drop (i+1)with
 |nil=>
  have:=z8 List.length hd;simp at this;rw[zf (by omega)];rfl
 |cons q t=>
  have:=z8 List.length hd;simp at this;rw[z7 (by omega)];rfl
theorem Z6D(l:List Int)(hl:l.length<=1152921504606846976):vS prog uf 245 1 [.sl (.loc 0) 0 1 l.length none] [] [(0, .rows 1 (l.map mW))] (w6 1 (.bool (XZ (l.drop 1)))):=by
 refine vS.enter Z0 call245 func245 rfl 30 rfl rfl [.tmp 2] rfl ?_;intro w0 F η0 h0;conv=>whnf
 refine vZ.go Z0 [0] (X:=Nat) (fun i=>1<=i/\XZ (l.drop i)=XZ (l.drop 1)) (fun i=>[(3, .int .i64 (i:Int))]) (fun i=>[]) 1 (fun i=>l.length-i) 1 ⟨by omega,rfl⟩ ?_;conv=>whnf
 refine⟨by exact vU.cA h0,?_⟩;rintro i ⟨hi,hc⟩;conv=>whnf
 repeat'(first|refine CALL.value (Z4d _) rfl rfl ?_|refine GET.map (by omega) ?_|refine gZ.at (row:=mW (l[0+(i:Int).toNat]'(by omega))) (by rw[z6,z1 (by omega)];rfl) ?_|refine AU ?_|refine IW ?_ ?_<;>intro h<;>try omega)<;>conv=>whnf
 .rename_i h1;have h1:i<l.length:=by omega
  have e:l[0+(i:Int).toNat]=l[i]:=by congr 1;omega
  rw[e]at h;refine u0.ua h0 rfl (z8 SV.bool ?_);rw[<-hc,Ln h1];split
  simp[h.1]
  .rcases h.2 with h2|h2
   simp[h.1,h2];omega
 .rename_i h1;have h1:i<l.length:=by omega
  have e:l[0+(i:Int).toNat]=l[i]:=by congr 1;omega
  rw[e]at h;refine⟨i+1,⟨by omega,?_⟩,by omega,?_⟩
  .rw[<-hc,Ln h1];by_cases hf:X0 l[i]
   .split
    rename_i h2;rw[zN (by omega)];simp[hf,XZ];simp[hf]
   .have:=h hf;rw[z7 (by omega)];simp[this.1]
  .conv=>whnf
   exact vU.cA h0
 .refine u0.ua h0 rfl (z8 SV.bool ?_);rw[<-hc,zN (by omega)];rfl
def CL(o:Option (List Int)):SV->vX->Nat->Prop:=fun r O nx=>match o with
 |some l=>r= .uz [.sl (.loc 0) 0 1 l.length none, .bool true]/\O=[(0, .rows 1 (l.map mW))]/\nx=1
 |none=>r= .uz [.val (.slice none 0 0), .bool false]/\O=[]/\nx=0
theorem WW(s:List UInt8)(hs:s.length<=68719476736):vS prog uf 242 0 [.str s] [] [] (CL (ud s 0)):=by
 refine vS.enter Z0 call242 func242 rfl 28 rfl rfl [.tmp 2, .tmp 3] rfl ?_;intro w0 F η0 h0;conv=>whnf
 refine vZ.nil 4 1 rfl ?_;refine vZ.go Z0 [0] (X:=Nat×List Int) (fun x=>x.1<=s.length/\x.2.length<=x.1/\ud s 0=(ud s x.1).map (x.2++ ·)) (fun x=>[(5, .int .i64 (x.1:Int)),(4, .sl (.loc 0) 0 1 x.2.length none)]) (fun x=>[(0, .rows 1 (x.2.map mW))]) 1 (fun x=>s.length-x.1) (0,[]) ⟨by simp,by simp,by cases ud s 0<;>simp⟩ ?_;conv=>whnf
 refine⟨by exact vU.cA h0,?_⟩;rintro⟨i,l⟩ ⟨hi,hl,hc⟩;simp only at hi hl hc;have hn:=YY s i;dsimp only;conv=>whnf
 repeat'(first|refine CALL.value (WQ s _ (by omega)) rfl rfl ?_|refine AU ?_|refine IW ?_ ?_<;>intro h<;>try omega)<;>conv=>whnf
 .rename_i h1;refine u0.val h0 rfl ?_;have:ud s i=none:=by rw[ud,yp (by omega),yQ (by simpa using h)]
  rw[hc,this];exact⟨rfl,rfl,rfl⟩
 .rename_i h1;refine⟨(i+(Zc s i).2.toNat,l++ [(Zc s i).1]),⟨by simp only;omega,by simp only[zh,List.length_cons,List.length_nil];omega,?_⟩,by simp only;omega,?_⟩
  .rw[hc];conv=>lhs;rw[ud,yp (by omega),yp (by simpa using h)]
   cases ud s (i+(Zc s i).2.toNat)<;>simp
  .dsimp only;conv=>whnf
   exact vU.kA h0 [2]
 .refine u0.Ki h0 0 1 _ rfl rfl rfl (CJ _) rfl ?_;have:ud s i=some []:=by rw[ud,yQ (by omega)]
  rw[hc,this];simp[CL]
theorem Z9K(s:List UInt8)(i:Nat):∀l,ud s i=some l->l.length<=s.length-i:=by
 induction i using ud.induct s with
 |case1 i h h0 ih=>
  intro l hl;have hn:=YY s i;rw[ud,yp h,yp h0]at hl;cases hc:ud s (i+(Zc s i).2.toNat)with
  |none=>rw[hc]at hl;cases hl
  |some t=>
   rw[hc]at hl;simp only[Option.map_some,zi]at hl;subst hl;have:=ih t hc;simp only[List.length_cons];omega
 |case2 i h h0=>intro l hl;rw[ud,yp h,yQ h0]at hl;cases hl
 |case3 i h=>intro l hl;rw[ud,yQ h]at hl;injection hl with hl;subst hl;simp
theorem Z8u(s:List UInt8)(hs:s.length<=68719476736):vS prog uf 193 0 [.str s] [] [] (uN (.int .i64 (FW s))):=by
 refine vS.enter Z0 call193 func193 rfl 36 rfl rfl [.tmp 2] rfl ?_;intro w0 F η0 h0;conv=>whnf
 unfold FW;cases hc:ud s 0 with
 |none=>
  have sp:=(WW s hs).mono (Q':=uN (.uz [.val (.slice none 0 0), .bool false])) (fun r O nx hq=>by rw[hc]at hq;exact hq);refine CALL.value sp rfl rfl ?_;conv=>whnf
  repeat'(first|refine AU ?_|refine IW ?_ ?_<;>intro h<;>try omega)<;>conv=>whnf
  exact u0.value h0 rfl rfl
 |some l=>
  have sp:=(WW s hs).mono (Q':=sY 1 (l.map mW) [.bool true]) (fun r O nx hq=>by rw[hc]at hq;simpa[sY,CL]using hq);refine CALL.DJ sp rfl (CJ l) rfl ?_;have hlen:(l.map mW).length=l.length:=by simp
  rw[hlen];conv=>whnf
  cases l with
  |nil=>
   repeat'(first|refine AU ?_|refine IW ?_ ?_<;>intro h<;>try omega)<;>conv=>whnf
   exact u0.value h0 rfl rfl
  |cons r l=>
   have hL:(r::l).length<=1152921504606846976:=by have:=Z9K s 0 _ hc;omega
   repeat'(first|refine GET.at (row:=mW r) rfl ?_|refine CALL.value (WV _) rfl rfl ?_|refine CALL.value (Lm _) rfl rfl ?_|refine CALL.kT _ (Z6D (r::l) hL) rfl rfl rfl rfl (CJ _) rfl ?_|refine AU ?_|refine IW ?_ ?_<;>intro h<;>try omega)<;>conv=>whnf
   all_goals
    refine u0.value h0 rfl (z8 (SV.int _) ?_);try simp only[vC,yN]at h
    unfold Vh;simp[*]
open _root_.Go.Proofs.Tryz
theorem WX(s:List UInt8)(hs:Sm s):vS prog uf 307 0 [.str s] [] [] (uN (.bool (qq Vi s 0))):=by
 refine vS.enter Z0 call307 func307 rfl 29 rfl rfl [.tmp 2] rfl ?_;intro w0 F η0 h0;conv=>whnf
 refine vZ.go Z0 [0] (X:=Nat) (fun i=>i<=s.length/\qq Vi s i=qq Vi s 0) (fun i=>[(3, .int .i64 (i:Int))]) (fun i=>[]) 0 (fun i=>s.length-i) 0 ⟨by omega,rfl⟩ ?_;conv=>whnf
 refine⟨by exact vU.cA h0,?_⟩;rintro i ⟨hi,hc⟩;conv=>whnf
 repeat'(first|refine AU ?_|refine IW ?_ ?_<;>intro h<;>try omega)<;>conv=>whnf
 .refine u0.value h0 rfl (z8 SV.bool ?_);rw[<-hc,JJ (by omega),show Vi (Z1 s i)=false from y5 (by unfold XY;omega)];rfl
 .refine⟨i+1,⟨by omega,?_⟩,by omega,?_⟩;rw[<-hc,JJ (i:=i) (by omega),show Vi (Z1 s i)=true from yq (by unfold XY;omega),xd]
  .conv=>whnf
   exact vU.cA h0
 .refine u0.value h0 rfl (z8 SV.bool ?_);rw[<-hc,Wv (by omega)]
theorem Vn(s:List UInt8)(hs:Sm s):vS prog uf 306 0 [.str s] [] [] (uN (.bool (qq XJ s 0))):=by
 refine vS.enter Z0 call306 func306 rfl 20 rfl rfl [.tmp 2] rfl ?_;intro w0 F η0 h0;conv=>whnf
 refine vZ.go Z0 [0] (X:=Nat) (fun i=>i<=s.length/\qq XJ s i=qq XJ s 0) (fun i=>[(3, .int .i64 (i:Int))]) (fun i=>[]) 0 (fun i=>s.length-i) 0 ⟨by omega,rfl⟩ ?_;conv=>whnf
 refine⟨by exact vU.cA h0,?_⟩;rintro i ⟨hi,hc⟩;conv=>whnf
 repeat'(first|refine AU ?_|refine IW ?_ ?_<;>intro h<;>try omega)<;>conv=>whnf
 .refine u0.value h0 rfl (z8 SV.bool ?_);rw[<-hc,JJ (by omega),show XJ (Z1 s i)=false from y5 (by unfold W3;omega)];rfl
 .refine⟨i+1,⟨by omega,?_⟩,by omega,?_⟩;rw[<-hc,JJ (i:=i) (by omega),show XJ (Z1 s i)=true from yq (by unfold W3;omega),xd]
  .conv=>whnf
   exact vU.cA h0
 .refine u0.value h0 rfl (z8 SV.bool ?_);rw[<-hc,Wv (by omega)]
theorem CM{s:List UInt8}{i:Nat}(h:i<s.length):(s.drop (i:Int).toNat).take (((i:Int)+1).toNat-(i:Int).toNat)=[s.getD i 0]:=by
 rw[show((i:Int)+1).toNat-(i:Int).toNat=1 by omega,Int.toNat_natCast,Xe h];rfl
theorem ZjV(s:List UInt8)(i:Nat):bn (s.getD i 0)=Z1 s i:=rfl
theorem Vo(s:List UInt8)(least most:Int)(hs:Sm s):vS prog uf 291 0 [.str s, .int .i64 least, .int .i64 most] [] [] (uN (.bool (ZH s least most false))):=by
 refine vS.enter Z0 call291 func291 rfl 40 rfl rfl [.tmp 6] rfl ?_;intro w0 F η0 h0;conv=>whnf
 refine vZ.go Z0 [0,1,2] (X:=Nat) (fun i=>i<=s.length/\qq (JT false) s i=qq (JT false) s 0) (fun i=>[(7, .int .i64 (i:Int))]) (fun i=>[]) 0 (fun i=>s.length-i) 0 ⟨by omega,rfl⟩ ?_;conv=>whnf
 refine⟨by exact vU.cA h0,?_⟩;rintro i ⟨hi,hc⟩;conv=>whnf
 have sm:∀n m,Sm ((s.drop n).take m):=fun n m=>by simp;omega
 repeat'(first|refine CALL.value (WX _ (sm _ _)) rfl rfl ?_|refine CALL.value (Vn _ (sm _ _)) rfl rfl ?_|refine AU ?_|refine IW ?_ ?_<;>intro h<;>try omega)<;>conv=>whnf
 all_goals first
  |(have hl:i<s.length:=by omega
    simp only[CM hl,MV,ZjV]at*
    first
     |(refine u0.value h0 rfl (z8 SV.bool ?_)
       have h1:JT false (Z1 s i)=false:=by unfold JT;simp[*]
       unfold ZH;rw[<-hc,JJ hl,h1];rfl)
     |(have h1:JT false (Z1 s i)=true:=by unfold JT;simp[*]
       refine⟨i+1,⟨by omega,?_⟩,by omega,?_⟩;rw[<-hc,JJ (i:=i) hl,h1,xd]
       .conv=>whnf
        exact vU.cA h0))
  |(refine u0.value h0 rfl (z8 SV.bool ?_)
    unfold ZH;rw[<-hc,Wv (by omega),zX]
    simp[x8])
theorem Z4T(s:List UInt8)(hs:Sm s):vS prog uf 290 0 [.str s] [] [] (uN (.bool (Jn s))):=by
 have hm:ZH s 4 4 false=true->s.length=4:=by unfold ZH;simp;omega
 have sm:∀m,Sm (s.take m):=fun m=>by simp;omega
 refine vS.enter Z0 call290 func290 rfl 14 rfl rfl [.tmp 2] rfl ?_;intro w0 F η0 h0;conv=>whnf
 repeat'(first|refine CALL.value (Vo _ _ _ hs) rfl rfl ?_|refine CALL.value (Vn _ (sm _)) rfl rfl ?_|refine u6.mk (by have:=hm (by assumption);omega) ?_|refine AU ?_|refine IW ?_ ?_<;>intro h<;>try omega)<;>conv=>whnf
 all_goals
  refine u0.value h0 rfl (z8 SV.bool ?_);unfold Jn;by_cases h4:ZH s 4 4 false=true
  .have:=hm h4;cases s with
   |nil=>simp at this
   |cons a t=>
    have ht:(a::t).take (1:Int).toNat=[a]:=rfl;have hb:bn a=Z1 (a::t) 0:=rfl;try simp only[ht,MV,hb]at*
    simp_all
  simp_all
theorem YE(s:List UInt8)(hs:Sm s):vS prog uf 286 0 [.str s] [] [] (uN (.str (Z7 s))):=by
 refine vS.enter Z0 call286 func286 rfl 35 rfl rfl [.tmp 2] rfl ?_;intro w0 F η0 h0;conv=>whnf
 repeat'(first|refine AU ?_)<;>conv=>whnf
 refine vZ.go Z0 [3] (X:=Nat) (fun i=>i<=s.length) (fun i=>[(4, .int .i64 (i:Int))]) (fun i=>[(0, .rows 1 ((qU s i).map Sx.bytesRow))]) 1 (fun i=>s.length-i) 0 (by omega) ?_;conv=>whnf
 refine⟨by(refine vU.wE h0 rfl rfl rfl (by first|rfl|(simp only[Zl,Zh,Z2 _ (XI _),zB,zF]<;>rfl)) ?_ ?_<;>(repeat'(first|(with_reducible rfl)|(exact YA rfl (by first|(simp;done)|omega|(simp;omega)))|(exact z8 (SV.int _) (by first|omega|(simp(disch:=omega) only[wI,Z9,Zp]<;>omega)|(simp;done)|(simp<;>omega)))|(exact z8 (Hp.rows _) (by rw[MX]))|((conv=>whnf);refine⟨?_,?_⟩)|exact trivial|rfl))),?_⟩;intro i hi;have hlen:=MW s i;conv=>whnf
 repeat'(first|refine GET.at (row:=Sx.bytesRow (s[i]'(by omega))) (by rw[show 0+(i:Int).toNat=i by omega];exact Cz (by omega)) ?_|refine gZ.at (row:=Sx.bytesRow (s[i]'(by omega))) (by rw[show 0+(i:Int).toNat=i by omega];exact Cz (by omega)) ?_|refine AU ?_|refine IW ?_ ?_<;>intro h<;>try omega)<;>conv=>whnf
 .have hl:i<s.length:=by omega
  refine⟨i+1,by omega,by omega,?_⟩;conv=>whnf
  (refine vU.wE h0 rfl rfl rfl (by first|rfl|(simp only[Zl,Zh,Z2 _ (XI _),zB,zF]<;>rfl)) ?_ ?_<;>(repeat'(first|(with_reducible rfl)|(exact YA rfl (by first|(simp;done)|omega|(simp;omega)))|(exact z8 (SV.int _) (by first|omega|(simp(disch:=omega) only[wI,Z9,Zp]<;>omega)|(simp;done)|(simp<;>omega)))|(exact z8 (Hp.rows _) (by rw[L2 h,show 0+(i:Int).toNat=i by omega,L0 hl]))|((conv=>whnf);refine⟨?_,?_⟩)|exact trivial|rfl)))
 .have hl:i<s.length:=by omega
  refine⟨i+1,by omega,by omega,?_⟩;conv=>whnf
  (refine vU.wE h0 rfl rfl rfl (by first|rfl|(simp only[Zl,Zh,Z2 _ (XI _),zB,zF]<;>rfl)) ?_ ?_<;>(repeat'(first|(with_reducible rfl)|(exact YA rfl (by first|(simp;done)|omega|(simp;omega)))|(exact z8 (SV.int _) (by first|omega|(simp(disch:=omega) only[wI,Z9,Zp]<;>omega)|(simp;done)|(simp<;>omega)))|(exact z8 (Hp.rows _) (by rw[MZ hl (CA (by omega))]))|((conv=>whnf);refine⟨?_,?_⟩)|exact trivial|rfl)))
 .refine u6.mk (Uk (by omega)) ?_;conv=>whnf
  refine u0.value h0 rfl (z8 SV.str ?_);have:=DA (qU s i);rw[hlen]at this;rw[this,MY (by omega)]
end Go.Proofs.YtlcbipfmodcedaaGreatDoor
