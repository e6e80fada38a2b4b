/- Part 17: Tag8. Conditions: as each part says. -/
import Derived.Test.YtlcbipfmodcedaaGreatDoorFrm14
set_option linter.unusedVariables false
set_option linter.unusedSimpArgs false
set_option maxRecDepth 20000
set_option maxHeartbeats 8000000
namespace Go.Proofs.YtlcbipfmodcedaaGreatDoor
open Go.Sx Go.Our
open _root_.Go.Proofs.Tryz
theorem Lv(s:List UInt8):(Z7 s !=[120])=!Y2 s:=by rw[X1];rfl
def nt(i m:Nat):Hp:= .box [.sl (.loc 2) i 1 m none]
def KM:Hp:= .box [.str [], .str [], .str [], .str [], .val (.slice none 0 0), .val (.slice none 0 0), .str []]
def bw:Fr:=[(2, .ptr (.loc 0) 0 0 0),(4, .ptr (.loc 1) 0 0 0),(5, .ptr (.loc 3) 0 0 0)]
def OT(ps:List (List UInt8))(a:Nat)(L E S R:List UInt8):vX:=[(0,KM),(1,gw L E S R 4 0 5 0 []),(2, .rows 1 (ps.map Zf)),(3,nt a (ps.length-a)),(4, .rows 1 []),(5, .rows 1 [])]
def aH(l:List (List UInt8)):Bool:=match YN [] l with
 |none=>false
 |some (l,seen)=>match Y3 seen l with
  |none=>false
  |some l=>VR l
theorem ZjY:oa 4 4 false=fun s=>ZH s 4 4 true:=funext (J0 4 4)
theorem Lw{s:List UInt8}(h:Jn s=true):4<=s.length:=by
 unfold Jn at h;simp only[yU,zj]at h;rcases h with h|h
 have:=Jo h;omega;have:=Jo h.1;omega
theorem Zex(s:List UInt8)(hs:s.length<=8589934592):vS prog uf 246 0 [.str s] [] [] (uN (.uz [.agg (cL 7), .int .i64 (if uX (Zu s)=true then 0 else 61)])):=by
 have KK:=CB s;have hlen:=FY s;have hne:=FX s;generalize hps:Zu s=ps at*;have hb:JC ps+ps.length<=34359738368:=by unfold JC;omega
 have wS:=tF (ps:=ps) (by omega)
 obtain⟨p0,tG⟩:∃p0,ps[0]?=some p0:=by
  cases ps with
  |nil=>exact(hne rfl).elim
  |cons a t=>exact⟨a,rfl⟩
 have CR:=wS p0 (zV tG)
 have rE:iX Y2 ps=Y2 p0:=by
  cases ps with
  |nil=>cases tG
  |cons a t=>have:a=p0:=by simpa using tG
             subst this;rfl
 refine vS.enter Z0 call246 func246 rfl 152 rfl rfl [.cell 2 223, .tmp 3] rfl ?_;intro w0 F η0 h0;conv=>whnf
 apply ZfU (X:=Nat×List UInt8×List UInt8×List UInt8×List UInt8) (n:=6) (fun x=>uX ps=aH (ps.drop x.1)/\x.1<=ps.length) (fun _=>bw) (fun x=>OT ps x.1 x.2.1 x.2.2.1 x.2.2.2.1 x.2.2.2.2);intro K;refine CALL.sZ (Z8v s (by omega)) rfl (Yj _) ?_;rw[hps,zy];have hpos:0<ps.length:=(ze.1 tG).1;conv=>whnf
 repeat'(first|refine GET.at (row:=Zf p0) (by rw[z6,show 0+(0:Int).toNat=0 by simp,tG];rfl) ?_|refine AU ?_)<;>conv=>whnf
 refine CALL.w8 1 4 1 rfl rfl ?_;refine CALL.w8 1 5 1 rfl rfl ?_;refine CALL.value (YE _ CR) rfl rfl ?_;conv=>whnf
 refine IF.mk (fun h=>?_) (fun h=>?_)
 .rw[Lv]at h;have bg:iX Y2 ps=false:=by rw[rE];simpa using h
  have KN:∀l,JK (ps.drop 0)=some l->uX ps=aH (J4 Xf (J4 (fun s=>ZH s 4 4 true) l)):=by
   intro l hl;have hl:JK ps=some l:=hl;unfold uX aH;rw[z7 (by simp[bg]),hl];simp only[Xq];cases YN [] (J4 Xf (J4 (fun s=>ZH s 4 4 true) l))with
   |none=>rfl
   |some x=>obtain⟨l',seen⟩:=x;rfl
  conv=>whnf
  refine CALL.aA [3,2,1,4,5] (Z4U ps (by omega) 0 ps.length (by omega)) ?_;rintro r O' vW ⟨i1,m1,L,E,mV,rfl,hL,rfl,rfl⟩;cases h2:JK (ps.drop 0)with
  |none=>
   have wR:uX ps=false:=by
    have h2:JK ps=none:=h2;unfold uX;rw[z7 (by simp[bg]),h2]
   rw[Option.isSome_none];conv=>whnf
   repeat'(first|refine IW ?_ ?_<;>intro h<;>try omega)<;>conv=>whnf
   refine u0.kG 7 h0 rfl rfl rfl ⟨?_,rfl,rfl⟩;rw[wR];rfl
  |some l1=>
   obtain⟨kz,cS⟩:=hL l1 h2;subst kz;have hc1:=KN _ h2;rw[Option.isSome_some];conv=>whnf
   repeat'(first|refine IF.yes (b:=L !=[]) (by simpa using cS) ?_|refine AU ?_|refine IW ?_ ?_<;>intro h<;>try omega)<;>conv=>whnf
   refine CALL.aA [3,2] (JD 4 4 false ps wS i1 m1 mV) ?_;rintro r O' vW ⟨rfl,rfl,rfl⟩;rw[ZjY];conv=>whnf
   (repeat(first|((with_reducible refine IF.tt ?_);conv=>whnf)|((with_reducible refine IF.ff ?_);conv=>whnf)))
   refine IF.mk (fun h4=>?_) (fun h4=>?_)
   .obtain⟨w1,hw1,CS⟩:=ZN h4;have z4x:=(ze.1 hw1).1;obtain⟨k1,rfl⟩:∃k1,m1=k1+1:=⟨m1-1,by omega⟩;rw[VF hw1 CS]at hc1;conv=>whnf
    refine CALL.aA [3,2] (YP ps i1 k1 mV w1 hw1) ?_;rintro r O' vW ⟨rfl,rfl,rfl⟩;conv=>whnf
    repeat'(first|refine IF.yes (b:=L !=[]) (by simpa using cS) ?_|refine AU ?_)<;>conv=>whnf
    refine CALL.aA [3,2] (JD 2 2 false ps wS (i1+1) (k1) (by omega)) ?_;rintro r O' vW ⟨rfl,rfl,rfl⟩;conv=>whnf
    (repeat(first|((with_reducible refine IF.tt ?_);conv=>whnf)|((with_reducible refine IF.ff ?_);conv=>whnf)))
    refine IF.mk (fun h5=>?_) (fun h5=>?_)
    .have e7:∃q,ps[i1+1]?=some q/\Xf q=true:=by
      obtain⟨q,hq,jg⟩:=ZN h5;exact⟨q,hq,by rw[Jk,jg];rfl⟩
     conv=>whnf
     repeat'(first|refine AU ?_|refine IW ?_ ?_<;>intro h<;>try omega)<;>conv=>whnf
     obtain⟨q,hq,jg⟩:=e7;have mX:=(ze.1 hq).1;obtain⟨k2,hk2⟩:∃k2,k1=k2+1:=⟨k1-1,by omega⟩;have wR:uX ps=aH (ps.drop (i1+1+1)):=by rw[hc1,VF hq jg]
     rw[hk2];conv=>whnf
     refine CALL.aA [3,2] (YP ps (i1+1) k2 (by omega) q hq) ?_;rintro r O' vW ⟨rfl,rfl,rfl⟩;conv=>whnf
     refine vZ.goes (fr':=bw) (O':=OT ps (i1+1+1) L E w1 q) (n1:=6) ?_ (K (i1+1+1,L,E,w1,q) ⟨wR,by simp only;omega⟩);unfold bw OT;rw[show ps.length-(i1+1+1)=k2 by omega];exact vU.kA h0 [0,1,2,3,4,5]
    .conv=>whnf
     repeat'(first|refine AU ?_)<;>conv=>whnf
     refine CALL.aA [3,2] (JD 3 3 true ps wS (i1+1) (k1) (by omega)) ?_;rintro r O' vW ⟨rfl,rfl,rfl⟩;conv=>whnf
     (repeat(first|((with_reducible refine IF.tt ?_);conv=>whnf)|((with_reducible refine IF.ff ?_);conv=>whnf)))
     refine IF.mk (fun h6=>?_) (fun h6=>?_)
     .have e7:∃q,ps[i1+1]?=some q/\Xf q=true:=by
       obtain⟨q,hq,jg⟩:=ZN h6;exact⟨q,hq,by rw[Jk,jg,Bool.or_true]⟩
      conv=>whnf
      skip
      obtain⟨q,hq,jg⟩:=e7;have mX:=(ze.1 hq).1;obtain⟨k2,hk2⟩:∃k2,k1=k2+1:=⟨k1-1,by omega⟩;have wR:uX ps=aH (ps.drop (i1+1+1)):=by rw[hc1,VF hq jg]
      rw[hk2];conv=>whnf
      refine CALL.aA [3,2] (YP ps (i1+1) k2 (by omega) q hq) ?_;rintro r O' vW ⟨rfl,rfl,rfl⟩;conv=>whnf
      refine vZ.goes (fr':=bw) (O':=OT ps (i1+1+1) L E w1 q) (n1:=6) ?_ (K (i1+1+1,L,E,w1,q) ⟨wR,by simp only;omega⟩);unfold bw OT;rw[show ps.length-(i1+1+1)=k2 by omega];exact vU.kA h0 [0,1,2,3,4,5]
     .have e7:YB Xf ps (i1+1)=false:=by
       unfold YB at*;cases hq:ps[i1+1]? with
       |none=>rfl
       |some q=>rw[hq]at h5 h6;simp only at h5 h6⊢;rw[Jk,h5];exact h6
      have wR:uX ps=aH (ps.drop (i1+1)):=by rw[hc1,iY e7]
      conv=>whnf
      skip
      refine vZ.goes (fr':=bw) (O':=OT ps (i1+1) L E w1 []) (n1:=6) ?_ (K (i1+1,L,E,w1,[]) ⟨wR,by simp only;omega⟩);unfold bw OT;rw[show ps.length-(i1+1)=k1 by omega];exact vU.kA h0 [0,1,2,3,4,5]
   .rw[iY h4]at hc1;conv=>whnf
    repeat'(first|refine IF.yes (b:=L !=[]) (by simpa using cS) ?_|refine AU ?_)<;>conv=>whnf
    refine CALL.aA [3,2] (JD 2 2 false ps wS (i1) (m1) (by omega)) ?_;rintro r O' vW ⟨rfl,rfl,rfl⟩;conv=>whnf
    (repeat(first|((with_reducible refine IF.tt ?_);conv=>whnf)|((with_reducible refine IF.ff ?_);conv=>whnf)))
    refine IF.mk (fun h5=>?_) (fun h5=>?_)
    .have e7:∃q,ps[i1]?=some q/\Xf q=true:=by
      obtain⟨q,hq,jg⟩:=ZN h5;exact⟨q,hq,by rw[Jk,jg];rfl⟩
     conv=>whnf
     repeat'(first|refine AU ?_|refine IW ?_ ?_<;>intro h<;>try omega)<;>conv=>whnf
     obtain⟨q,hq,jg⟩:=e7;have mX:=(ze.1 hq).1;obtain⟨k2,hk2⟩:∃k2,m1=k2+1:=⟨m1-1,by omega⟩;have wR:uX ps=aH (ps.drop (i1+1)):=by rw[hc1,VF hq jg]
     rw[hk2];conv=>whnf
     refine CALL.aA [3,2] (YP ps (i1) k2 (by omega) q hq) ?_;rintro r O' vW ⟨rfl,rfl,rfl⟩;conv=>whnf
     refine vZ.goes (fr':=bw) (O':=OT ps (i1+1) L E [] q) (n1:=6) ?_ (K (i1+1,L,E,[],q) ⟨wR,by simp only;omega⟩);unfold bw OT;rw[show ps.length-(i1+1)=k2 by omega];exact vU.kA h0 [0,1,2,3,4,5]
    .conv=>whnf
     repeat'(first|refine AU ?_)<;>conv=>whnf
     refine CALL.aA [3,2] (JD 3 3 true ps wS (i1) (m1) (by omega)) ?_;rintro r O' vW ⟨rfl,rfl,rfl⟩;conv=>whnf
     (repeat(first|((with_reducible refine IF.tt ?_);conv=>whnf)|((with_reducible refine IF.ff ?_);conv=>whnf)))
     refine IF.mk (fun h6=>?_) (fun h6=>?_)
     .have e7:∃q,ps[i1]?=some q/\Xf q=true:=by
       obtain⟨q,hq,jg⟩:=ZN h6;exact⟨q,hq,by rw[Jk,jg,Bool.or_true]⟩
      conv=>whnf
      skip
      obtain⟨q,hq,jg⟩:=e7;have mX:=(ze.1 hq).1;obtain⟨k2,hk2⟩:∃k2,m1=k2+1:=⟨m1-1,by omega⟩;have wR:uX ps=aH (ps.drop (i1+1)):=by rw[hc1,VF hq jg]
      rw[hk2];conv=>whnf
      refine CALL.aA [3,2] (YP ps (i1) k2 (by omega) q hq) ?_;rintro r O' vW ⟨rfl,rfl,rfl⟩;conv=>whnf
      refine vZ.goes (fr':=bw) (O':=OT ps (i1+1) L E [] q) (n1:=6) ?_ (K (i1+1,L,E,[],q) ⟨wR,by simp only;omega⟩);unfold bw OT;rw[show ps.length-(i1+1)=k2 by omega];exact vU.kA h0 [0,1,2,3,4,5]
     .have e7:YB Xf ps (i1)=false:=by
       unfold YB at*;cases hq:ps[i1]? with
       |none=>rfl
       |some q=>rw[hq]at h5 h6;simp only at h5 h6⊢;rw[Jk,h5];exact h6
      have wR:uX ps=aH (ps.drop (i1)):=by rw[hc1,iY e7]
      conv=>whnf
      skip
      refine vZ.goes (fr':=bw) (O':=OT ps (i1) L E [] []) (n1:=6) ?_ (K (i1,L,E,[],[]) ⟨wR,by simp only;omega⟩);unfold bw OT;rw[show ps.length-(i1)=m1 by omega];exact vU.kA h0 [0,1,2,3,4,5]
 .rw[Lv]at h;have bg:Y2 p0=true:=by simpa using h
  have wR:uX ps=aH (ps.drop 0):=by
   unfold uX aH;rw[zf (by rw[rE,bg]),ZX tG]
   have h4:¬4<=p0.length:=by
    have:=bg;unfold Y2 at this;simp at this;rcases this with rfl|rfl<;>simp
   have hv:Jn p0≠true:=fun h=>h4 (Lw h);simp only[YN];rw[z7 hv];simp only;rw[Y3,z7 (by unfold Xp;simp[bg])];simp only;rw[<-ZX tG];rfl
  conv=>whnf
  repeat'(first|refine AU ?_|refine IW ?_ ?_<;>intro h<;>try omega)<;>conv=>whnf
  refine vZ.goes (fr':=bw) (O':=OT ps (0) [] [] [] []) (n1:=6) ?_ (K (0,[],[],[],[]) ⟨wR,by simp only;omega⟩);unfold bw OT;rw[show ps.length-(0)=ps.length by omega];exact vU.kA h0 [0,1,2,3,4,5]
 rintro⟨a0,L,E,S,R⟩ ⟨wR,ha0⟩;dsimp only at wR ha0⊢;unfold bw OT;refine vZ.go Z0 [2,4,5] (X:=Nat×List (List UInt8)) (fun y=>y.1<=ps.length/\y.2.length<=y.1/\(∀s∈y.2,4<=s.length/\Sm s)/\YN [] (ps.drop a0)=YN (y.2.map Z7) (ps.drop y.1)) (fun y=>[]) (fun y=>[(0,KM),(1,gw L E S R 4 y.2.length 5 0 []),(2, .rows 1 (ps.map Zf)),(3,nt y.1 (ps.length-y.1)),(4, .rows 1 (y.2.map Zf)),(5, .rows 1 [])]) 6 (fun y=>ps.length-y.1) (a0,[]) ⟨by simp only;omega,by simp,by simp,rfl⟩ ?_;conv=>whnf
 refine⟨by exact vU.kA h0 [0,1,2,3,4,5],?_⟩;rintro⟨a,vs⟩ ⟨ha,hvl,hvs,hx⟩;dsimp only at ha hvl hvs hx⊢;conv=>whnf
 rcases zY a ps.length with hap|hap
 .obtain⟨w,hw⟩:∃w,ps[a]?=some w:=⟨_,z1 hap⟩;have oH:=wS w (zV hw);obtain⟨k',hk'⟩:∃k',ps.length-a=k'+1:=⟨ps.length-a-1,by omega⟩;repeat'(first|refine GET.at (row:=Zf w) (by rw[z6,show a+(0:Int).toNat=a by simp,hw];rfl) ?_|refine CALL.value (Z4T _ oH) rfl rfl ?_|refine AU ?_|refine IW ?_ ?_<;>intro h<;>try omega)<;>conv=>whnf
  .have Hf:Jn w=true:=by assumption
   have hv4:=Lw Hf;rw[hk'];refine CALL.aA [3,2] (YP ps a k' (by omega) w hw) ?_;rintro r O' vW ⟨rfl,rfl,rfl⟩
   have jI:YN (vs.map Z7) (ps.drop a)=if Z7 w∈vs.map Z7 then none else YN (vs.map Z7++ [Z7 w]) (ps.drop (a+1)):=by
    rw[ZX hw];simp only[YN];rw[zf Hf]
   conv=>whnf
   refine vZ.go Z0 [2,4,5,7] (X:=Nat) (fun i=>i<=vs.length/\Z7 w∉ (vs.take i).map Z7) (fun i=>[(8, .int .i64 (i:Int))]) (fun i=>[(0,KM),(1,gw L E S R 4 vs.length 5 0 []),(2, .rows 1 (ps.map Zf)),(3,nt (a+1) k'),(4, .rows 1 (vs.map Zf)),(5, .rows 1 [])]) 6 (fun i=>vs.length-i) 0 ⟨by omega,by simp⟩ ?_;conv=>whnf
   refine⟨by exact vU.kA h0 [0,1,2,3,4,5],?_⟩;rintro i ⟨hi,hn⟩;dsimp only at hi hn⊢;conv=>whnf
   rcases zY i vs.length with hiv|hiv
   .have hvi:=(hvs _ (zk hiv)).2;repeat'(first|refine GET.at (row:=Zf (vs[i]'(by omega))) (by rw[z6,show 0+(i:Int).toNat=i by simp,z1 (by omega)];rfl) ?_|refine CALL.value (YE _ hvi) rfl rfl ?_|refine CALL.value (YE _ oH) rfl rfl ?_|refine AU ?_|refine IW ?_ ?_<;>intro h<;>try omega)<;>conv=>whnf
    .have hin:Z7 w∈vs.map Z7:=by rw[<-(by assumption:Z7 vs[i]=Z7 w)];exact vB (zk hiv)
     refine u0.kG 7 h0 rfl rfl rfl ⟨?_,rfl,rfl⟩;rw[wR];unfold aH;rw[hx,jI,zf hin];rfl
    .refine⟨i+1,⟨by omega,?_⟩,by omega,?_⟩
     .rw[zH hiv,yz,zQ];rintro(h1|h1);exact hn h1
      .have:Z7 w=Z7 vs[i]:=by simpa using h1
       exact(by assumption:¬Z7 vs[i]=Z7 w) this.symm
     .conv=>whnf
      exact vU.kA h0 [0,1,2,3,4,5]
   .rw[zg (by omega)]at hn;repeat'(first|refine AU ?_|refine IW ?_ ?_<;>intro h<;>try omega)<;>conv=>whnf
    have e:(vs++ [w]).length=vs.length+1:=by simp
    refine⟨(a+1,vs++ [w]),⟨by simp only;omega,by simp;omega,?_,by simp only;rw[hx,jI,z7 hn];simp⟩,by simp only;omega,?_⟩
    .intro x hx';rcases zQ.1 hx' with h1|h1
     exact hvs x h1;rw[zI.1 h1];exact⟨hv4,oH⟩
    .dsimp only;rw[e,show ps.length-(a+1)=k' by omega];conv=>whnf
     exact vU.kA h0 [0,1,2,3,7,5]
  .have Hf:Jn w=false:=by assumption
   have qu:YN (vs.map Z7) (ps.drop a)=some (ps.drop a,vs.map Z7):=by
    rw[ZX hw];simp only[YN];rw[z7 (by simp[Hf])]
   have hc0:uX ps=match Y3 (vs.map Z7) (ps.drop a)with|none=>false|some l=>VR l:=by rw[wR];unfold aH;rw[hx,qu]
   refine vZ.go Z0 [2,4,5] (X:=Nat×List (List UInt8)) (fun y=>y.1<=ps.length/\y.2.length<=y.1/\(∀x∈y.2,1<=x.length/\Sm x)/\Y3 (vs.map Z7) (ps.drop a)=Y3 (vs.map Z7++y.2.map fun x=>Z7 (x.take 1)) (ps.drop y.1)) (fun y=>[]) (fun y=>[(0,KM),(1,gw L E S R 4 vs.length 5 y.2.length []),(2, .rows 1 (ps.map Zf)),(3,nt y.1 (ps.length-y.1)),(4, .rows 1 (vs.map Zf)),(5, .rows 1 (y.2.map Zf))]) 6 (fun y=>ps.length-y.1) (a,[]) ⟨by simp only;omega,by simp,by simp,by simp⟩ ?_;conv=>whnf
   refine⟨by exact vU.kA h0 [0,1,2,3,4,5],?_⟩;rintro⟨b,xs⟩ ⟨od,hxl,hxs,hy⟩;dsimp only at od hxl hxs hy⊢;conv=>whnf
   rcases zY b ps.length with tH|tH
   .obtain⟨u,hu⟩:∃u,ps[b]?=some u:=⟨_,z1 tH⟩;have iZ:=wS u (zV hu);obtain⟨k',hk'⟩:∃k',ps.length-b=k'+1:=⟨ps.length-b-1,by omega⟩;clear hx qu hvl;repeat'(first|refine GET.at (row:=Zf u) (by rw[z6,show b+(0:Int).toNat=b by simp,hu];rfl) ?_|refine CALL.value (YE _ iZ) rfl rfl ?_|refine CALL.value (Vo _ _ _ iZ) rfl rfl ?_|refine AU ?_|refine IW ?_ ?_<;>intro h<;>try omega)<;>conv=>whnf
    all_goals try(exact absurd (by assumption:Z7 u=[120]) (by assumption))
    .have hnp:Y2 u=false:=by rw[X1];simpa using(by assumption:¬Z7 u=[120])
     have oV:ZH u 1 1 false=true:=by assumption
     have eT:Xp u=true:=by unfold Xp;rw[oV,hnp];rfl
     have hu1:u.length=1:=by have:=Jo oV;omega
     rw[hk'];refine CALL.aA [3,2,1,4,5] (W7 ps hb b k' (by omega) u hu hu1 L E S R vs.length [] xs hxs (by omega)) ?_;rintro r O' vW ⟨n,xs',hn,rfl,hz,rfl,rfl⟩;have jB:n<=(ps.drop (b+1)).length:=by rw[hn];exact VQ _ _
     rw[zD]at jB
     have hmem:Z7 u∈vs.map Z7++(xs.map fun x=>Z7 (x.take 1))<->wX xs u=true:=by
      unfold wX;rw[zQ,xH];constructor
      .rintro(h|h)
       .obtain⟨v,hv,he⟩:=yc.1 h;have h1:=(hvs v hv).1;have h2:=z8 List.length he;unfold Z7 at h2;simp only[zy]at h2;omega
       .obtain⟨x,hx,he⟩:=yc.1 h;exact⟨x,hx,by simp[he]⟩
      .rintro⟨x,hx,he⟩;exact .inr (yc.2 ⟨x,hx,by simpa using he⟩)
     have KO:Y3 (vs.map Z7++xs.map fun x=>Z7 (x.take 1)) (ps.drop b)=if n=0\/wX xs u=true then none else Y3 ((vs.map Z7++xs.map fun x=>Z7 (x.take 1))++ [Z7 u]) (ps.drop (b+1+n)):=by
      rw[ZX hu,Y3,zf eT,<-hn,yB];simp only[hmem]
     by_cases jR:wX xs u=false/\n≠0
     .obtain⟨z,rfl,tI,CT⟩:=hz jR.1;rw[show(!wX xs u&&decide (n≠0))=true by simp[jR]];conv=>whnf
      repeat'(first|refine IW ?_ ?_<;>intro h<;>try omega)<;>conv=>whnf
      have e:(xs++ [z]).length=xs.length+1:=by simp
      refine⟨(b+1+n,xs++ [z]),⟨by simp only;omega,by simp;omega,?_,?_⟩,by simp only;omega,?_⟩
      .intro x hx';rcases zQ.1 hx' with h1|h1
       exact hxs x h1
       .rw[zI.1 h1];refine⟨?_,CT⟩;rcases z with _|⟨c,t⟩
        simp at tI;subst tI;simp at hu1;simp
      .simp only;rw[hy,KO,z7 (by simp[jR])];simp[tI]
      .dsimp only;rw[show ps.length-(b+1+n)=k'-n by omega];conv=>whnf
       exact vU.kA h0 [0,1,2,3,4,6]
     .have nu:n=0\/wX xs u=true:=by
       rcases xx n with h|h
       exact .inl h
       .right
        cases hd:wX xs u with
        |true=>rfl
        |false=>exact absurd ⟨hd,by omega⟩ jR
      have KR:uX ps=false:=by rw[hc0,hy,KO,zf nu]
      rw[show(!wX xs u&&decide (n≠0))=false by rcases nu with h|h<;>simp[h]];conv=>whnf
      repeat'(first|refine IW ?_ ?_<;>intro h<;>try omega)<;>conv=>whnf
      refine u0.kG 7 h0 rfl rfl rfl ⟨?_,rfl,rfl⟩;rw[KR];rfl
    .have hnp:Y2 u=false:=by rw[X1];simpa using(by assumption:¬Z7 u=[120])
     have oV:ZH u 1 1 false=false:=by assumption
     have eT:¬Xp u=true:=by unfold Xp;simp[oV]
     have uE:uX ps=false:=by
      rw[hc0,hy,ZX hu,Y3,z7 eT];simp only[VR];rw[z7 (by simp[hnp])]
     refine u0.kG 7 h0 rfl rfl rfl ⟨?_,rfl,rfl⟩;rw[uE];rfl
    .have hpv:Y2 u=true:=by rw[X1];simpa using(by assumption:Z7 u=[120])
     have eT:¬Xp u=true:=by unfold Xp;simp[hpv]
     have uE:uX ps=decide (ZW (YK 1) (ps.drop (b+1))≠0/\ZW (YK 1) (ps.drop (b+1))=(ps.drop (b+1)).length):=by
      rw[hc0,hy,ZX hu,Y3,z7 eT];simp only[VR];rw[zf hpv]
     refine CALL.aA [3,2,1,4,5] (Lu ps hb b (ps.length-b) (by omega) tH L E S R vs.length xs.length []) ?_;rintro r O' vW ⟨P',rfl,rfl,rfl⟩;rw[<-uE];cases KR:uX ps with
     |true=>
      conv=>whnf
      repeat'(first|refine IW ?_ ?_<;>intro h<;>try omega)<;>conv=>whnf
      exact u0.kG 7 h0 rfl rfl rfl ⟨rfl,rfl,rfl⟩
     |false=>
      conv=>whnf
      repeat'(first|refine IW ?_ ?_<;>intro h<;>try omega)<;>conv=>whnf
      exact u0.kG 7 h0 rfl rfl rfl ⟨rfl,rfl,rfl⟩
   .repeat'(first|refine AU ?_|refine IW ?_ ?_<;>intro h<;>try omega)<;>conv=>whnf
    have uE:uX ps=true:=by rw[hc0,hy,zN (by omega),Y3];rfl
    refine u0.kG 7 h0 rfl rfl rfl ⟨?_,rfl,rfl⟩;rw[uE];rfl
 .repeat'(first|refine AU ?_|refine IW ?_ ?_<;>intro h<;>try omega)<;>conv=>whnf
  have qu:YN (vs.map Z7) (ps.drop a)=some (ps.drop a,vs.map Z7):=by
   rw[zN (by omega)];rfl
  have hc0:uX ps=match Y3 (vs.map Z7) (ps.drop a)with|none=>false|some l=>VR l:=by rw[wR];unfold aH;rw[hx,qu]
  refine vZ.go Z0 [2,4,5] (X:=Nat×List (List UInt8)) (fun y=>y.1<=ps.length/\y.2.length<=y.1/\(∀x∈y.2,1<=x.length/\Sm x)/\Y3 (vs.map Z7) (ps.drop a)=Y3 (vs.map Z7++y.2.map fun x=>Z7 (x.take 1)) (ps.drop y.1)) (fun y=>[]) (fun y=>[(0,KM),(1,gw L E S R 4 vs.length 5 y.2.length []),(2, .rows 1 (ps.map Zf)),(3,nt y.1 (ps.length-y.1)),(4, .rows 1 (vs.map Zf)),(5, .rows 1 (y.2.map Zf))]) 6 (fun y=>ps.length-y.1) (a,[]) ⟨by simp only;omega,by simp,by simp,by simp⟩ ?_;conv=>whnf
  refine⟨by exact vU.kA h0 [0,1,2,3,4,5],?_⟩;rintro⟨b,xs⟩ ⟨od,hxl,hxs,hy⟩;dsimp only at od hxl hxs hy⊢;conv=>whnf
  rcases zY b ps.length with tH|tH
  .obtain⟨u,hu⟩:∃u,ps[b]?=some u:=⟨_,z1 tH⟩;have iZ:=wS u (zV hu);obtain⟨k',hk'⟩:∃k',ps.length-b=k'+1:=⟨ps.length-b-1,by omega⟩;clear hx qu hvl;repeat'(first|refine GET.at (row:=Zf u) (by rw[z6,show b+(0:Int).toNat=b by simp,hu];rfl) ?_|refine CALL.value (YE _ iZ) rfl rfl ?_|refine CALL.value (Vo _ _ _ iZ) rfl rfl ?_|refine AU ?_|refine IW ?_ ?_<;>intro h<;>try omega)<;>conv=>whnf
   all_goals try(exact absurd (by assumption:Z7 u=[120]) (by assumption))
   .have hnp:Y2 u=false:=by rw[X1];simpa using(by assumption:¬Z7 u=[120])
    have oV:ZH u 1 1 false=true:=by assumption
    have eT:Xp u=true:=by unfold Xp;rw[oV,hnp];rfl
    have hu1:u.length=1:=by have:=Jo oV;omega
    rw[hk'];refine CALL.aA [3,2,1,4,5] (W7 ps hb b k' (by omega) u hu hu1 L E S R vs.length [] xs hxs (by omega)) ?_;rintro r O' vW ⟨n,xs',hn,rfl,hz,rfl,rfl⟩;have jB:n<=(ps.drop (b+1)).length:=by rw[hn];exact VQ _ _
    rw[zD]at jB
    have hmem:Z7 u∈vs.map Z7++(xs.map fun x=>Z7 (x.take 1))<->wX xs u=true:=by
     unfold wX;rw[zQ,xH];constructor
     .rintro(h|h)
      .obtain⟨v,hv,he⟩:=yc.1 h;have h1:=(hvs v hv).1;have h2:=z8 List.length he;unfold Z7 at h2;simp only[zy]at h2;omega
      .obtain⟨x,hx,he⟩:=yc.1 h;exact⟨x,hx,by simp[he]⟩
     .rintro⟨x,hx,he⟩;exact .inr (yc.2 ⟨x,hx,by simpa using he⟩)
    have KO:Y3 (vs.map Z7++xs.map fun x=>Z7 (x.take 1)) (ps.drop b)=if n=0\/wX xs u=true then none else Y3 ((vs.map Z7++xs.map fun x=>Z7 (x.take 1))++ [Z7 u]) (ps.drop (b+1+n)):=by
     rw[ZX hu,Y3,zf eT,<-hn,yB];simp only[hmem]
    by_cases jR:wX xs u=false/\n≠0
    .obtain⟨z,rfl,tI,CT⟩:=hz jR.1;rw[show(!wX xs u&&decide (n≠0))=true by simp[jR]];conv=>whnf
     repeat'(first|refine IW ?_ ?_<;>intro h<;>try omega)<;>conv=>whnf
     have e:(xs++ [z]).length=xs.length+1:=by simp
     refine⟨(b+1+n,xs++ [z]),⟨by simp only;omega,by simp;omega,?_,?_⟩,by simp only;omega,?_⟩
     .intro x hx';rcases zQ.1 hx' with h1|h1
      exact hxs x h1
      .rw[zI.1 h1];refine⟨?_,CT⟩;rcases z with _|⟨c,t⟩
       simp at tI;subst tI;simp at hu1;simp
     .simp only;rw[hy,KO,z7 (by simp[jR])];simp[tI]
     .dsimp only;rw[show ps.length-(b+1+n)=k'-n by omega];conv=>whnf
      exact vU.kA h0 [0,1,2,3,4,6]
    .have nu:n=0\/wX xs u=true:=by
      rcases xx n with h|h
      exact .inl h
      .right
       cases hd:wX xs u with
       |true=>rfl
       |false=>exact absurd ⟨hd,by omega⟩ jR
     have KR:uX ps=false:=by rw[hc0,hy,KO,zf nu]
     rw[show(!wX xs u&&decide (n≠0))=false by rcases nu with h|h<;>simp[h]];conv=>whnf
     repeat'(first|refine IW ?_ ?_<;>intro h<;>try omega)<;>conv=>whnf
     refine u0.kG 7 h0 rfl rfl rfl ⟨?_,rfl,rfl⟩;rw[KR];rfl
   .have hnp:Y2 u=false:=by rw[X1];simpa using(by assumption:¬Z7 u=[120])
    have oV:ZH u 1 1 false=false:=by assumption
    have eT:¬Xp u=true:=by unfold Xp;simp[oV]
    have uE:uX ps=false:=by
     rw[hc0,hy,ZX hu,Y3,z7 eT];simp only[VR];rw[z7 (by simp[hnp])]
    refine u0.kG 7 h0 rfl rfl rfl ⟨?_,rfl,rfl⟩;rw[uE];rfl
   .have hpv:Y2 u=true:=by rw[X1];simpa using(by assumption:Z7 u=[120])
    have eT:¬Xp u=true:=by unfold Xp;simp[hpv]
    have uE:uX ps=decide (ZW (YK 1) (ps.drop (b+1))≠0/\ZW (YK 1) (ps.drop (b+1))=(ps.drop (b+1)).length):=by
     rw[hc0,hy,ZX hu,Y3,z7 eT];simp only[VR];rw[zf hpv]
    refine CALL.aA [3,2,1,4,5] (Lu ps hb b (ps.length-b) (by omega) tH L E S R vs.length xs.length []) ?_;rintro r O' vW ⟨P',rfl,rfl,rfl⟩;rw[<-uE];cases KR:uX ps with
    |true=>
     conv=>whnf
     repeat'(first|refine IW ?_ ?_<;>intro h<;>try omega)<;>conv=>whnf
     exact u0.kG 7 h0 rfl rfl rfl ⟨rfl,rfl,rfl⟩
    |false=>
     conv=>whnf
     repeat'(first|refine IW ?_ ?_<;>intro h<;>try omega)<;>conv=>whnf
     exact u0.kG 7 h0 rfl rfl rfl ⟨rfl,rfl,rfl⟩
  .repeat'(first|refine AU ?_|refine IW ?_ ?_<;>intro h<;>try omega)<;>conv=>whnf
   have uE:uX ps=true:=by rw[hc0,hy,zN (by omega),Y3];rfl
   refine u0.kG 7 h0 rfl rfl rfl ⟨?_,rfl,rfl⟩;rw[uE];rfl
end Go.Proofs.YtlcbipfmodcedaaGreatDoor
