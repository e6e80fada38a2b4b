/- Part 42: RCan10. Conditions: as each part says. -/
import Derived.Test.YtlcbipfmodcedaaGreatDoorFrm35
import Derived.Test.YtlcbipfmodcedaaGreatDoorFrm37
import Derived.Test.YtlcbipfmodcedaaGreatDoorFrm41
set_option linter.unusedVariables false
set_option linter.unusedSimpArgs false
set_option maxRecDepth 20000
set_option maxHeartbeats 8000000
namespace Go.Proofs.YtlcbipfmodcedaaGreatDoor
open Go.Sx Go.Our Go.Lib
open _root_.Go.Proofs.Tryz
def HJ:uu:=(Zs [(0,1),(1,1),(2,1),(3,1),(4,1),(6,1),(7,1),(8,1),(5,2),(9,3),(10,1),(11,3),(12,0),(13,1)])
def HK:uu:=(Zs [(0,1),(1,1),(2,1),(3,1),(4,1),(5,1),(6,1),(8,1),(9,1),(10,1),(7,2),(11,2),(12,3),(13,1),(14,1)])
def HL:uu:=(Zs [(0,1),(1,1),(2,1),(3,1),(4,1),(6,1),(7,1),(8,1),(9,1),(10,1),(11,1),(5,2),(12,2),(13,1),(14,2),(15,1),(16,0)])
theorem RK(col:Nat->Int)(sg:Nat->List Qd):∀l:List Nat,ZB (kY col sg l)=true
 | []=>rfl
 |x::l=>by
  have:=RK col sg l;unfold kY at this⊢;rw[zG,ZB,this];simp[oL,Yr,JN,plain,Zo]
instance {col:Nat->Int}{sg:Nat->List Qd}{l:List Nat}:bu (kY col sg l):=⟨RK col sg l⟩
theorem ZiL(T:wU)(col:Nat->Int)(sg:Nat->List Qd)(x k n:Nat)(a b:Int):List.take x (kY col sg (List.range x))++List.map (fun row=>List.map (fJ T 135) row) (List.take 1 (List.drop 0 [[SV.int .i64 a,SV.int .i64 b,SV.sl (.loc k) 0 16 n none]]))=kY col sg (List.range x)++ [[.v (.int .i64 a), .v (.int .i64 b), .v (.sl (.loc k) 0 16 n none)]]:=by
 rw[zg (by simp[kY])];rfl
theorem ZiM(col:Nat->Int)(sg:Nat->List Qd)(x:Nat){row:List DC}:(kY col sg (List.range x)++ [row])[x]?=some row:=by
 rw[zw (by simp[kY])];simp[kY]
theorem Zki(col:Nat->Int)(sg:Nat->List Qd)(x:Nat){sv:SV}:uB (kY col sg (List.range x)++ [[.v (.int .i64 (x:Int)), .v (.int .i64 (col x)), .v sv]]) x 2 (.uA 16 (((sg x).map Z3).take (sg x).length))=kY col sg (List.range (x+1)):=by
 rw[zg (by simp)];unfold uB kY;rw[List.range_succ,yz];apply yu;intro i;rw[yo];by_cases e:x=i
 .subst e;rw[zw (by simp),zw (by simp)];simp[oL]
 .simp only[e,xG];by_cases h:i<x
  rw[zn (by simpa using h),zn (by simpa using h)];simp;rw[zW (by simp;omega),zW (by simp;omega)];rfl
theorem RL(σ:Nat->Nat)(n x:Nat)(sv:SV):um σ (.rows 1 (JL n x sv))= .rows 1 (JL n x (ur σ sv)):=by
 have go:∀l:List Nat,Xn σ (l.map fun y=>[if y=x then sv else .any])=l.map fun y=>[if y=x then ur σ sv else .any]:=fun l=>by
  induction l with
  |nil=>rfl
  |cons y l ih=>
   simp only[zG,Xn,uJ,ih];by_cases h:y=x
   simp[h];simp[h,ur]
 simp only[um,JL,go]
theorem ZcC{k n x:Nat}{sv:SV}(h:ZV k sv=true):Zh k (.rows 1 (JL n x sv))=true:=by
 have go:∀l:List Nat,Ys k (l.map fun y=>[if y=x then sv else .any])=true:=fun l=>by
  induction l with
  |nil=>rfl
  |cons y l ih=>
   simp only[zG,Ys,ZR,ih];by_cases h2:y=x
   simp[h2,h];simp[h2,ZV]
 simp only[Zh,JL,go]
theorem RM{K:Env}{w:World}{F:Nat->Prop}{i:Nat}{col:Nat->Int}{sg:Nat->List Qd}{o:List Nat}{R:List (List SV)}(hR:gM K w i 3 (kY col sg o) R)
 (hk:∀(r c es':Nat) (rows:List (List SV)) (row:List DC),(kY col sg o)[r]?=some row->row[c]?=some (.uA es' rows)->Zj rows=true->∃j9 v,R[r]?=some j9/\j9[c]?=some (.val v)/\∀w',qW w w' F->∃en,uL w' v es' rows en):
 ∃v:Nat->Value,(∀j (h:j<o.length),R[j]?=some [.int .i64 (o[j]:Int), .int .i64 (col o[j]), .val (v j)])/\∀j (h:j<o.length) w',qW w w' F->∃en,uL w' (v j) 16 ((sg o[j]).map Z3) en:=by
 have hD:∀j (h:j<o.length),(kY col sg o)[j]?=some (oL col sg o[j]):=fun j h=>by unfold kY;rw[z6,z1 h];rfl
 have hx:∀j (h:j<o.length),∃v,R[j]?=some [.int .i64 (o[j]:Int), .int .i64 (col o[j]), .val v]/\∀w',qW w w' F->∃en,uL w' v 16 ((sg o[j]).map Z3) en:=fun j h=>by
  obtain⟨r1,a1,a2⟩:=hR.cv j 0 _ _ (hD j h) rfl;obtain⟨r2,b1,b2⟩:=hR.cv j 1 _ _ (hD j h) rfl;obtain⟨r3,v,c1,c2,c3⟩:=hk j 2 _ _ _ (hD j h) rfl (Zo _);rw[a1]at b1 c1;injection b1 with b1;injection c1 with c1;subst b1 c1
  have hl:=hR.lens j _ _ (hD j h) a1;refine⟨v,?_,c3⟩;rw[a1]
  match r1,hl,a2,b2,c2 with
  | [p,q,r],_,a2,b2,c2=>
    simp at a2 b2 c2;rw[a2,b2,c2]
 refine⟨fun j=>match R[j]? with|some [_,_, .val v]=>v|_=>undef,fun j h=>?_,fun j h=>?_⟩
 .obtain⟨v,h1,_⟩:=hx j h;simp only[h1]
 .obtain⟨v,h1,h2⟩:=hx j h;simp only[h1];exact h2
theorem BR{A:List LB}{l:List Qd}{cl:List Int}(hl:l.length<=1048576)(x:Nat):(Yo A l cl x).length<=1152921504606846976:=zO (BP hl x) (by omega)
theorem RN(A:List LB)(l z:List Qd)(lim ll:Option Nat)(cl:List Int)(dy:jh A l cl)(hpk:∀q∈l, ¬q.p.k=2)(hz:(l++z).length<=1152921504606846976):
 vS prog uf 34 6 [.ptr (.loc 0) 0 0 0, .sl (.loc 4) 0 1 A.length none] [(3, .deep false 1 (wT (uQ A l))),(4, .rows 1 (cl.map Zg))] [(0,Ge l.length lim A.length ll none),(1, .rows 16 ((l++z).map Z3)),(2, .mp (qb (Xr 0 A A.length)))]
 (fun r O nx=> ∃F,Refs A l cl F/\r= .sl (.loc 6) 0 1 A.length none/\O=[(3, .deep false 1 (wT (uQ A l))),(6, .rows 1 (F.map Zg))]/\nx=7):=by
 have e8:=dy.few;refine vS.enter Z0 call34 func34 rfl 85 rfl rfl [.tmp 4] rfl ?_;intro w0 F η0 h0;conv=>whnf
 skip
 refine vZ.kj Z0 [0] [] (X:=List Int) (fun c=>jh A l c/\∀F,Refs A l c F->Refs A l cl F) (fun c=>[(1, .sl (.loc 6) 0 1 A.length none)]) (fun c=>[(3, .deep false 1 (wT (uQ A l))),(6, .rows 1 (c.map Zg))]) 7 (fun c=>A.length-wO c) cl ⟨dy,fun F h=>h⟩ ?_;conv=>whnf
 refine⟨by exact vU.kA h0 [4],?_⟩;rintro c ⟨hc,hR⟩;have ki:=hc.cn;have hS:=fun x (hx:x<A.length)=>Za4 A l z lim ll c x hx hc.cn hc.few hc.ln hc.nd hc.mem hc.cs hpk hz;have hc1:=LV (Yt A l c) none (by rw[YZ,hc.cn];omega);have hc0:=LV c none (by rw[hc.cn];omega);rw[YZ,hc.cn]at hc1;rw[hc.cn]at hc0;conv=>whnf
 skip
 refine vZ.nil 5 3 rfl ?_;refine uT.loop (uT.dS 7 (kY (jE c) (Yo A l c) (List.range 0)) rfl (by unfold kY;first|exact .nil|(simp[Hi]))) ?_;refine vZ.kj Z0 [0,1] [] (X:=Nat) (fun x=>x<=A.length) (fun x=>[(6, .int .i64 (x:Int)),(5, .sl (.loc 7) 0 3 x none)]) (fun x=>[(3, .deep false 1 (wT (uQ A l))),(6, .rows 1 (c.map Zg)),(7, .deep false 3 (kY (jE c) (Yo A l c) (List.range x)))]) 8 (fun x=>A.length-x) 0 (by omega) ?_;conv=>whnf
 refine⟨by exact vU.kA h0 [6,7],?_⟩;intro x hx;conv=>whnf
 by_cases hxA:x<A.length
 .have hs:=hS x hxA;have gC:∀{k:Nat},k=x->(c.map Zg)[k]?=some (Zg (jE c x)):=fun e=>by subst e;unfold jE;rw[z6,zl,z1 (by omega)];rfl
  repeat'(first|(show uq _ _ _ _ _ _ _;first|refine Z4 5 HJ ?_|refine Z4 11 HK ?_|refine Z4 12 HL ?_)|refine wh.mk (fun _ _=>?_)|refine GET.at (gC (by omega)) ?_|refine AU ?_|refine IW ?_ ?_<;>intro h<;>try omega)<;>conv=>whnf
  have Gb:x< (uQ A l).length:=by simp[uQ];omega
  have Ro:(wT (uQ A l)).length=A.length:=by simp[wT,uQ]
  have hIx:((uQ A l)[x]).map Y8=(cc A l x).map Y8:=by simp[uQ]
  refine CALL.lq (i:=3) (x:=x) (D:=wT (uQ A l)) (rows:=(cc A l x).map Y8) rfl (by rw[UE Gb,<-hIx];rfl) (Bk _) (fun η1=>?_);rw[Ro,zy];refine CALL.aA [0,1,2,3,6,5,8] hs ?_ (oz:=?_) (hS:=?_)
  rotate_left
  .repeat'(first|(refine Yf rfl ?_ ?_)|exact ZcC rfl|exact WM|exact WN|rfl)
  .repeat'(first|exact trivial|(with_reducible rfl)|exact(RL _ _ _ _).symm|exact fB.symm|exact r9|exact fC.symm|exact ri|exact rfl|((conv=>whnf);refine And.intro ?_ ?_))
   rw[RL];rfl
  rintro r O nx ⟨rfl,rfl,rfl⟩;conv=>whnf
  repeat'(first|refine wh.mk (fun _ _=>?_)|refine u6.mk (Zn 40 rfl rfl rfl (by simp[kY]) (by omega)) ?_)<;>conv=>whnf
  refine⟨x+1,by omega,by omega,?_⟩;rw[ZiL];conv=>whnf
  refine(uT.goes (uT.fI 11 x 2 9 rfl (ZiM _ _ _) rfl rfl (by rw[Zd _ (Zo _),zy];exact zo _) (by decide))).trans ?_;rw[Zd _ (Zo _),Zki];exact vU.kA h0 [6,11]
 .have iF:x=A.length:=by omega
  subst iF;repeat'(first|refine IW ?_ ?_<;>intro h<;>try omega)<;>conv=>whnf
  refine CALL.nodes (col:=jE c) (sg:=Yo A l c) (i:=7) (n:=A.length) rfl rfl (BR hc.ln) (BK hc.cs) (ZiG A l c) (by omega) rfl (by omega) (n1:=9) rfl (fun hn2=>?_) (fun hn2 o po so=>?_)
  .obtain⟨o,ho⟩:∃o,o=List.range A.length:=⟨_,rfl⟩;have po:o.Perm (List.range A.length):=ho▸vq _;have so:o.Pairwise fun a b=>jX (jE c) (Yo A l c) a b<=0:=VJ (by rw[ho,yE];exact hn2);rw[<-ho];conv=>whnf
   have sq:o.length=A.length:=by rw[po.length_eq,yE]
   have eW:∀x∈o,x<A.length:=fun x hx=>yj.1 (po.mem_iff.1 hx);have hnd:o.Nodup:=po.symm.nodup xJ;have hpre:=Vz A l c;have hs:=Ry so;obtain⟨f,hf⟩:∃f,f=UH A l c:=⟨_,rfl⟩;have hstep:Yt A l c=wP f o A.length o.length:=by rw[BG po,hf];unfold Yt;rw[ki]
   repeat'(first|refine u6.mk (Uw 8 rfl (by omega) (by omega) (by omega) (by omega)) ?_)<;>conv=>whnf
   rw[Int.toNat_natCast,show List.replicate A.length [SV.int .i64 0]=(List.replicate A.length 0).map Zg by rw[x5];rfl,<-BF (c:=f) (o:=o)];refine vZ.rest (i:=7) (O1:=[(8, .rows 1 ((wP f o A.length 0).map Zg)),(3, .deep false 1 (wT (uQ A l))),(6, .rows 1 (c.map Zg))]) rfl rfl (fun K w h1 R BS hk=>?_);obtain⟨v,gR,hv⟩:=RM BS hk;clear hk;have rD:=h0;have h0:=h1;refine vZ.kj Z0 [0,1,5,7] [] (X:=Nat) (fun i=>i<=o.length) (fun i=>[(8, .int .i64 (i:Int))]) (fun i=>[(3, .deep false 1 (wT (uQ A l))),(6, .rows 1 (c.map Zg)),(8, .rows 1 ((wP f o A.length i).map Zg))]) 9 (fun i=>o.length-i) 0 (by omega) ?_;conv=>whnf
   refine⟨by exact vU.kA h0 [],?_⟩;intro i hi;conv=>whnf
   by_cases hil:i<o.length
   .have dw:=eW _ (zk hil);have gO:∀{k m:Nat} (h:k<o.length),m=k->R[m]?=some [.int .i64 (o[k]:Int), .int .i64 (jE c o[k]), .val (v k)]:=fun h e=>by subst e;exact gR _ h
    obtain⟨v0,qu⟩:∃v0,∀{m:Nat},m=o[i]->((wP f o A.length i).map Zg)[m]?=some (Zg v0):=⟨(wP f o A.length i)[o[i]]'(by rw[Jt];exact dw),fun e=>by
     subst e;rw[z6,z1 (by rw[Jt];exact dw)];rfl⟩
    rcases i with _|j
    .have hr:=WA (c:=f) hnd hil dw (v:=0) (by rw[BI (by rw[hf];exact hpre) (by rw[hf];exact hs)];rfl);repeat'(first|refine GET.at (gO hil (by omega)) ?_|refine GET.at (qu (by omega)) ?_|(show uq _ _ _ _ _ _ _;first|refine Z4 5 HJ ?_|refine Z4 11 HK ?_|refine Z4 12 HL ?_)|refine AU ?_|refine IW ?_ ?_<;>intro h<;>try omega)<;>conv=>whnf
     all_goals first|(exfalso;omega)|skip
     rw[U4 (x:=o[0]) (by omega)];refine⟨1,by omega,by omega,?_⟩;rw[<-hr];conv=>whnf
     exact vU.kA h0 []
    .have hj:j<o.length:=by omega
     have hjn:=eW _ (zk hj);have hne:o[j]≠o[j+1]:=fun e=>by have:=(x9 hnd).1 e;omega
     have ak:=BJ (c:=f) (by rw[hf];exact hpre) (by rw[hf];exact hs) hil;have wK:=fun(v:Int) (hv:v=(uZ f o o[j+1]:Int))=>WA (c:=f) hnd hil dw hv;have hgt:=BH (c:=f) (n:=A.length) (i:=j+1) (Nat.lt_succ_self j) hj hjn
     have gT:∀{m:Nat},m=o[j]->((wP f o A.length (j+1)).map Zg)[m]?=some (Zg (uZ f o o[j]:Int)):=fun e=>by
      subst e;rw[z6,hgt];rfl
     have eT:=(Gi A l c o[j] o[j+1]).2;unfold bV at eT;repeat'(first|refine IW ?_ ?_<;>intro h<;>try omega)<;>conv=>whnf
     all_goals first
      |(exfalso;omega)
      |(have hr:=wK (uZ f o o[j]:Int) (by rw[ak,zf (by rw[hf];omega)]);rw[U4 (x:=o[j+1]) (by omega),hr];refine⟨j+2,by omega,by omega,?_⟩;(conv=>whnf);exact vU.kA h0 [])
      |(have hr:=wK ((j+1:Nat):Int) (by rw[ak,z7 (by rw[hf];omega)]);rw[U4 (x:=o[j+1]) (by omega),hr];refine⟨j+2,by omega,by omega,?_⟩;(conv=>whnf);exact vU.kA h0 [])
   .have hie:i=o.length:=by omega
    have h0:=rD;subst hie;rw[<-hstep];repeat'(first|refine IW ?_ ?_<;>intro h<;>try omega)<;>conv=>whnf
    refine CALL.aA [8] (hc1) ?_;rintro r O nx ⟨rfl,rfl,rfl⟩;conv=>whnf
    skip
    refine CALL.aA [6] (hc0) ?_;rintro r O nx ⟨rfl,rfl,rfl⟩;conv=>whnf
    repeat'(first|refine IW ?_ ?_<;>intro h<;>try omega)<;>conv=>whnf
    .have hst:wO (Yt A l c)=wO c:=by omega
     exact u0.aA h0 [8] (.sl (.loc 6) 0 1 A.length none) [(3, .deep false 1 (wT (uQ A l))),(6, .rows 1 ((Yt A l c).map Zg))] ⟨_,hR _ (.stop hst),rfl,rfl,rfl⟩
    .have hst:wO (Yt A l c)≠wO c:=by omega
     have hge:=B7 A l c;have hle:=B6 (Yt A l c);rw[YZ,hc.cn]at hle;refine⟨Yt A l c,⟨hc.step,fun F hF=>hR F (.go hst hF)⟩,by omega,?_⟩;conv=>whnf
     exact vU.kA h0 [8]
  .conv=>whnf
   have sq:o.length=A.length:=by rw[po.length_eq,yE]
   have eW:∀x∈o,x<A.length:=fun x hx=>yj.1 (po.mem_iff.1 hx);have hnd:o.Nodup:=po.symm.nodup xJ;have hpre:=Vz A l c;have hs:=Ry so;obtain⟨f,hf⟩:∃f,f=UH A l c:=⟨_,rfl⟩;have hstep:Yt A l c=wP f o A.length o.length:=by rw[BG po,hf];unfold Yt;rw[ki]
   repeat'(first|refine u6.mk (Uw 8 rfl (by omega) (by omega) (by omega) (by omega)) ?_)<;>conv=>whnf
   rw[Int.toNat_natCast,show List.replicate A.length [SV.int .i64 0]=(List.replicate A.length 0).map Zg by rw[x5];rfl,<-BF (c:=f) (o:=o)];refine vZ.rest (i:=8) (O1:=[(9, .rows 1 ((wP f o A.length 0).map Zg)),(3, .deep false 1 (wT (uQ A l))),(6, .rows 1 (c.map Zg))]) rfl rfl (fun K w h1 R BS hk=>?_);obtain⟨v,gR,hv⟩:=RM BS hk;clear hk;have rD:=h0;have h0:=h1;refine vZ.kj Z0 [0,1,5,7] [] (X:=Nat) (fun i=>i<=o.length) (fun i=>[(8, .int .i64 (i:Int))]) (fun i=>[(3, .deep false 1 (wT (uQ A l))),(6, .rows 1 (c.map Zg)),(9, .rows 1 ((wP f o A.length i).map Zg))]) 10 (fun i=>o.length-i) 0 (by omega) ?_;conv=>whnf
   refine⟨by exact vU.kA h0 [],?_⟩;intro i hi;conv=>whnf
   by_cases hil:i<o.length
   .have dw:=eW _ (zk hil);have gO:∀{k m:Nat} (h:k<o.length),m=k->R[m]?=some [.int .i64 (o[k]:Int), .int .i64 (jE c o[k]), .val (v k)]:=fun h e=>by subst e;exact gR _ h
    obtain⟨v0,qu⟩:∃v0,∀{m:Nat},m=o[i]->((wP f o A.length i).map Zg)[m]?=some (Zg v0):=⟨(wP f o A.length i)[o[i]]'(by rw[Jt];exact dw),fun e=>by
     subst e;rw[z6,z1 (by rw[Jt];exact dw)];rfl⟩
    rcases i with _|j
    .have hr:=WA (c:=f) hnd hil dw (v:=0) (by rw[BI (by rw[hf];exact hpre) (by rw[hf];exact hs)];rfl);repeat'(first|refine GET.at (gO hil (by omega)) ?_|refine GET.at (qu (by omega)) ?_|(show uq _ _ _ _ _ _ _;first|refine Z4 5 HJ ?_|refine Z4 11 HK ?_|refine Z4 12 HL ?_)|refine AU ?_|refine IW ?_ ?_<;>intro h<;>try omega)<;>conv=>whnf
     all_goals first|(exfalso;omega)|skip
     rw[U4 (x:=o[0]) (by omega)];refine⟨1,by omega,by omega,?_⟩;rw[<-hr];conv=>whnf
     exact vU.kA h0 []
    .have hj:j<o.length:=by omega
     have hjn:=eW _ (zk hj);have hne:o[j]≠o[j+1]:=fun e=>by have:=(x9 hnd).1 e;omega
     have ak:=BJ (c:=f) (by rw[hf];exact hpre) (by rw[hf];exact hs) hil;have wK:=fun(v:Int) (hv:v=(uZ f o o[j+1]:Int))=>WA (c:=f) hnd hil dw hv;have hgt:=BH (c:=f) (n:=A.length) (i:=j+1) (Nat.lt_succ_self j) hj hjn
     have gT:∀{m:Nat},m=o[j]->((wP f o A.length (j+1)).map Zg)[m]?=some (Zg (uZ f o o[j]:Int)):=fun e=>by
      subst e;rw[z6,hgt];rfl
     have eT:=(Gi A l c o[j] o[j+1]).2;unfold bV at eT;repeat'(first|(refine wh.r5 (fun η3 w3 H3=>?_);(have RO:=fun x hx=>hv x hx w3 H3.fr))|refine GET.at (gO hil (by omega)) ?_|refine GET.at (gO hj (by rw[Z9 (by omega) (by omega)];omega)) ?_|refine GET.at (qu (by omega)) ?_|refine GET.at (gT (by omega)) ?_|(show uq _ _ _ _ _ _ _;first|refine Z4 5 HJ ?_|refine Z4 11 HK ?_|refine Z4 12 HL ?_)|refine CALL.aI (JU (o[j]:Int) (o[j+1]:Int) (jE c o[j]) (jE c o[j+1]) (v j) (v (j+1)) (Yo A l c o[j]) (Yo A l c o[j+1]) (BR hc.ln _) (BR hc.ln _) (BK hc.cs _) (BK hc.cs _)) (fun η' w' H'=>⟨(let⟨en,h⟩:=RO j hj;⟨en,h.now H'.fr (fun k h=>h)⟩),(let⟨en,h⟩:=RO (j+1) hil;⟨en,h.now H'.fr (fun k h=>h)⟩)⟩) rfl rfl ?_|refine AU ?_|refine IW ?_ ?_<;>intro h<;>try omega)<;>conv=>whnf
     all_goals first
      |(exfalso;omega)
      |(have hr:=wK (uZ f o o[j]:Int) (by rw[ak,zf (by rw[hf];omega)]);rw[U4 (x:=o[j+1]) (by omega),hr];refine⟨j+2,by omega,by omega,?_⟩;(conv=>whnf);exact vU.kA h0 [])
      |(have hr:=wK ((j+1:Nat):Int) (by rw[ak,z7 (by rw[hf];omega)]);rw[U4 (x:=o[j+1]) (by omega),hr];refine⟨j+2,by omega,by omega,?_⟩;(conv=>whnf);exact vU.kA h0 [])
   .have hie:i=o.length:=by omega
    have h0:=rD;subst hie;rw[<-hstep];repeat'(first|refine IW ?_ ?_<;>intro h<;>try omega)<;>conv=>whnf
    refine CALL.aA [9] (hc1) ?_;rintro r O nx ⟨rfl,rfl,rfl⟩;conv=>whnf
    skip
    refine CALL.aA [6] (hc0) ?_;rintro r O nx ⟨rfl,rfl,rfl⟩;conv=>whnf
    repeat'(first|refine IW ?_ ?_<;>intro h<;>try omega)<;>conv=>whnf
    .have hst:wO (Yt A l c)=wO c:=by omega
     exact u0.aA h0 [9] (.sl (.loc 6) 0 1 A.length none) [(3, .deep false 1 (wT (uQ A l))),(6, .rows 1 ((Yt A l c).map Zg))] ⟨_,hR _ (.stop hst),rfl,rfl,rfl⟩
    .have hst:wO (Yt A l c)≠wO c:=by omega
     have hge:=B7 A l c;have hle:=B6 (Yt A l c);rw[YZ,hc.cn]at hle;refine⟨Yt A l c,⟨hc.step,fun F hF=>hR F (.go hst hF)⟩,by omega,?_⟩;conv=>whnf
     exact vU.kA h0 [9]
end Go.Proofs.YtlcbipfmodcedaaGreatDoor
