/- Part 50: IsoFind. Conditions: as each part says. -/
import Derived.Test.YtlcbipfmodcedaaGreatDoorCiso22
import Derived.Test.YtlcbipfmodcedaaGreatDoorCiso25
set_option linter.unusedVariables false
set_option linter.unusedSimpArgs false
set_option maxRecDepth 20000
set_option maxHeartbeats 8000000
namespace Go.Proofs.YtlcbipfmodcedaaGreatDoor
open Go.Sx Go.Our
open _root_.Go.Proofs.Tryz
def AJ:uJ:=(ZI [(0,1),(1,1),(2,1),(3,1),(4,1),(5,1),(6,1),(7,1),(8,1),(9,1),(10,1),(11,2),(12,1),(13,1),(14,1),(15,1),(16,1),(17,3),(18,1),(19,1),(20,1),(21,1),(22,1),(23,1),(27,1),(28,1),(29,1),(24,2),(25,1),(26,2),(30,2),(31,1),(32,2),(33,3),(34,1),(35,1)])
def Zc1:uJ:=(ZI [(0,1),(1,1),(2,1),(3,2),(4,2),(5,3),(6,0)])
def Zc2:uJ:=(ZI [(1,1),(2,1),(3,1),(5,1),(8,1),(9,1),(10,1),(12,1),(13,1),(14,1),(0,2),(4,2),(6,1),(7,2),(11,2),(15,1),(16,2),(17,1),(18,3),(19,0),(20,0)])
def FdQ(a b:List Qd)(uf:Int)(r:SV)(O:u0)(nx:Nat):Prop:=∃ps e,kC a b uf ps e/\r= .uI [.sl (.loc 2) 0 2 ps.length none, .int .i64 e]/\O=[(2, .rows 2 (ps.map JM))]/\nx=3
theorem ZgV{a b:List Qd}{F:List Int}{uf:Int}(h:¬Qs F (Z0 a).length):iF a b F uf=([],140):=z6 h
theorem ZkK(n:Nat):List.replicate (n:Int).toNat [SV.int .i64 0]=(ax n []).map Z8:=by
 unfold ax;rw[Int.toNat_natCast];apply yy (by simp);intro i h1 h2;simp[Z8]
theorem ZkL(n:Nat):List.replicate n (-1)=qR n []:=by simp[qR]
theorem Zjd(i:Nat):List.take i ((List.replicate i (-1)).map Z8)++List.take 1 (List.drop 0 [[J9 (Value.int IntKind.i64 (-1))]])=(List.replicate (i+1) (-1)).map Z8:=by
 rw[zo (by simp),List.replicate_succ',yo];rfl
theorem Z9l{m:List Qd}(h:jr ZJ m):m.Nodup:=List.Pairwise.imp (fun hab e=>by subst e;have:=qO.self (c:=ZJ) ‹Qd›;omega) h
theorem Zc3{l:List Qd}{q:Qd}(h:q∉l):jk KQ.ks (KQ.enc q) (qj 1) (lH l)=lH (l++ [q]):=by
 unfold lH;rw[Cs,Ur];rw[yo];rfl
 .cases hx:js q (l.map fun q=>(q,(1:Int)))with
  |none=>rfl
  |some p=>
   obtain⟨i,v⟩:=p;obtain⟨r,hr,e⟩:=zM.1 (y8 (KN hx));injection e with e1 _;exact(h (e1▸hr)).elim
theorem Zf6{l:List Qd}{q:Qd}(h:q∉l):jk (true,[.int .i64, .str, .str, .str, .int .i64, .str, .str, .str, .int .i64, .str, .str, .str, .int .i64, .str, .str, .str]) (jg (.agg [.int .i64 q.s.k, .str q.s.t, .str q.s.y, .str q.s.l, .int .i64 q.p.k, .str q.p.t, .str q.p.y, .str q.p.l, .int .i64 q.o.k, .str q.o.t, .str q.o.y, .str q.o.l, .int .i64 q.g.k, .str q.g.t, .str q.g.y, .str q.g.l])) (J9 (.int .i64 1)) (lH l)=lH (l++ [q]):=Zc3 h
theorem ZgW{l:List Qd}(h:l.Nodup){j:Nat}(hj:j<l.length):l[j]∉l.take j:=by
 intro hm;obtain⟨i,hi,e⟩:=yg.1 hm;rw[zA]at hi;rw[vv]at e;have h1:=h.idxOf_getElem i (by omega);rw[e,h.idxOf_getElem j hj]at h1;omega
theorem Zje{a b:List Qd}(dA:j4 a):∀x,x< (Z0 a).length->∀h:x< (wB a b).length,(wB a b)[x].length<=67108864/\∀s∈(wB a b)[x],∀n∈av s,-1<=n/\n< ((Z0 a).length:Int):=by
 intro x hx h;have e:=E0 (a:=a) (b:=b) hx;rw[zi,z1 h,Option.getD_some]at e;rw[e];have hf:=dA.few;refine⟨by rw[zj];exact zK (yK _ _) (by omega),fun s hs n hn=>?_⟩;obtain⟨q,hq,rfl⟩:=zM.1 hs;have hq:=(yY.1 hq).1;have k:∀t∈Zv q,-1<=wm (wq 0 (Z0 a)) t/\wm (wq 0 (Z0 a)) t< ((Z0 a).length:Int):=fun t ht=>by have:=RF (c:=0) (by omega) hq ht;omega
 unfold av gP at hn;simp only[zI,xh,or_false]at hn;rcases hn with rfl|rfl|rfl|rfl
 exact k _ (by simp[Zv]);exact k _ (by simp[Zv]);exact k _ (by simp[Zv]);exact k _ (by simp[Zv])
theorem Zf7(a za b zb:List Qd)(eX cm:Option Nat)(uf:Int)(ha:a.length<=1152921504606846976)(hb:b.length<=1152921504606846976)(qa:nH a)(qb:nH b)(QF:(a++za).length<=1152921504606846976)(QG:(b++zb).length<=1152921504606846976):
 vW prog uv 28 2 [.sl (.loc 0) 0 16 a.length eX, .sl (.loc 1) 0 16 b.length cm, .int .i64 uf] [] [(0, .rows 16 ((a++za).map Zd)),(1, .rows 16 ((b++zb).map Zd))] (FdQ a b uf):=by
 have hv:=Z61 a za b zb eX cm ha hb qa qb;refine vW.iz Z3 call28 func28 rfl 139 rfl rfl [.cell 6 33, .cell 7 25] rfl ([(1000000000, .jQ [.fn (.func 60) [] [.ptr (.loc 2) 0 0 0, .ptr (.loc 3) 0 0 0]]),(6, .ptr (.loc 2) 0 0 0),(7, .ptr (.loc 3) 0 0 0)]) 60 ([.ptr (.loc 2) 0 0 0, .ptr (.loc 3) 0 0 0]) rfl ?_;intro w0 F η0 h0;conv=>whnf
 repeat'(first|refine AU ?_|refine IW ?_ ?_<;>intro h<;>try omega)<;>conv=>whnf
 refine qn.calm ?_;refine CALL.aA [0,1] (hv) ?_;rintro r O nx ⟨rfl,rfl,rfl⟩;conv=>whnf
 repeat'(first|refine AU ?_|refine IW ?_ ?_<;>intro h<;>try omega)<;>conv=>whnf
 .refine u9.bz 2 ?_;exact u9.aA h0 [4] (.uI [.sl (.loc 2) 0 2 0 none, .int .i64 (Jf a b)]) [(2, .rows 2 [])] ⟨[],_, .inl ⟨h,rfl,rfl⟩,rfl,rfl,rfl⟩
 have kY:Jf a b=0:=by simpa using h
 obtain⟨dA,dB⟩:=Vv kY;have hlk:=Zc0 a za b zb eX cm dA dB QF QG;have hW:=GC dA dB;have jR:=VW a za eX (by unfold VU;have:=dA.few;omega) QF;have hA:=Vg dA;have hB:=Vg dB;have hst:=Z90 (List.replicate ((Z0 a).length+(Z0 b).length) 0) (wB a b) (Z0 a++Z0 b).length 2 (GD ((Z0 a).length+(Z0 b).length)) hW (by unfold GD;split<;>omega);refine qn.calm ?_;refine CALL.aA [4,0,1] (hlk) ?_;rintro r O nx ⟨rfl,rfl,rfl⟩;conv=>whnf
 repeat'(first|refine AU ?_|refine IW ?_ ?_<;>intro h<;>try omega)<;>conv=>whnf
 refine qn.calm ?_;refine CALL.aA [5,6,7,8,9] (hst) ?_;rintro r O nx ⟨rfl,C,c,F9,rfl,rfl⟩;obtain⟨hWF,au,iT,hc0,hc1⟩:=F9.ok hW;rw[zT]at au hc1⊢;have gh:c=((c.toNat:Nat):Int):=by omega
 generalize c.toNat=n at gh⊢;subst gh;conv=>whnf
 repeat'(first|refine AU ?_|refine IW ?_ ?_<;>intro h<;>try omega)<;>conv=>whnf
 refine qn.calm ?_;refine CALL.aA [0] (jR) ?_;rintro r O nx ⟨jj,hjj,rfl,rfl,rfl⟩;conv=>whnf
 repeat'(first|refine AU ?_|refine IW ?_ ?_<;>intro h<;>try omega)<;>conv=>whnf
 simp only[gb,kO];rw[show wQ cmpL (ZR a)=Z0 a from rfl]at hjj⊢;refine uZ.drawn (uZ.take 9 0 0 rfl rfl rfl) (uZ.drawn (uZ.take 9 1 0 rfl rfl rfl) ?_);rw[zj,zj];have eH:IntKind.i64.wrap (2*((Z0 a).length:Int))=((2*(Z0 a).length:Nat):Int):=by rw[Z4 (by omega) (by omega)];omega
 repeat'(first|(show uK _ _ _ _ _ _ _;first|refine Zs 7 AJ ?_)|refine qW.mk (fun _ _=>?_)|refine AD ?_|refine w6.mk ?_ ?_|refine GET.at rfl ?_|refine AU ?_|refine IW ?_ ?_<;>intro h<;>try omega)<;>conv=>whnf
 .refine u9.bz 2 ?_;exact u9.aA h0 [14] (.uI [.sl (.loc 2) 0 2 0 none, .int .i64 140]) [(2, .rows 2 [])] ⟨[],140, .inr (.inl ⟨kY,fun x=>h (by have:=x.1;omega),rfl,rfl⟩),rfl,rfl,rfl⟩
 .refine u9.bz 2 ?_;exact u9.aA h0 [14] (.uI [.sl (.loc 2) 0 2 0 none, .int .i64 140]) [(2, .rows 2 [])] ⟨[],140, .inr (.inl ⟨kY,fun x=>h (by have:=x.2.1;omega),rfl,rfl⟩),rfl,rfl,rfl⟩
 have hAB:(Z0 b).length=(Z0 a).length:=by omega
 have rG:=Zeh C (Z0 a).length (Z0 a++Z0 b).length (wB a b).length 2 n (by omega) iT (by omega) (by omega);rw[au]at rG;refine CALL.aA [5,6,10,8,9] (rG) ?_;rintro r O nx ⟨rfl,rfl,e,rfl,Fa⟩;conv=>whnf
 repeat'(first|(show uK _ _ _ _ _ _ _;first|refine Zs 7 AJ ?_)|refine qW.mk (fun _ _=>?_)|refine AD ?_|refine w6.mk ?_ ?_|refine GET.at rfl ?_|refine AU ?_|refine IW ?_ ?_<;>intro h<;>try omega)<;>conv=>whnf
 .have hne:¬Qs C (Z0 a).length:=fun x=>by rw[Fa.2 x]at h;cases h
  by_cases TP:qw a=qw b
  .refine u9.bz 2 ?_;exact u9.aA h0 [14] (.uI [.sl (.loc 2) 0 2 0 none, .int .i64 140]) [(2, .rows 2 [])] ⟨[],140, .inr (.inr ⟨kY,⟨by omega,by omega,TP⟩,C,_,F9,(ZgV hne).symm⟩),rfl,rfl,rfl⟩
  .refine u9.bz 2 ?_;exact u9.aA h0 [14] (.uI [.sl (.loc 2) 0 2 0 none, .int .i64 140]) [(2, .rows 2 [])] ⟨[],140, .inr (.inl ⟨kY,fun x=>TP x.2.2,rfl,rfl⟩),rfl,rfl,rfl⟩
 have cr:(qw a).length<=1048576:=zK (yK _ _) dA.few;have FL:(qw b).length<=1048576:=zK (yK _ _) dB.few;have heq:=RT (qw a) (qw b) [] [] none none (by rw[zU];omega) (by rw[zU];omega);rw[zU,zU]at heq;refine CALL.aA [12,13] (heq) ?_;rintro r O nx ⟨rfl,rfl,rfl⟩;conv=>whnf
 repeat'(first|(show uK _ _ _ _ _ _ _;first|refine Zs 7 AJ ?_)|refine qW.mk (fun _ _=>?_)|refine AD ?_|refine w6.mk ?_ ?_|refine ud.mk (Ux 8 rfl (by omega) (by omega) (by omega) (by omega)) ?_|refine AU ?_|refine IW ?_ ?_<;>intro h<;>try omega)<;>conv=>whnf
 .refine u9.bz 2 ?_;exact u9.aA h0 [14] (.uI [.sl (.loc 2) 0 2 0 none, .int .i64 140]) [(2, .rows 2 [])] ⟨[],140, .inr (.inl ⟨kY,fun x=>by simp[x.2.2]at h,rfl,rfl⟩),rfl,rfl,rfl⟩
 have hlf:(if 0<if 65536<uf then 65536 else uf then if 65536<uf then 65536 else uf else 0)=((jG uf:Nat):Int):=by unfold jG;omega
 rw[hlf,show List.replicate ((Z0 a).length:Int).toNat [SV.int .i64 0]=(ax (Z0 a).length []).map Z8 from ZkK _];refine ua.w9 16 3 1 rfl rfl ?_
 refine ua.j5 Z3 [1,6,7,9,10,11,77] [2,3,6,8,10,14,15] (X:=Nat) (fun i=>i<=(Z0 a).length) (fun i=>[(78, .int .i64 (i:Int))])
  (fun i=>[(5, .box [.sl (.loc 6) 0 1 (Z0 a++Z0 b).length none, .sl (.loc 10) 0 1 ((Z0 a).length+(Z0 b).length) none, .sl (.loc 8) 0 1 (wB a b).length none, .sl (.loc 9) 0 1 2 none, .int .i64 n]),(16, .box [.ptr (.loc 5) 0 0 0, .int .i64 (Z0 a).length, .mp (.loc 14), .sl (.loc 17) 0 1 i none, .sl (.loc 15) 0 1 (Z0 a).length none, .int .i64 (jG uf)]),(17, .rows 1 ((List.replicate i (-1)).map Z8))]) 18 (fun i=>(Z0 a).length-i) 0 (by omega) ?_
 conv=>whnf
 refine⟨by exact vY.cA h0,?_⟩;intro i hi;conv=>whnf
 refine IF.mk (fun h1=>?_) (fun h1=>?_)
 .have hlt:i< (Z0 a).length:=by simp at h1;omega
  conv=>whnf
  repeat'(first|refine ud.mk (Ye 8 rfl rfl rfl (by simp) (by omega)) ?_|refine AU ?_|refine IW ?_ ?_<;>intro h<;>try omega)<;>conv=>whnf
  rw[Zjd];refine⟨i+1,by omega,by omega,?_⟩;conv=>whnf
  exact vY.kA h0 [2,3,4,5,6,7,8,9,10,11,12,13,14,15,16,19]
 have hie:i=(Z0 a).length:=by simp at h1;omega
 subst hie;clear h1 hi;rw[ZkL];have hbn:b.Nodup:=Z9l dB.cc;conv=>whnf
 repeat'(first|refine AU ?_|refine IW ?_ ?_<;>intro h<;>try omega)<;>conv=>whnf
 refine ua.j5 Z3 [6,7,9,10,11,90,91] [2,3,5,6,8,10,15,16,17] (X:=Nat) (fun j=>j<=b.length) (fun j=>[(92, .int .i64 (j:Int))]) (fun j=>[(14, .mp (lH (b.take j)))]) 18 (fun j=>b.length-j) 0 (by omega) ?_;conv=>whnf
 refine⟨by exact vY.cA h0,?_⟩;intro j hj;conv=>whnf
 refine IF.mk (fun h1=>?_) (fun h1=>?_)
 .have hlt:j<b.length:=by simp at h1;omega
  conv=>whnf
  repeat'(first|refine CALL.value (LA b[j]) rfl rfl ?_|(show uK _ _ _ _ _ _ _;first|refine Zs 17 Zc1 ?_)|refine qW.mk (fun _ _=>?_)|refine AD ?_|refine w6.mk ?_ ?_|refine GET.at (row:=Zd b[j]) (BB hlt (by omega)) ?_|refine ud.mk ⟨KQ.ok b[j],YW KQ qj _⟩ ?_|refine AU ?_|refine IW ?_ ?_<;>intro h<;>try omega)<;>conv=>whnf
  rw[Zf6 (ZgW hbn hlt),<-zB hlt];refine⟨j+1,by omega,by omega,?_⟩;conv=>whnf
  exact vY.cA h0
 have oy:j=b.length:=by simp at h1;omega
 subst oy;clear h1 hj;rw[yb];conv=>whnf
 repeat'(first|refine AU ?_|refine IW ?_ ?_<;>intro h<;>try omega)<;>conv=>whnf
 have nZ:=Z7K (Z0 a++Z0 b) (Z0 a).length C b (wB a b) 2 n (by rw[ze];omega) (by omega) (by rw[U1];omega) (by rw[ze];omega) (Zje dA) (Z0 a).length [] (jG uf) (by simp) (by unfold jG;omega) ⟨by simp,by simp,by simp⟩;have hinv:=BI (fits:=jt (Z0 a++Z0 b) (Z0 a).length b (wB a b)) (Z0 a).length [] (jG uf) (n:=(Z0 a).length) (ok:=cQ C (Z0 a).length) ⟨by simp,by simp,by simp⟩;have hfr:iF a b C uf=_:=z8 (Fa.1 ‹e=true›);have AK:E5 a b:=⟨by omega,by omega,h⟩;rw[au]at nZ;generalize XP (Z0 a).length (cQ C (Z0 a).length) (jt (Z0 a++Z0 b) (Z0 a).length b (wB a b)) (Z0 a).length [] (jG uf)=Z at nZ hinv hfr;refine qn.aA [16,5,14,17,15,6,10,8,9] (nZ) ?_ ?_
 .rintro r O nx ⟨rfl,hq⟩;cases Z with
  |found zs k=>
   obtain⟨rfl,rfl⟩:=hq;obtain⟨hP,hzl⟩:=(hinv.1 zs k rfl).1;have hzl:zs.length=(Z0 a).length:=by simpa using hzl
   have jB:(uG (Z0 a) (Z0 b) zs).length=(Z0 a).length:=by rw[qt (by omega)];omega
   have mh:(Z0 a++Z0 b).length=(Z0 a).length+(Z0 b).length:=ze;conv=>whnf
   repeat'(first|refine AU ?_|refine IW ?_ ?_<;>intro h<;>try omega)<;>conv=>whnf
   simp only[gb,kO];refine ua.w9 2 0 2 rfl rfl ?_;refine ua.j5 Z3 [6,7,9,10,110,111] [3,5,6,17] (X:=Nat) (fun x=>x<=(Z0 a).length) (fun x=>[(112, .int .i64 (x:Int))]) (fun x=>[(2, .box [.sl (.loc 18) 0 2 x none]),(18, .rows 2 (((uG (Z0 a) (Z0 b) zs).take x).map JM))]) 19 (fun x=>(Z0 a).length-x) 0 (by omega) ?_;conv=>whnf
   refine⟨by exact vY.cA h0,?_⟩;intro x hx;have pI:(((uG (Z0 a) (Z0 b) zs).take x).map JM).length=x:=by rw[zj,zA];omega
   conv=>whnf
   refine IF.mk (fun h2=>?_) (fun h2=>?_)
   .have hlt:x< (Z0 a).length:=by simp at h2;omega
    have AL:x<zs.length:=by omega
    have QG:=hP.lt _ (zq AL);have B4:((qR (Z0 a).length zs).map Z8)[x]?=some (Z8 (zs[x]:Int)):=by unfold qR;rw[z7,zu (by simpa using AL),z7,z1 AL];rfl
    have hg1:((Z0 a++Z0 b).map Z9)[x]?=some (Z9 (Z0 a)[x]):=by rw[z7,zu hlt,z1 hlt];rfl
    have hg2:((Z0 a++Z0 b).map Z9)[(Z0 a).length+zs[x]]?=some (Z9 ((Z0 b).getD zs[x] [])):=by rw[z7,zz (by omega),vQ,zi,z1 (by omega)];rfl
    have RO:IntKind.i64.wrap (((Z0 a).length:Int)+(zs[x]:Int))=(((Z0 a).length+zs[x]:Nat):Int):=by rw[Z4 (by omega) (by omega)];omega
    have GF:(uG (Z0 a) (Z0 b) zs).take (x+1)=(uG (Z0 a) (Z0 b) zs).take x++ [((Z0 a)[x],(Z0 b).getD zs[x] [])]:=by rw[zB (by omega)];congr 2;unfold uG;rw[List.getElem_zipWith]
    conv=>whnf
    repeat'(first|(show uK _ _ _ _ _ _ _;first|refine Zs 25 Zc2 ?_)|refine qW.mk (fun _ _=>?_)|refine AD ?_|refine w6.mk ?_ ?_|refine GET.at (row:=Z8 (zs[x]:Int)) (by rw[Int.toNat_natCast,zw];exact B4) ?_|refine GET.at (row:=Z9 (Z0 a)[x]) (by rw[zw,Int.toNat_natCast];exact hg1) ?_|refine GET.at (row:=Z9 ((Z0 b).getD zs[x] [])) (by rw[RO,zw,Int.toNat_natCast];exact hg2) ?_|refine ud.mk (Ye 32 rfl rfl rfl (Nat.le_of_eq pI.symm) (by omega)) ?_|refine AU ?_|refine IW ?_ ?_<;>intro h<;>try omega)<;>conv=>whnf
    have hap:List.take x (((uG (Z0 a) (Z0 b) zs).take x).map JM)++List.take 1 (List.drop 0 [[SV.str (Z0 a)[x],SV.str ((Z0 b).getD zs[x] [])]])=((uG (Z0 a) (Z0 b) zs).take (x+1)).map JM:=by rw[zo (by omega),GF,yo];rfl
    rw[hap];refine⟨x+1,by omega,by omega,?_⟩;conv=>whnf
    exact vY.kA h0 [2,3,4,5,6,7,8,9,10,11,12,13,14,15,16,17,20]
   .have mm:x=(Z0 a).length:=by simp at h2;omega
    subst mm;rw[zo (by omega)];conv=>whnf
    repeat'(first|refine AU ?_|refine IW ?_ ?_<;>intro h<;>try omega)<;>conv=>whnf
    refine nO.inline (g:=60) (fn:=f60) Z3 call60 func60 rfl 17 rfl 5 2 ?_;intro η1 h1;conv=>whnf
    repeat'(first|refine AU ?_|refine IW ?_ ?_<;>intro h<;>try omega)<;>conv=>whnf
    exact u9.aA h0 [18] (.uI [.sl (.loc 2) 0 2 (Z0 a).length none, .int .i64 0]) [(2, .rows 2 ((uG (Z0 a) (Z0 b) zs).map JM))] ⟨_,0, .inr (.inr ⟨kY,AK,C,_,F9,hfr.symm⟩),by rw[jB],rfl,rfl⟩
  |none k=>
   obtain⟨rfl,rfl⟩:=hq;conv=>whnf
   repeat'(first|refine AU ?_|refine IW ?_ ?_<;>intro h<;>try omega)<;>conv=>whnf
   refine nO.inline (g:=60) (fn:=f60) Z3 call60 func60 rfl 17 rfl 5 2 ?_;intro η1 h1;conv=>whnf
   repeat'(first|refine AU ?_|refine IW ?_ ?_<;>intro h<;>try omega)<;>conv=>whnf
   refine u9.bz 2 ?_;exact u9.aA h0 [18] (.uI [.sl (.loc 2) 0 2 0 none, .int .i64 140]) [(2, .rows 2 [])] ⟨[],140, .inr (.inr ⟨kY,AK,C,_,F9,hfr.symm⟩),rfl,rfl,rfl⟩
  |over=>exact hq.elim
 .rintro r O nx ⟨rfl,rfl,rfl,hov⟩;rw[hov]at hfr;refine⟨⟨rfl,rfl,rfl,rfl,trivial⟩,?_⟩;refine nP.inline (g:=60) (fn:=f60) Z3 call60 func60 rfl 17 rfl 5 2 ?_;intro η1 h1;conv=>whnf
  repeat'(first|refine AU ?_|refine IW ?_ ?_<;>intro h<;>try omega)<;>conv=>whnf
  refine u9.bz 2 ?_;exact u9.aA h0 [18] (.uI [.sl (.loc 2) 0 2 0 none, .int .i64 4]) [(2, .rows 2 [])] ⟨[],4, .inr (.inr ⟨kY,AK,C,_,F9,hfr.symm⟩),rfl,rfl,rfl⟩
end Go.Proofs.YtlcbipfmodcedaaGreatDoor
