/- Part 22: IsoFind, Works. Conditions: as each part says. -/
import Derived.Test.YtbfbokdccdagkaaGreatDoorUnm19
import Derived.Test.YtbfbokdccdagkaaGreatDoorUnm21
set_option linter.unusedVariables false
set_option linter.unusedSimpArgs false
set_option maxRecDepth 20000
set_option maxHeartbeats 8000000
namespace Go.Proofs.YtbfbokdccdagkaaGreatDoor
open Go.Sx Go.Our
open Tryz
def Z0j:Plan:=(ZU [(0,1),(1,1),(2,1),(3,1),(4,1),(5,1),(6,1),(7,1),(8,1),(9,1),(10,1),(11,2),(12,1),(13,1),(14,1),(15,1),(16,1),(17,3),(18,1),(19,1),(20,1),(21,1),(22,1),(23,1),(27,1),(28,1),(29,1),(24,2),(25,1),(26,2),(30,2),(31,1),(32,2),(33,3),(34,1),(35,1)])
def Z9C:Plan:=(ZU [(0,1),(1,1),(2,1),(3,2),(4,2),(5,3),(6,0)])
def Z9D:Plan:=(ZU [(1,1),(2,1),(3,1),(5,1),(8,1),(9,1),(10,1),(12,1),(13,1),(14,1),(0,2),(4,2),(6,1),(7,2),(11,2),(15,1),(16,2),(17,1),(18,3),(19,0),(20,0)])
def FdQ(a b:List Qd)(budget:Int)(r:SV)(O:Hps)(nx:Nat):Prop:=∃ps e,FindIs a b budget ps e/\r= .tup [.sl (.loc 2) 0 2 ps.length none, .int .i64 e]/\O=[(2, .rows 2 (ps.map XC))]/\nx=3
theorem ZdP{a b:List Qd}{F:List Int}{budget:Int}(h:¬Z7s F (Z0 a).length):Z7t a b F budget=([],140):=if_neg h
theorem ZgS(n:Nat):List.replicate (n:Int).toNat [SV.int .i64 0]=(tkM n []).map Zo:=by
 unfold tkM;rw[Int.toNat_natCast];apply List.ext_getElem (by simp);intro i h1 h2;simp[Zo]
theorem ZgT(n:Nat):List.replicate n (-1)=psM n []:=by simp[psM]
theorem Zfv(i:Nat):List.take i ((List.replicate i (-1)).map Zo)++List.take 1 (List.drop 0 [[XX (Value.int IntKind.i64 (-1))]])=(List.replicate (i+1) (-1)).map Zo:=by
 rw[List.take_of_length_le (by simp),List.replicate_succ',List.map_append];rfl
theorem Z7w{m:List Qd}(h:Rise ZH m):m.Nodup:=List.Pairwise.imp (fun hab e=>by subst e;have:=triQ.self (c:=ZH) ‹Qd›;omega) h
theorem Z9E{l:List Qd}{q:Qd}(h:q∉l):setM KQ.ks (KQ.enc q) (intV 1) (WJ l)=WJ (l++ [q]):=by
 unfold WJ;rw[ZaH,Wv]
 ·rw[List.map_append];rfl
 ·cases hx:ixA q (l.map fun q=>(q,(1:Int)))with
  |none=>rfl
  |some p=>
   obtain⟨i,v⟩:=p;obtain⟨r,hr,e⟩:=List.mem_map.1 (List.mem_of_getElem? (Z70 hx));injection e with e1 _;exact(h (e1▸hr)).elim
theorem Zcd{l:List Qd}{q:Qd}(h:q∉l):setM (true,[.int .i64, .str, .str, .str, .int .i64, .str, .str, .str, .int .i64, .str, .str, .str, .int .i64, .str, .str, .str]) (flKey (.agg [.int .i64 q.s.k, .str q.s.t, .str q.s.y, .str q.s.l, .int .i64 q.p.k, .str q.p.t, .str q.p.y, .str q.p.l, .int .i64 q.o.k, .str q.o.t, .str q.o.y, .str q.o.l, .int .i64 q.g.k, .str q.g.t, .str q.g.y, .str q.g.l])) (XX (.int .i64 1)) (WJ l)=WJ (l++ [q]):=Z9E h
theorem ZdQ{l:List Qd}(h:l.Nodup){j:Nat}(hj:j<l.length):l[j]∉l.take j:=by
 intro hm;obtain⟨i,hi,e⟩:=List.mem_iff_getElem.1 hm;rw[List.length_take]at hi;rw[List.getElem_take]at e;have h1:=h.idxOf_getElem i (by omega);rw[e,h.idxOf_getElem j hj]at h1;omega
theorem Zfw{a b:List Qd}(dA:DsOK a):∀x,x< (Z0 a).length->∀h:x< (ins2 a b).length,(ins2 a b)[x].length<=67108864/\∀s∈(ins2 a b)[x],∀n∈nsM s,-1<=n/\n< ((Z0 a).length:Int):=by
 intro x hx h;have e:=Z4Y (a:=a) (b:=b) hx;rw[List.getD_eq_getElem?_getD,List.getElem?_eq_getElem h,Option.getD_some]at e;rw[e];have hf:=dA.few;refine⟨by rw[List.length_map];exact Nat.le_trans (List.length_filter_le _ _) (by omega),fun s hs n hn=>?_⟩;obtain⟨q,hq,rfl⟩:=List.mem_map.1 hs;have hq:=(List.mem_filter.1 hq).1;have k:∀t∈Zw q,-1<=numM (ixF 0 (Z0 a)) t/\numM (ixF 0 (Z0 a)) t< ((Z0 a).length:Int):=fun t ht=>by have:=Zet (c:=0) (by omega) hq ht;omega
 unfold nsM sdM at hn;simp only[List.mem_cons,List.not_mem_nil,or_false]at hn;rcases hn with rfl|rfl|rfl|rfl
 ·exact k _ (by simp[Zw])
 ·exact k _ (by simp[Zw])
 ·exact k _ (by simp[Zw])
 ·exact k _ (by simp[Zw])
theorem Z2N(a za b zb:List Qd)(limA limB:Option Nat)(budget:Int)(ha:a.length<=1152921504606846976)(hb:b.length<=1152921504606846976)(qa:W2 a)(qb:W2 b)(hza:(a++za).length<=1152921504606846976)(hzb:(b++zb).length<=1152921504606846976):
 Does prog tab 23 2 [.sl (.loc 0) 0 16 a.length limA, .sl (.loc 1) 0 16 b.length limB, .int .i64 budget] [] [(0, .rows 16 ((a++za).map Zl)),(1, .rows 16 ((b++zb).map Zl))] (FdQ a b budget):=by
 have hv:=VA a za b zb limA limB ha hb qa qb;refine Does.enterD Z1 call23 func23 rfl 139 rfl rfl [.cell 6 31, .cell 7 32] rfl ([(1000000000, .dfs [.fn (.func 54) [] [.ptr (.loc 2) 0 0 0, .ptr (.loc 3) 0 0 0]]),(6, .ptr (.loc 2) 0 0 0),(7, .ptr (.loc 3) 0 0 0)]) 54 ([.ptr (.loc 2) 0 0 0, .ptr (.loc 3) 0 0 0]) rfl ?_;intro w0 F η0 h0;conv=>whnf
 repeat'((first|refine AU ?_|(refine IW ?_ ?_<;>intro h<;>try(exfalso;omega)))<;>conv=>whnf)
 refine CALLE.calm ?_;refine CALL.aA [0,1] (hv) ?_;rintro r O nx ⟨rfl,rfl,rfl⟩;conv=>whnf
 repeat'((first|refine AU ?_|(refine IW ?_ ?_<;>intro h<;>try(exfalso;omega)))<;>conv=>whnf)
 ·refine FIN.nilT 2 ?_;exact FIN.aA h0 [4] (.tup [.sl (.loc 2) 0 2 0 none, .int .i64 (X6 a b)]) [(2, .rows 2 [])] ⟨[],_, .inl ⟨h,rfl,rfl⟩,rfl,rfl,rfl⟩
 have hv0:X6 a b=0:=by simpa using h
 obtain⟨dA,dB⟩:=U2 hv0;have hlk:=Z9A a za b zb limA limB dA dB hza hzb;have hW:=wok2 dA dB;have hbl:=Yd a za limA (by unfold Xf;have:=dA.few;omega) hza;have hA:=Ja dA;have hB:=Ja dB;have hst:=Z2F (List.replicate ((Z0 a).length+(Z0 b).length) 0) (ins2 a b) (Z0 a++Z0 b).length 2 (ct0 ((Z0 a).length+(Z0 b).length)) hW (by unfold ct0;split<;>omega);refine CALLE.calm ?_;refine CALL.aA [4,0,1] (hlk) ?_;rintro r O nx ⟨rfl,rfl,rfl⟩;conv=>whnf
 repeat'((first|refine AU ?_|(refine IW ?_ ?_<;>intro h<;>try(exfalso;omega)))<;>conv=>whnf)
 refine CALLE.calm ?_;refine CALL.aA [5,6,7,8,9] (hst) ?_;rintro r O nx ⟨rfl,C,c,hSt,rfl,rfl⟩;obtain⟨hWF,hFl,hFr,hc0,hc1⟩:=hSt.ok hW;rw[List.length_replicate]at hFl hc1⊢;have hcn:c=((c.toNat:Nat):Int):=by omega
 generalize c.toNat=n at hcn⊢;subst hcn;conv=>whnf
 repeat'((first|refine AU ?_|(refine IW ?_ ?_<;>intro h<;>try(exfalso;omega)))<;>conv=>whnf)
 refine CALLE.calm ?_;refine CALL.aA [0] (hbl) ?_;rintro r O nx ⟨jj,hjj,rfl,rfl,rfl⟩;conv=>whnf
 repeat'((first|refine AU ?_|(refine IW ?_ ?_<;>intro h<;>try(exfalso;omega)))<;>conv=>whnf)
 simp only[renR,renDp];rw[show setL cmpL (ZD a)=Z0 a from rfl]at hjj⊢;refine GHO.drawn (GHO.take 9 0 0 rfl rfl rfl) (GHO.drawn (GHO.take 9 1 0 rfl rfl rfl) ?_);rw[List.length_map,List.length_map];have hwm:IntKind.i64.wrap (2*((Z0 a).length:Int))=((2*(Z0 a).length:Nat):Int):=by rw[Z6 (by omega) (by omega)];omega
 repeat'((first|(show DRAWN _ _ _ _ _ _ _;first|refine DRAWN.of (id:=7) Z1 mixed Z0j (by kernel_rfl) ?_)|refine ADD.mk (fun _ _=>?_)|refine AD ?_|refine FORK.mk ?_ ?_|(refine GET.at rfl ?_;conv=>whnf)|refine AU ?_|(refine IW ?_ ?_<;>intro h<;>try(exfalso;omega)))<;>conv=>whnf)
 ·refine FIN.nilT 2 ?_;exact FIN.aA h0 [14] (.tup [.sl (.loc 2) 0 2 0 none, .int .i64 140]) [(2, .rows 2 [])] ⟨[],140, .inr (.inl ⟨hv0,fun x=>h (by have:=x.1;omega),rfl,rfl⟩),rfl,rfl,rfl⟩
 ·refine FIN.nilT 2 ?_;exact FIN.aA h0 [14] (.tup [.sl (.loc 2) 0 2 0 none, .int .i64 140]) [(2, .rows 2 [])] ⟨[],140, .inr (.inl ⟨hv0,fun x=>h (by have:=x.2.1;omega),rfl,rfl⟩),rfl,rfl,rfl⟩
 have hAB:(Z0 b).length=(Z0 a).length:=by omega
 have hev:=Zc9 C (Z0 a).length (Z0 a++Z0 b).length (ins2 a b).length 2 n (by omega) hFr (by omega) (by omega);rw[hFl]at hev;refine CALL.aA [5,6,10,8,9] (hev) ?_;rintro r O nx ⟨rfl,rfl,e,rfl,hev2⟩;conv=>whnf
 repeat'((first|(show DRAWN _ _ _ _ _ _ _;first|refine DRAWN.of (id:=7) Z1 mixed Z0j (by kernel_rfl) ?_)|refine ADD.mk (fun _ _=>?_)|refine AD ?_|refine FORK.mk ?_ ?_|(refine GET.at rfl ?_;conv=>whnf)|refine AU ?_|(refine IW ?_ ?_<;>intro h<;>try(exfalso;omega)))<;>conv=>whnf)
 ·have hne:¬Z7s C (Z0 a).length:=fun x=>by rw[hev2.2 x]at h;cases h
  by_cases hgg:gndM a=gndM b
  ·refine FIN.nilT 2 ?_;exact FIN.aA h0 [14] (.tup [.sl (.loc 2) 0 2 0 none, .int .i64 140]) [(2, .rows 2 [])] ⟨[],140, .inr (.inr ⟨hv0,⟨by omega,by omega,hgg⟩,C,_,hSt,(ZdP hne).symm⟩),rfl,rfl,rfl⟩
  ·refine FIN.nilT 2 ?_;exact FIN.aA h0 [14] (.tup [.sl (.loc 2) 0 2 0 none, .int .i64 140]) [(2, .rows 2 [])] ⟨[],140, .inr (.inl ⟨hv0,fun x=>hgg x.2.2,rfl,rfl⟩),rfl,rfl,rfl⟩
 have hga:(gndM a).length<=1048576:=Nat.le_trans (List.length_filter_le _ _) dA.few;have hgb:(gndM b).length<=1048576:=Nat.le_trans (List.length_filter_le _ _) dB.few;have heq:=Z2L (gndM a) (gndM b) [] [] none none (by rw[List.append_nil];omega) (by rw[List.append_nil];omega);rw[List.append_nil,List.append_nil]at heq;refine CALL.aA [12,13] (heq) ?_;rintro r O nx ⟨rfl,rfl,rfl⟩;conv=>whnf
 repeat'((first|(show DRAWN _ _ _ _ _ _ _;first|refine DRAWN.of (id:=7) Z1 mixed Z0j (by kernel_rfl) ?_)|refine ADD.mk (fun _ _=>?_)|refine AD ?_|refine FORK.mk ?_ ?_|(refine NEED.mk (Z0h 8 rfl (by omega) (by omega) (by omega) (by omega)) ?_;conv=>whnf)|refine AU ?_|(refine IW ?_ ?_<;>intro h<;>try(exfalso;omega)))<;>conv=>whnf)
 ·refine FIN.nilT 2 ?_;exact FIN.aA h0 [14] (.tup [.sl (.loc 2) 0 2 0 none, .int .i64 140]) [(2, .rows 2 [])] ⟨[],140, .inr (.inl ⟨hv0,fun x=>by simp[x.2.2]at h,rfl,rfl⟩),rfl,rfl,rfl⟩
 have hlf:(if 0<if 65536<budget then 65536 else budget then if 65536<budget then 65536 else budget else 0)=((leftM budget:Nat):Int):=by unfold leftM;omega
 rw[hlf,show List.replicate ((Z0 a).length:Int).toNat [SV.int .i64 0]=(tkM (Z0 a).length []).map Zo from ZgS _];refine LOOP.nilCell 16 3 1 rfl rfl ?_
 refine LOOP.gok Z1 [1,6,7,9,10,11,77] [2,3,6,8,10,14,15] (X:=Nat) (fun i=>i<=(Z0 a).length) (fun i=>[(78, .int .i64 (i:Int))])
  (fun i=>[(5, .box [.sl (.loc 6) 0 1 (Z0 a++Z0 b).length none, .sl (.loc 10) 0 1 ((Z0 a).length+(Z0 b).length) none, .sl (.loc 8) 0 1 (ins2 a b).length none, .sl (.loc 9) 0 1 2 none, .int .i64 n]),(16, .box [.ptr (.loc 5) 0 0 0, .int .i64 (Z0 a).length, .mp (.loc 14), .sl (.loc 17) 0 1 i none, .sl (.loc 15) 0 1 (Z0 a).length none, .int .i64 (leftM budget)]),(17, .rows 1 ((List.replicate i (-1)).map Zo))]) 18 (fun i=>(Z0 a).length-i) 0 (by omega) ?_
 conv=>whnf
 refine⟨by exact GOES.cA h0,?_⟩;intro i hi;conv=>whnf
 refine IF.mk (fun h1=>?_) (fun h1=>?_)
 ·have hlt:i< (Z0 a).length:=by simp at h1;omega
  conv=>whnf
  repeat'((first|(refine NEED.mk (Yc 8 rfl rfl rfl (by simp) (by omega)) ?_;conv=>whnf)|refine AU ?_|(refine IW ?_ ?_<;>intro h<;>try(exfalso;omega)))<;>conv=>whnf)
  rw[Zfv];refine⟨i+1,by omega,by omega,?_⟩;conv=>whnf
  exact GOES.kA h0 [2,3,4,5,6,7,8,9,10,11,12,13,14,15,16,19]
 have hie:i=(Z0 a).length:=by simp at h1;omega
 subst hie;clear h1 hi;rw[ZgT];have hbn:b.Nodup:=Z7w dB.rise;conv=>whnf
 repeat'((first|refine AU ?_|(refine IW ?_ ?_<;>intro h<;>try(exfalso;omega)))<;>conv=>whnf)
 refine LOOP.gok Z1 [6,7,9,10,11,90,91] [2,3,5,6,8,10,15,16,17] (X:=Nat) (fun j=>j<=b.length) (fun j=>[(92, .int .i64 (j:Int))]) (fun j=>[(14, .mp (WJ (b.take j)))]) 18 (fun j=>b.length-j) 0 (by omega) ?_;conv=>whnf
 refine⟨by exact GOES.cA h0,?_⟩;intro j hj;conv=>whnf
 refine IF.mk (fun h1=>?_) (fun h1=>?_)
 ·have hlt:j<b.length:=by simp at h1;omega
  conv=>whnf
  repeat'((first|refine CALL.value (Z6d b[j]) rfl rfl ?_|(show DRAWN _ _ _ _ _ _ _;first|refine DRAWN.of (id:=17) Z1 mixed Z9C (by kernel_rfl) ?_)|refine ADD.mk (fun _ _=>?_)|refine AD ?_|refine FORK.mk ?_ ?_|(refine GET.at (row:=Zl b[j]) (Zdx hlt (by omega)) ?_;conv=>whnf)|(refine NEED.mk ⟨KQ.ok b[j],YK KQ intV _⟩ ?_;conv=>whnf)|refine AU ?_|(refine IW ?_ ?_<;>intro h<;>try(exfalso;omega)))<;>conv=>whnf)
  rw[Zcd (ZdQ hbn hlt),<-List.take_succ_eq_append_getElem hlt];refine⟨j+1,by omega,by omega,?_⟩;conv=>whnf
  exact GOES.cA h0
 have hje:j=b.length:=by simp at h1;omega
 subst hje;clear h1 hj;rw[List.take_length];conv=>whnf
 repeat'((first|refine AU ?_|(refine IW ?_ ?_<;>intro h<;>try(exfalso;omega)))<;>conv=>whnf)
 have hrest:=Z6p (Z0 a++Z0 b) (Z0 a).length C b (ins2 a b) 2 n (by rw[List.length_append];omega) (by omega) (by rw[VC];omega) (by rw[List.length_append];omega) (Zfw dA) (Z0 a).length [] (leftM budget) (by simp) (by unfold leftM;omega) ⟨by simp,by simp,by simp⟩;have hinv:=Z4X (fits:=fitM (Z0 a++Z0 b) (Z0 a).length b (ins2 a b)) (Z0 a).length [] (leftM budget) (n:=(Z0 a).length) (ok:=okM C (Z0 a).length) ⟨by simp,by simp,by simp⟩;have hfr:Z7t a b C budget=_:=if_pos (hev2.1 ‹e=true›);have hSO:Z3U a b:=⟨by omega,by omega,h⟩;rw[hFl]at hrest;generalize Xi (Z0 a).length (okM C (Z0 a).length) (fitM (Z0 a++Z0 b) (Z0 a).length b (ins2 a b)) (Z0 a).length [] (leftM budget)=Z at hrest hinv hfr;refine CALLE.aA [16,5,14,17,15,6,10,8,9] (hrest) ?_ ?_
 ·rintro r O nx ⟨rfl,hq⟩;cases Z with
  |found zs k=>
   obtain⟨rfl,rfl⟩:=hq;obtain⟨hP,hzl⟩:=(hinv.1 zs k rfl).1;have hzl:zs.length=(Z0 a).length:=by simpa using hzl
   have hpl:(prsM (Z0 a) (Z0 b) zs).length=(Z0 a).length:=by rw[Zft (by omega)];omega
   have hll:(Z0 a++Z0 b).length=(Z0 a).length+(Z0 b).length:=List.length_append;conv=>whnf
   repeat'((first|refine AU ?_|(refine IW ?_ ?_<;>intro h<;>try(exfalso;omega)))<;>conv=>whnf)
   simp only[renR,renDp];refine LOOP.nilCell 2 0 2 rfl rfl ?_;refine LOOP.gok Z1 [6,7,9,10,110,111] [3,5,6,17] (X:=Nat) (fun x=>x<=(Z0 a).length) (fun x=>[(112, .int .i64 (x:Int))]) (fun x=>[(2, .box [.sl (.loc 18) 0 2 x none]),(18, .rows 2 (((prsM (Z0 a) (Z0 b) zs).take x).map XC))]) 19 (fun x=>(Z0 a).length-x) 0 (by omega) ?_;conv=>whnf
   refine⟨by exact GOES.cA h0,?_⟩;intro x hx;have htl:(((prsM (Z0 a) (Z0 b) zs).take x).map XC).length=x:=by rw[List.length_map,List.length_take];omega
   conv=>whnf
   refine IF.mk (fun h2=>?_) (fun h2=>?_)
   ·have hlt:x< (Z0 a).length:=by simp at h2;omega
    have hzx:x<zs.length:=by omega
    have hzb:=hP.lt _ (List.getElem_mem hzx);have hgz:((psM (Z0 a).length zs).map Zo)[x]?=some (Zo (zs[x]:Int)):=by unfold psM;rw[List.getElem?_map,List.getElem?_append_left (by simpa using hzx),List.getElem?_map,List.getElem?_eq_getElem hzx];rfl
    have hg1:((Z0 a++Z0 b).map Z3)[x]?=some (Z3 (Z0 a)[x]):=by rw[List.getElem?_map,List.getElem?_append_left hlt,List.getElem?_eq_getElem hlt];rfl
    have hg2:((Z0 a++Z0 b).map Z3)[(Z0 a).length+zs[x]]?=some (Z3 ((Z0 b).getD zs[x] [])):=by rw[List.getElem?_map,List.getElem?_append_right (by omega),Nat.add_sub_cancel_left,List.getD_eq_getElem?_getD,List.getElem?_eq_getElem (by omega)];rfl
    have hwz:IntKind.i64.wrap (((Z0 a).length:Int)+(zs[x]:Int))=(((Z0 a).length+zs[x]:Nat):Int):=by rw[Z6 (by omega) (by omega)];omega
    have htk:(prsM (Z0 a) (Z0 b) zs).take (x+1)=(prsM (Z0 a) (Z0 b) zs).take x++ [((Z0 a)[x],(Z0 b).getD zs[x] [])]:=by rw[List.take_succ_eq_append_getElem (by omega)];congr 2;unfold prsM;rw[List.getElem_zipWith]
    conv=>whnf
    repeat'((first|(show DRAWN _ _ _ _ _ _ _;first|refine DRAWN.of (id:=25) Z1 mixed Z9D (by kernel_rfl) ?_)|refine ADD.mk (fun _ _=>?_)|refine AD ?_|refine FORK.mk ?_ ?_|(refine GET.at (row:=Zo (zs[x]:Int)) (by rw[Int.toNat_natCast,Nat.zero_add];exact hgz) ?_;conv=>whnf)|(refine GET.at (row:=Z3 (Z0 a)[x]) (by rw[Nat.zero_add,Int.toNat_natCast];exact hg1) ?_;conv=>whnf)|(refine GET.at (row:=Z3 ((Z0 b).getD zs[x] [])) (by rw[hwz,Nat.zero_add,Int.toNat_natCast];exact hg2) ?_;conv=>whnf)|(refine NEED.mk (Yc 32 rfl rfl rfl (Nat.le_of_eq htl.symm) (by omega)) ?_;conv=>whnf)|refine AU ?_|(refine IW ?_ ?_<;>intro h<;>try(exfalso;omega)))<;>conv=>whnf)
    have hap:List.take x (((prsM (Z0 a) (Z0 b) zs).take x).map XC)++List.take 1 (List.drop 0 [[SV.str (Z0 a)[x],SV.str ((Z0 b).getD zs[x] [])]])=((prsM (Z0 a) (Z0 b) zs).take (x+1)).map XC:=by rw[List.take_of_length_le (by omega),htk,List.map_append];rfl
    rw[hap];refine⟨x+1,by omega,by omega,?_⟩;conv=>whnf
    exact GOES.kA h0 [2,3,4,5,6,7,8,9,10,11,12,13,14,15,16,17,20]
   ·have hxe:x=(Z0 a).length:=by simp at h2;omega
    subst hxe;rw[List.take_of_length_le (by omega)];conv=>whnf
    repeat'((first|refine AU ?_|(refine IW ?_ ?_<;>intro h<;>try(exfalso;omega)))<;>conv=>whnf)
    refine OFFN.inline (g:=54) (fn:=f54) Z1 call54 func54 rfl 17 rfl 5 2 ?_;intro η1 h1;conv=>whnf
    repeat'((first|refine AU ?_|(refine IW ?_ ?_<;>intro h<;>try(exfalso;omega)))<;>conv=>whnf)
    exact FIN.aA h0 [18] (.tup [.sl (.loc 2) 0 2 (Z0 a).length none, .int .i64 0]) [(2, .rows 2 ((prsM (Z0 a) (Z0 b) zs).map XC))] ⟨_,0, .inr (.inr ⟨hv0,hSO,C,_,hSt,hfr.symm⟩),by rw[hpl],rfl,rfl⟩
  |none k=>
   obtain⟨rfl,rfl⟩:=hq;conv=>whnf
   repeat'((first|refine AU ?_|(refine IW ?_ ?_<;>intro h<;>try(exfalso;omega)))<;>conv=>whnf)
   refine OFFN.inline (g:=54) (fn:=f54) Z1 call54 func54 rfl 17 rfl 5 2 ?_;intro η1 h1;conv=>whnf
   repeat'((first|refine AU ?_|(refine IW ?_ ?_<;>intro h<;>try(exfalso;omega)))<;>conv=>whnf)
   refine FIN.nilT 2 ?_;exact FIN.aA h0 [18] (.tup [.sl (.loc 2) 0 2 0 none, .int .i64 140]) [(2, .rows 2 [])] ⟨[],140, .inr (.inr ⟨hv0,hSO,C,_,hSt,hfr.symm⟩),rfl,rfl,rfl⟩
  |over=>exact hq.elim
 ·rintro r O nx ⟨rfl,rfl,rfl,hov⟩;rw[hov]at hfr;refine⟨⟨rfl,rfl,rfl,rfl,trivial⟩,?_⟩;refine OFFP.inline (g:=54) (fn:=f54) Z1 call54 func54 rfl 17 rfl 5 2 ?_;intro η1 h1;conv=>whnf
  repeat'((first|refine AU ?_|(refine IW ?_ ?_<;>intro h<;>try(exfalso;omega)))<;>conv=>whnf)
  refine FIN.nilT 2 ?_;exact FIN.aA h0 [18] (.tup [.sl (.loc 2) 0 2 0 none, .int .i64 4]) [(2, .rows 2 [])] ⟨[],4, .inr (.inr ⟨hv0,hSO,C,_,hSt,hfr.symm⟩),rfl,rfl,rfl⟩
end Go.Proofs.YtbfbokdccdagkaaGreatDoor
namespace Go.Proofs.YtbfbokdccdagkaaGreatDoor
open Go.Sx Go.Our
open Tryz
theorem U3(f t:LB):Does prog tab 59 0 [.str f, .str t] [] [] (Val (.agg (Zl (eQ f t)))):=by
 refine Does.enter Z1 call59 func59 rfl 11 rfl rfl [.cell 4 67] rfl ?_;intro w0 F η0 h0;conv=>whnf
 repeat'((first|refine AU ?_|(refine IW ?_ ?_<;>intro h<;>try(exfalso;omega)))<;>conv=>whnf)
 exact FIN.value h0 rfl rfl
theorem U4(n:Int):Does prog tab 19 0 [.int .i64 n] [] [] (Val (.int .i64 n)):=by
 refine Does.enter Z1 call19 func19 rfl 4 rfl rfl [.tmp 2] rfl ?_;intro w0 F η0 h0;conv=>whnf
 repeat'((first|refine AU ?_|(refine IW ?_ ?_<;>intro h<;>try(exfalso;omega)))<;>conv=>whnf)
 exact FIN.value h0 rfl rfl
theorem Z9F:Does prog tab 27 0 [] [] [] (ValK 0 (.bool true)):=by
 have sm:∀{l:List Qd},(l.all fun q=>decide (QdSm q))=true->W2 l:=fun h q hq=>by rw[List.all_eq_true]at h;simpa using h q hq
 have hA:=Z2N wA [] wX [] none none 2 (by decide) (by decide) (sm (by decide+kernel)) (sm (by decide+kernel)) (by decide) (by decide);have hB:=Z2N wA [] wX [] none none 1 (by decide) (by decide) (sm (by decide+kernel)) (sm (by decide+kernel)) (by decide) (by decide);have hL:=Z2N wL [] wY [] none none 9 (by decide) (by decide) (sm (by decide+kernel)) (sm (by decide+kernel)) (by decide) (by decide);have tmw:∀{k:Int} {t:LB},I64 k->t.length<=2->TmOK 1048576 ⟨k,t,[],[]⟩:=fun hk ht=>⟨by simp;omega,hk⟩
 have hC:=Z6m wC [] none ⟨by decide,fun q hq=>by
  simp only[List.mem_cons,List.not_mem_nil,or_false]at hq
  rcases hq with rfl|rfl<;>exact⟨tmw (by unfold I64;omega) (by decide),tmw (by unfold I64;omega) (by decide),tmw (by unfold I64;omega) (by decide),tmw (by unfold I64;omega) (by decide)⟩⟩
 rw[ZgV]at hC;refine Does.enter Z1 call27 func27 rfl 75 rfl rfl [.tmp 0] rfl ?_;intro w0 F η0 h0;conv=>whnf
 repeat'((first|refine CALL.value (U3 _ _) rfl rfl ?_|refine AU ?_|(refine IW ?_ ?_<;>intro h<;>try(exfalso;omega)))<;>conv=>whnf)
 refine CALL.aA [0,1] (hA) ?_;rintro r O nx ⟨ps,e,hI,rfl,rfl,rfl⟩;obtain⟨rfl,rfl⟩:=w_F2.det hI;conv=>whnf
 repeat'((first|refine CALL.value (U3 _ _) rfl rfl ?_|refine AU ?_|(refine IW ?_ ?_<;>intro h<;>try(exfalso;omega)))<;>conv=>whnf)
 refine CALL.aA [3,4] (hB) ?_;rintro r O nx ⟨ps,e,hI2,rfl,rfl,rfl⟩;obtain⟨rfl,rfl⟩:=w_F1.det hI2;conv=>whnf
 repeat'((first|refine CALL.value (U3 _ _) rfl rfl ?_|refine AU ?_|(refine IW ?_ ?_<;>intro h<;>try(exfalso;omega)))<;>conv=>whnf)
 refine CALL.aA [6,7] hL ?_ (hS:=by(conv=>whnf);exact⟨rfl,rfl,trivial⟩);rintro r O nx ⟨ps,e,hI3,rfl,rfl,rfl⟩;obtain⟨rfl,rfl⟩:=w_F9.det hI3;conv=>whnf
 repeat'((first|refine CALL.value (U3 _ _) rfl rfl ?_|refine AU ?_|(refine IW ?_ ?_<;>intro h<;>try(exfalso;omega)))<;>conv=>whnf)
 refine CALL.aA [9] hC ?_ (hS:=by(conv=>whnf);exact⟨rfl,trivial⟩);rintro r O nx ⟨F,c,hS,rfl,rfl,rfl⟩;obtain⟨rfl,rfl⟩:=w_sC.det hS;conv=>whnf
 repeat'((first|refine CALL.value (U3 _ _) rfl rfl ?_|refine CALL.value (U4 _) rfl rfl ?_|refine AU ?_|(refine IW ?_ ?_<;>intro h<;>try(exfalso;omega)))<;>conv=>whnf)
 all_goals first|exact FIN.valueK h0 rfl rfl|exact absurd trivial ‹_›
end Go.Proofs.YtbfbokdccdagkaaGreatDoor
