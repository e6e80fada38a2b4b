/- Part 48: Can12. Conditions: as each part says. -/
import Derived.Test.YtlcbipfmodcedaaGreatDoorFrm35
import Derived.Test.YtlcbipfmodcedaaGreatDoorFrm47
set_option linter.unusedVariables false
set_option linter.unusedSimpArgs false
set_option maxRecDepth 20000
set_option maxHeartbeats 8000000
namespace Go.Proofs.YtlcbipfmodcedaaGreatDoor
open Go.Sx Go.Our Go.Lib
open _root_.Go.Proofs.Tryz
def ZgP:uu:=(.take 1 2 (.take 2 2 (.take 3 1 (.take 4 1 (.take 5 2 (.take 6 1 (.fork 0 3 7 3 (Zs [(7,3),(8,0),(9,0)]) (.fork 0 3 8 0 (Zs [(8,0),(9,0)]) (Zs [(0,2),(9,0)])))))))))
theorem Zab(B:Nat):vS prog uf 35 2 [.ptr (.loc 0) 0 0 0, .int .i64 (B:Int), .ptr (.loc 1) 0 0 0] [] []
 (fun r O nx=>r= .fn (.func 70) [] [.ptr (.loc 4) 0 0 0, .ptr (.loc 3) 0 0 0, .ptr (.loc 2) 0 0 0]/\O=[(2, .box [.ptr (.loc 0) 0 0 0]),(3, .box [.int .i64 (B:Int)]),(4, .box [.ptr (.loc 1) 0 0 0])]/\nx=5):=by
 refine vS.enter Z0 call35 func35 rfl 8 rfl rfl [.tmp 6] rfl ?_;intro w0 F η0 h0;conv=>whnf
 skip
 exact u0.aA h0 [2,3,4] (.fn (.func 70) [] [.ptr (.loc 4) 0 0 0, .ptr (.loc 3) 0 0 0, .ptr (.loc 2) 0 0 0]) [(2, .box [.ptr (.loc 0) 0 0 0]),(3, .box [.int .i64 (B:Int)]),(4, .box [.ptr (.loc 1) 0 0 0])] ⟨rfl,rfl,rfl⟩
def jU(b:Int):Nat:=(min (max b 0) 65536).toNat
theorem Sk(b:Int):jU b<=65536:=by unfold jU;omega
theorem Zkp(b:Int):(if 65536< (if b<0 then 0 else b)then 65536 else(if b<0 then 0 else b))=((jU b:Nat):Int):=by
 unfold jU;by_cases h1:b<0
 rw[zf h1,z7 (by omega)];omega
 .rw[z7 h1];by_cases h2:65536<b
  rw[zf h2];omega;rw[z7 h2];omega
theorem Zj0{A:List LB}{c:List Int}(ki:c.length=A.length){i:Nat}(hil:i<A.length)(hit:itoa (c[i]'(by omega))=decDigits (c[i]'(by omega)).toNat):
 List.take i (((wC A c).take i).map Yu)++List.take 1 (List.drop 0 [[SV.str A[i],SV.str ((ByteArray.mk #[99]).data.toList++itoa (c[i]'(by omega)))]])=((wC A c).take (i+1)).map Yu:=by
 have hp:i< (wC A c).length:=by rw[XD];exact hil
 rw[zH hp,Qg hil hp,yz,zg (by simp;omega),hit];have:c.getD i 0=c[i]'(by omega):=by rw[zl,z1 (by omega)];rfl
 rw[this]
 rfl
def Gv(l:List Qd)(uG:Int):SV->vX->Nat->Prop:=fun r O nx=>
 (kJ l≠0/\r= .uz [.val (.slice none 0 0), .val (.slice none 0 0), .int .i64 (kJ l)]/\O=[]/\nx=1)\/
 (kJ l=0/\jU uG< (JM (ZQ l) l (jU uG)).1/\r= .uz [.val (.slice none 0 0), .val (.slice none 0 0), .int .i64 4]/\O=[]/\nx=1)\/
 (kJ l=0/\(JM (ZQ l) l (jU uG)).1<=jU uG/\∃c,wH (ZQ l) c/\JV (ZA (ZQ l) l) (JM (ZQ l) l (jU uG)).2=some (ZA (ZQ l) l c,c)/\
   r= .uz [.sl (.loc 1) 0 16 l.length none, .sl (.loc 2) 0 2 (ZQ l).length none, .int .i64 0]/\O=[(1, .rows 16 ((ZA (ZQ l) l c).map Z3)),(2, .rows 2 ((wC (ZQ l) c).map Yu))]/\nx=3)
set_option maxHeartbeats 16000000 in
theorem ZcL(l z:List Qd)(lim:Option Nat)(uG:Int)(lE: -9223372036854775808<=uG/\uG<=9223372036854775807)(hl:JS l)(ql:tJ l)(hz:(l++z).length<=1152921504606846976):
 vS prog uf 13 1 [.sl (.loc 0) 0 16 l.length lim, .int .i64 uG] [] [(0, .rows 16 ((l++z).map Z3))] (Gv l uG):=by
 have hf:=Zcu l z lim hl ql hz;have hnd:(ZQ l).Nodup:=XB qA (X6 qA _);have hmem:∀x∈Zz l,x∈ZQ l:=fun x hx=>(JI _ _).2 hx;refine vS.enter Z0 call13 func13 rfl 72 rfl rfl [.tmp 4, .tmp 5, .tmp 6] rfl ?_;intro w0 F η0 h0;conv=>whnf
 skip
 refine CALL.aA [0] (hf) ?_;rintro r O nx (⟨hv,rfl,rfl,rfl⟩|⟨hv,hb,rfl,rfl,rfl⟩|⟨hv,hb,rfl,rfl,jj,hj,rfl⟩)
 .have hE:kJ l=(YL l).2:=by unfold kJ;rw[z7 (by rintro⟨h1,_⟩;exact hv h1)]
  conv=>whnf
  repeat'(first|refine IW ?_ ?_<;>intro h<;>try omega)<;>conv=>whnf
  exact u0.aA h0 [] (.uz [.val (.slice none 0 0), .val (.slice none 0 0), .int .i64 (YL l).2]) [] (.inl ⟨by rw[hE];exact hv,by rw[hE],rfl,rfl⟩)
 .have hE:kJ l=2:=by unfold kJ;rw[zf ⟨hv,hb⟩]
  conv=>whnf
  repeat'(first|refine IW ?_ ?_<;>intro h<;>try omega)<;>conv=>whnf
  exact u0.aA h0 [] (.uz [.val (.slice none 0 0), .val (.slice none 0 0), .int .i64 2]) [] (.inl ⟨by omega,by rw[hE],rfl,rfl⟩)
 have hE:kJ l=0:=by unfold kJ;rw[z7 (by rintro⟨_,h2⟩;omega),hv]
 obtain⟨A,hA⟩:∃A,A=ZQ l:=⟨_,rfl⟩;rw[<-hA]at hnd hb hj hmem⊢;have kz:=(Wy hv).2;have dy:jh A l (List.replicate A.length 0):=⟨by simp,hb,kz,hnd,hmem,fun c hc=>by rw[List.eq_of_mem_replicate hc];omega⟩;have hR:=RJ A l z lim (List.replicate A.length 0) dy hz;have A6:List.replicate A.length [SV.int .i64 0]=(List.replicate A.length (0:Int)).map Zg:=by rw[x5];rfl
 have Gw:=Zkp uG;have kP:=Sk uG;have Sl:=Zab (jU uG);generalize hB:jU uG=B at Gw kP Sl⊢;conv=>whnf
 repeat'(first|refine IW ?_ ?_<;>intro h<;>try omega)<;>conv=>whnf
 rw[Gw];refine CALL.aA [1,6] (Sl) ?_;rintro r O nx ⟨rfl,rfl,rfl⟩;conv=>whnf
 skip
 refine qQ.goes (fr':=[(30, .fn (.func 70) [] [.ptr (.loc 11) 0 0 0, .ptr (.loc 10) 0 0 0, .ptr (.loc 9) 0 0 0]),(1, .int .i64 (B:Int)),(7, .ptr (.loc 5) 0 0 0),(9, .ptr (.loc 6) 0 0 0),(10, .ptr (.loc 7) 0 0 0),(11, .ptr (.loc 8) 0 0 0)])
  (O':=[(1,Bm l.length lim A.length),(2, .rows 1 ((A++List.replicate jj []).map Ze)),(3, .mp (qb (Xr 0 A A.length))),(4, .deep false 1 (wT (uQ A l))),(5, .box [.ptr (.loc 1) 0 0 0]),(6, .box [.int .i64 0]),(7, .box [.val (.slice none 0 0)]),(8, .box [.val (.slice none 0 0)]),(9, .box [.ptr (.loc 1) 0 0 0]),(10, .box [.int .i64 (B:Int)]),(11, .box [.ptr (.loc 6) 0 0 0])]) (n':=12) (by exact vU.kA h0 [1,2,3,4,5,6,7,8,9,10,11]) ?_
 refine qQ.goes (uT.goes (uT.trans (uT.Gq 16) (uT.Gq 1))) ?_;refine qQ.of Z0 (gf:=70) (g:=70) (fn:=f70) (cap:=[.ptr (.loc 11) 0 0 0, .ptr (.loc 10) 0 0 0, .ptr (.loc 9) 0 0 0]) call70 func70 rfl 17 rfl ic rfl rfl rfl rfl rfl ?_;conv=>whnf
 have hout:=h0;intro η1 h0;conv=>whnf
 repeat'(first|(show uq _ _ _ _ _ _ _;first|refine Z4 3 ZgP ?_)|refine wh.mk (fun _ _=>?_)|refine AD ?_|refine qz.mk ?_ ?_|refine u6.mk (Uw 8 rfl (by omega) (by omega) (by omega) (by omega)) ?_)<;>conv=>whnf
 all_goals
  rw[Int.toNat_natCast,A6];refine CALL.aA [1,0,3,4,18,2] (hR) ?_;rintro r O nx ⟨F,hF,rfl,rfl,rfl⟩;obtain⟨bX,nK⟩:=hF.ok;rw[yK]at bX nK;have hwk:=Zfh A l z lim B kP hb kz hnd hmem hz (B+1) 0 [] F (by omega) (by omega) ⟨bX,fun c hc=>by rw[bX];exact nK c hc⟩ (fun c hc=>by cases hc) (fun _=>rfl);rw[HR]at hwk;have fe:JM A l B=Vr A l B (B+1) F (0,[]):=by unfold JM;rw[HP hF]
  have b9:=fun h=>S2 (A:=A) (l:=l) (B:=B) h;rw[<-fe]at hwk;generalize hs2:JM A l B=s2 at hwk b9;conv=>whnf
  repeat'(first|refine AD ?_)<;>conv=>whnf
  refine CALL.aA [1,0,3,4,19,2,11,10,16,17,9,5,6,15,7,8,12,13] (hwk) ?_;rintro r O nx ⟨rO,rfl,rfl,rfl⟩;have h0:=hout;conv=>whnf
  repeat'(first|refine IW ?_ ?_<;>intro h<;>try omega)<;>conv=>whnf
  .refine u0.aA h0 [] (.uz [.val (.slice none 0 0), .val (.slice none 0 0), .int .i64 4]) [] (.inr (.inl ⟨hE,?_,rfl,rfl,rfl⟩));rw[hB,<-hA,hs2];omega
  obtain⟨c,hc,rP⟩:=HS (ZA A l) (b9 (by omega));have bz:=rO c hc;have ki:=bz.cn
  have gD:∀(r:SV) (O:vX),r= .uz [.sl (.loc 1) 0 16 l.length none, .sl (.loc 2) 0 2 A.length none, .int .i64 0]->O=[(1, .rows 16 ((ZA A l c).map Z3)),(2, .rows 2 ((wC A c).map Yu))]->Gv l uG r O 3:=fun r O hr hO=>by
   refine .inr (.inr ⟨hE,?_,c,?_,?_,?_,?_,rfl⟩);rw[hB,<-hA,hs2];omega;rw[<-hA];exact bz;rw[hB,<-hA,hs2];exact rP;rw[<-hA];exact hr;rw[<-hA];exact hO
  have hfl:=JX A l c;rw[rP];refine vZ.nil 14 2 rfl ?_;refine vZ.kj Z0 [10,11,51,52] [] (X:=Nat) (fun i=>i<=A.length) (fun i=>[(53, .int .i64 (i:Int)),(14, .sl (.loc 22) 0 2 i none)]) (fun i=>[(2, .rows 1 ((A++List.replicate jj []).map Ze)),(7, .box [.sl (.loc 20) 0 16 (ZA A l c).length none]),(8, .box [.sl (.loc 21) 0 1 c.length none]),(14, .jV []),(20, .rows 16 ((ZA A l c).map Z3)),(21, .rows 1 (c.map Zg)),(22, .rows 2 (((wC A c).take i).map Yu))]) 23 (fun i=>A.length-i) 0 (by omega) ?_;conv=>whnf
  refine⟨by exact vU.kA h0 [1,2,3,4,5,6,7,8,9,10,11,12,13,14,15,16,17,18,19,20,21,22],?_⟩;intro i hi;conv=>whnf
  by_cases hil:i<A.length
  .have hv:=bz.cs _ (zk (show i<c.length by omega));have gA:∀{m:Nat},m=i->((A++List.replicate jj []).map Ze)[m]?=some (Ze A[i]):=fun e=>by subst e;rw[z6,zn hil,z1 hil];rfl
   have gC:∀{m:Nat},m=i->(c.map Zg)[m]?=some (Zg (c[i]'(by omega))):=fun e=>by subst e;rw[z6,z1 (by omega)];rfl
   have hit:itoa (c[i]'(by omega))=decDigits (c[i]'(by omega)).toNat:=by unfold itoa;rw[z7 (by omega)]
   have A7:(itoa (c[i]'(by omega))).length<=4:=by rw[hit];exact iR 3 _ (by omega)
   have bg:=Zj0 (A:=A) (c:=c) ki hil hit;repeat'(first|refine GET.at (gA (by omega)) ?_|refine GET.at (gC (by omega)) ?_|refine CALL.value (Ba (c[i]'(by omega)) ⟨by omega,by omega⟩) rfl rfl ?_|refine u6.mk (show 1+(itoa (c[i]'(by omega))).length<=9223372036854775807 by omega) ?_|refine u6.mk (Zn 32 rfl rfl rfl (by simp[XD];omega) (by omega)) ?_|refine AU ?_|refine IW ?_ ?_<;>intro h<;>try omega)<;>conv=>whnf
   refine⟨i+1,by omega,by omega,?_⟩;rw[bg];conv=>whnf
   exact vU.kA h0 [1,2,3,4,5,6,7,8,9,10,11,12,13,14,15,16,17,18,19,20,21,24]
  .have hie:i=A.length:=by omega
   subst hie;rw[zg (by rw[XD];exact zo _)];repeat'(first|refine IW ?_ ?_<;>intro h<;>try omega)<;>conv=>whnf
   rw[hfl];exact u0.aA h0 [20,22] (.uz [.sl (.loc 1) 0 16 l.length none, .sl (.loc 2) 0 2 A.length none, .int .i64 0]) [(1, .rows 16 ((ZA A l c).map Z3)),(2, .rows 2 ((wC A c).map Yu))] (gD _ _ rfl rfl)
end Go.Proofs.YtlcbipfmodcedaaGreatDoor
