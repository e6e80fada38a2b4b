/- Part 44: Can12. Conditions: as each part says. -/
import Derived.Test.YtlcbipfmodcedaaGreatDoorCiso39
import Derived.Test.YtlcbipfmodcedaaGreatDoorCiso43
set_option linter.unusedVariables false
set_option linter.unusedSimpArgs false
set_option maxRecDepth 20000
set_option maxHeartbeats 8000000
namespace Go.Proofs.YtlcbipfmodcedaaGreatDoor
open Go.Sx Go.Our Go.Lib
open _root_.Go.Proofs.Tryz
def ZgS:uJ:=(.take 1 2 (.take 2 2 (.take 3 1 (.take 4 1 (.take 5 2 (.take 6 1 (.fork 0 3 7 3 (ZI [(7,3),(8,0),(9,0)]) (.fork 0 3 8 0 (ZI [(8,0),(9,0)]) (ZI [(0,2),(9,0)])))))))))
theorem Z9h(B:Nat):vW prog uv 35 2 [.ptr (.loc 0) 0 0 0, .int .i64 (B:Int), .ptr (.loc 1) 0 0 0] [] []
 (fun r O nx=>r= .fn (.func 70) [] [.ptr (.loc 4) 0 0 0, .ptr (.loc 3) 0 0 0, .ptr (.loc 2) 0 0 0]/\O=[(2, .box [.ptr (.loc 0) 0 0 0]),(3, .box [.int .i64 (B:Int)]),(4, .box [.ptr (.loc 1) 0 0 0])]/\nx=5):=by
 refine vW.enter Z3 call35 func35 rfl 8 rfl rfl [.tmp 6] rfl ?_;intro w0 F η0 h0;conv=>whnf
 skip
 exact u9.aA h0 [2,3,4] (.fn (.func 70) [] [.ptr (.loc 4) 0 0 0, .ptr (.loc 3) 0 0 0, .ptr (.loc 2) 0 0 0]) [(2, .box [.ptr (.loc 0) 0 0 0]),(3, .box [.int .i64 (B:Int)]),(4, .box [.ptr (.loc 1) 0 0 0])] ⟨rfl,rfl,rfl⟩
def qu(b:Int):Nat:=(min (max b 0) 65536).toNat
theorem ZkE(b:Int):qu b<=65536:=by unfold qu;omega
theorem ZkF(b:Int):(if 65536< (if b<0 then 0 else b)then 65536 else(if b<0 then 0 else b))=((qu b:Nat):Int):=by
 unfold qu;by_cases h1:b<0
 rw[z8 h1,z6 (by omega)];omega
 .rw[z6 h1];by_cases h2:65536<b
  rw[z8 h2];omega;rw[z6 h2];omega
theorem Zj7{A:List LB}{c:List Int}(gh:c.length=A.length){i:Nat}(hil:i<A.length)(hit:itoa (c[i]'(by omega))=decDigits (c[i]'(by omega)).toNat):
 List.take i (((kG A c).take i).map JM)++List.take 1 (List.drop 0 [[SV.str A[i],SV.str ((ByteArray.mk #[99]).data.toList++itoa (c[i]'(by omega)))]])=((kG A c).take (i+1)).map JM:=by
 have hp:i< (kG A c).length:=by rw[qt];exact hil
 rw[zB hp,iQ hil hp,yo,zo (by simp;omega),hit];have:c.getD i 0=c[i]'(by omega):=by rw[zi,z1 (by omega)];rfl
 rw[this]
 rfl
def Aq(l:List Qd)(uf:Int):SV->u0->Nat->Prop:=fun r O nx=>
 (jf l≠0/\r= .uI [.val (.slice none 0 0), .val (.slice none 0 0), .int .i64 (jf l)]/\O=[]/\nx=1)\/
 (jf l=0/\qu uf< (ZU (Z0 l) l (qu uf)).1/\r= .uI [.val (.slice none 0 0), .val (.slice none 0 0), .int .i64 4]/\O=[]/\nx=1)\/
 (jf l=0/\(ZU (Z0 l) l (qu uf)).1<=qu uf/\∃c,qz (Z0 l) c/\Js (ZH (Z0 l) l) (ZU (Z0 l) l (qu uf)).2=some (ZH (Z0 l) l c,c)/\
   r= .uI [.sl (.loc 1) 0 16 l.length none, .sl (.loc 2) 0 2 (Z0 l).length none, .int .i64 0]/\O=[(1, .rows 16 ((ZH (Z0 l) l c).map Zd)),(2, .rows 2 ((kG (Z0 l) c).map JM))]/\nx=3)
set_option maxHeartbeats 16000000 in
theorem Vz(l z:List Qd)(lim:Option Nat)(uf:Int)(iU: -9223372036854775808<=uf/\uf<=9223372036854775807)(hl:VU l)(ql:nH l)(hz:(l++z).length<=1152921504606846976):
 vW prog uv 13 1 [.sl (.loc 0) 0 16 l.length lim, .int .i64 uf] [] [(0, .rows 16 ((l++z).map Zd))] (Aq l uf):=by
 have hf:=ZbJ l z lim hl ql hz;have hnd:(Z0 l).Nodup:=Yb kr (J7 kr _);have hmem:∀x∈ZR l,x∈Z0 l:=fun x hx=>(Vc _ _).2 hx;refine vW.enter Z3 call13 func13 rfl 72 rfl rfl [.tmp 4, .tmp 5, .tmp 6] rfl ?_;intro w0 F η0 h0;conv=>whnf
 skip
 refine CALL.aA [0] (hf) ?_;rintro r O nx (⟨hv,rfl,rfl,rfl⟩|⟨hv,hb,rfl,rfl,rfl⟩|⟨hv,hb,rfl,rfl,jj,hj,rfl⟩)
 .have hE:jf l=(Yr l).2:=by unfold jf;rw[z6 (by rintro⟨h1,_⟩;exact hv h1)]
  conv=>whnf
  repeat'(first|refine IW ?_ ?_<;>intro h<;>try omega)<;>conv=>whnf
  exact u9.aA h0 [] (.uI [.val (.slice none 0 0), .val (.slice none 0 0), .int .i64 (Yr l).2]) [] (.inl ⟨by rw[hE];exact hv,by rw[hE],rfl,rfl⟩)
 .have hE:jf l=2:=by unfold jf;rw[z8 ⟨hv,hb⟩]
  conv=>whnf
  repeat'(first|refine IW ?_ ?_<;>intro h<;>try omega)<;>conv=>whnf
  exact u9.aA h0 [] (.uI [.val (.slice none 0 0), .val (.slice none 0 0), .int .i64 2]) [] (.inl ⟨by omega,by rw[hE],rfl,rfl⟩)
 have hE:jf l=0:=by unfold jf;rw[z6 (by rintro⟨_,h2⟩;omega),hv]
 obtain⟨A,hA⟩:∃A,A=Z0 l:=⟨_,rfl⟩;rw[<-hA]at hnd hb hj hmem⊢;have kZ:=(W0 hv).2;have aC:eB A l (List.replicate A.length 0):=⟨by simp,hb,kZ,hnd,hmem,fun c hc=>by rw[xE hc];omega⟩;have hR:=SQ A l z lim (List.replicate A.length 0) aC hz;have hrp:List.replicate A.length [SV.int .i64 0]=(List.replicate A.length (0:Int)).map Z8:=by rw[x7];rfl
 have Tn:=ZkF uf;have jR:=ZkE uf;have To:=Z9h (qu uf);generalize hB:qu uf=B at Tn jR To⊢;conv=>whnf
 repeat'(first|refine IW ?_ ?_<;>intro h<;>try omega)<;>conv=>whnf
 rw[Tn];refine CALL.aA [1,6] (To) ?_;rintro r O nx ⟨rfl,rfl,rfl⟩;conv=>whnf
 skip
 refine kg.goes (fr':=[(30, .fn (.func 70) [] [.ptr (.loc 11) 0 0 0, .ptr (.loc 10) 0 0 0, .ptr (.loc 9) 0 0 0]),(1, .int .i64 (B:Int)),(7, .ptr (.loc 5) 0 0 0),(9, .ptr (.loc 6) 0 0 0),(10, .ptr (.loc 7) 0 0 0),(11, .ptr (.loc 8) 0 0 0)])
  (O':=[(1,A7 l.length lim A.length),(2, .rows 1 ((A++List.replicate jj []).map Z9)),(3, .mp (kz (X0 0 A A.length))),(4, .deep false 1 (j6 (qx A l))),(5, .box [.ptr (.loc 1) 0 0 0]),(6, .box [.int .i64 0]),(7, .box [.val (.slice none 0 0)]),(8, .box [.val (.slice none 0 0)]),(9, .box [.ptr (.loc 1) 0 0 0]),(10, .box [.int .i64 (B:Int)]),(11, .box [.ptr (.loc 6) 0 0 0])]) (n':=12) (by exact vY.kA h0 [1,2,3,4,5,6,7,8,9,10,11]) ?_
 refine kg.goes (uZ.goes (uZ.trans (uZ.GY 16) (uZ.GY 1))) ?_;refine kg.of Z3 (gf:=70) (g:=70) (fn:=f70) (cap:=[.ptr (.loc 11) 0 0 0, .ptr (.loc 10) 0 0 0, .ptr (.loc 9) 0 0 0]) call70 func70 rfl 17 rfl iS rfl rfl rfl rfl rfl ?_;conv=>whnf
 have hout:=h0;intro η1 h0;conv=>whnf
 repeat'(first|(show uK _ _ _ _ _ _ _;first|refine Zs 3 ZgS ?_)|refine qW.mk (fun _ _=>?_)|refine AD ?_|refine w6.mk ?_ ?_|refine ud.mk (Ux 8 rfl (by omega) (by omega) (by omega) (by omega)) ?_)<;>conv=>whnf
 all_goals
  rw[Int.toNat_natCast,hrp];refine CALL.aA [1,0,3,4,18,2] (hR) ?_;rintro r O nx ⟨F,hF,rfl,rfl,rfl⟩;obtain⟨au,iT⟩:=hF.ok;rw[zT]at au iT;have hwk:=ZeU A l z lim B jR hb kZ hnd hmem hz (B+1) 0 [] F (by omega) (by omega) ⟨au,fun c hc=>by rw[au];exact iT c hc⟩ (fun c hc=>by cases hc) (fun _=>rfl);rw[T0]at hwk;have eO:ZU A l B=JS A l B (B+1) F (0,[]):=by unfold ZU;rw[GV hF]
  have s9:=fun h=>T6 (A:=A) (l:=l) (B:=B) h;rw[<-eO]at hwk;generalize hs2:ZU A l B=s2 at hwk s9;conv=>whnf
  repeat'(first|refine AD ?_)<;>conv=>whnf
  refine CALL.aA [1,0,3,4,19,2,11,10,16,17,9,5,6,15,7,8,12,13] (hwk) ?_;rintro r O nx ⟨EF,rfl,rfl,rfl⟩;have h0:=hout;conv=>whnf
  repeat'(first|refine IW ?_ ?_<;>intro h<;>try omega)<;>conv=>whnf
  .refine u9.aA h0 [] (.uI [.val (.slice none 0 0), .val (.slice none 0 0), .int .i64 4]) [] (.inr (.inl ⟨hE,?_,rfl,rfl,rfl⟩));rw[hB,<-hA,hs2];omega
  obtain⟨c,hc,Tp⟩:=EA (ZH A l) (s9 (by omega));have Ar:=EF c hc;have gh:=Ar.cn
  have As:∀(r:SV) (O:u0),r= .uI [.sl (.loc 1) 0 16 l.length none, .sl (.loc 2) 0 2 A.length none, .int .i64 0]->O=[(1, .rows 16 ((ZH A l c).map Zd)),(2, .rows 2 ((kG A c).map JM))]->Aq l uf r O 3:=fun r O hr hO=>by
   refine .inr (.inr ⟨hE,?_,c,?_,?_,?_,?_,rfl⟩);rw[hB,<-hA,hs2];omega;rw[<-hA];exact Ar;rw[hB,<-hA,hs2];exact Tp;rw[<-hA];exact hr;rw[<-hA];exact hO
  have hfl:=U6 A l c;rw[Tp];refine ua.nil 14 2 rfl ?_;refine ua.j5 Z3 [10,11,51,52] [] (X:=Nat) (fun i=>i<=A.length) (fun i=>[(53, .int .i64 (i:Int)),(14, .sl (.loc 22) 0 2 i none)]) (fun i=>[(2, .rows 1 ((A++List.replicate jj []).map Z9)),(7, .box [.sl (.loc 20) 0 16 (ZH A l c).length none]),(8, .box [.sl (.loc 21) 0 1 c.length none]),(14, .gJ []),(20, .rows 16 ((ZH A l c).map Zd)),(21, .rows 1 (c.map Z8)),(22, .rows 2 (((kG A c).take i).map JM))]) 23 (fun i=>A.length-i) 0 (by omega) ?_;conv=>whnf
  refine⟨by exact vY.kA h0 [1,2,3,4,5,6,7,8,9,10,11,12,13,14,15,16,17,18,19,20,21,22],?_⟩;intro i hi;conv=>whnf
  by_cases hil:i<A.length
  .have hv:=Ar.cs _ (zq (show i<c.length by omega));have gA:∀{m:Nat},m=i->((A++List.replicate jj []).map Z9)[m]?=some (Z9 A[i]):=fun e=>by subst e;rw[z7,zu hil,z1 hil];rfl
   have gC:∀{m:Nat},m=i->(c.map Z8)[m]?=some (Z8 (c[i]'(by omega))):=fun e=>by subst e;rw[z7,z1 (by omega)];rfl
   have hit:itoa (c[i]'(by omega))=decDigits (c[i]'(by omega)).toNat:=by unfold itoa;rw[z6 (by omega)]
   have z9P:(itoa (c[i]'(by omega))).length<=4:=by rw[hit];exact Ql 3 _ (by omega)
   have bN:=Zj7 (A:=A) (c:=c) gh hil hit;repeat'(first|refine GET.at (gA (by omega)) ?_|refine GET.at (gC (by omega)) ?_|refine CALL.value (Zz (c[i]'(by omega)) ⟨by omega,by omega⟩) rfl rfl ?_|refine ud.mk (show 1+(itoa (c[i]'(by omega))).length<=9223372036854775807 by omega) ?_|refine ud.mk (Ye 32 rfl rfl rfl (by simp[qt];omega) (by omega)) ?_|refine AU ?_|refine IW ?_ ?_<;>intro h<;>try omega)<;>conv=>whnf
   refine⟨i+1,by omega,by omega,?_⟩;rw[bN];conv=>whnf
   exact vY.kA h0 [1,2,3,4,5,6,7,8,9,10,11,12,13,14,15,16,17,18,19,20,21,24]
  .have hie:i=A.length:=by omega
   subst hie;rw[zo (by rw[qt];exact zn _)];repeat'(first|refine IW ?_ ?_<;>intro h<;>try omega)<;>conv=>whnf
   rw[hfl];exact u9.aA h0 [20,22] (.uI [.sl (.loc 1) 0 16 l.length none, .sl (.loc 2) 0 2 A.length none, .int .i64 0]) [(1, .rows 16 ((ZH A l c).map Zd)),(2, .rows 2 ((kG A c).map JM))] (As _ _ rfl rfl)
end Go.Proofs.YtlcbipfmodcedaaGreatDoor
