/- Part 50: RCan12, RCan13, RCan14, LawForm. Conditions: as each part says. -/
import Derived.Test.YtlcbipfmodcedaaGreatDoorFrm45
import Derived.Test.YtlcbipfmodcedaaGreatDoorFrm48
import Derived.Test.YtlcbipfmodcedaaGreatDoorFrm49
set_option linter.unusedVariables false
set_option linter.unusedSimpArgs false
set_option maxRecDepth 20000
set_option maxHeartbeats 8000000
namespace Go.Proofs.YtlcbipfmodcedaaGreatDoor
open Go.Sx Go.Our Go.Lib
open _root_.Go.Proofs.Tryz
def Zfj:uu:=(Zs [(0,1),(1,1),(2,1),(3,1),(5,1),(8,1),(9,1),(10,1),(4,2),(6,1),(7,2),(11,2),(12,3),(13,1),(14,1),(15,3),(16,0),(17,1)])
theorem ZgR{A:List LB}{c:List Int}(ki:c.length=A.length){i:Nat}(hil:i<A.length):
 List.take i (((wC A c).take i).map Yu)++List.take 1 (List.drop 0 [[SV.str A[i],SV.str ((ByteArray.mk #[99]).data.toList++decDigits (c[i]'(by omega)).toNat)]])=((wC A c).take (i+1)).map Yu:=by
 have hp:i< (wC A c).length:=by rw[XD];exact hil
 rw[zH hp,Qg hil hp,yz,zg (by simp;omega)];have:c.getD i 0=c[i]'(by omega):=by rw[zl,z1 (by omega)];rfl
 rw[this]
 rfl
theorem ZcM(A:List LB)(l z:List Qd)(lim la:Option Nat)(cl:List Int)(bz:wH A cl)(e8:A.length<=4096)(sR:JS l)(hl:l.length<=1048576)(hr:wQ ZP l)(hnd:A.Nodup)(hmem:∀s∈Zz l,s∈A)(hz:(l++z).length<=1152921504606846976):
 vS prog uf 78 6 [.ptr (.loc 0) 0 0 0, .sl (.loc 4) 0 1 A.length none] [] [(0,Ge l.length lim A.length none la),(1, .rows 16 ((l++z).map Z3)),(4, .rows 1 (cl.map Zg)),(5, .rows 1 (A.map Ze))]
 (fun r O nx=>r= .uz [.sl (.loc 6) 0 16 l.length none, .sl (.loc 7) 0 2 A.length none]/\O=[(6, .rows 16 ((ZA A l cl).map Z3)),(7, .rows 2 ((wC A cl).map Yu))]/\nx=8):=by
 have ki:=bz.cn;have Qi:=Sn l z lim (wC A cl) [] none sR hz (by rw[zP,XD];omega);rw[zP,S8 bz hnd hr hmem,XD]at Qi;have hfl:=JX A l cl;refine vS.enter Z0 call78 func78 rfl 41 rfl rfl [.tmp 4, .tmp 5] rfl ?_;intro w0 F η0 h0;conv=>whnf
 skip
 refine vZ.nil 6 2 rfl ?_;refine vZ.kj Z0 [0,1] [] (X:=Nat) (fun i=>i<=A.length) (fun i=>[(7, .int .i64 (i:Int)),(6, .sl (.loc 6) 0 2 i none)]) (fun i=>[(6, .rows 2 (((wC A cl).take i).map Yu))]) 7 (fun i=>A.length-i) 0 (by omega) ?_;conv=>whnf
 refine⟨by exact vU.kA h0 [6],?_⟩;intro i hi;conv=>whnf
 by_cases hil:i<A.length
 .have hv:=bz.cs _ (zk (show i<cl.length by omega));have gA:∀{m:Nat},m=i->(A.map Ze)[m]?=some (Ze A[i]):=fun e=>by subst e;rw[z6,z1 hil];rfl
  have gC:∀{m:Nat},m=i->(cl.map Zg)[m]?=some (Zg ((cl[i]'(by omega)).toNat:Int)):=fun e=>by subst e;rw[z6,z1 (by omega),vE hv.1];rfl
  have A7:(decDigits (cl[i]'(by omega)).toNat).length<=4:=iR 3 _ (by omega);have tW:=LS 1 (cl[i]'(by omega)).toNat (by omega) (by omega);rw[Zie]at tW;have bg:=ZgR (A:=A) (c:=cl) ki hil;repeat'(first|refine GET.at (gA (by omega)) ?_|refine GET.at (gC (by omega)) ?_|refine CALL.value (tW) rfl rfl ?_|refine u6.mk (show 1+(decDigits (cl[i]'(by omega)).toNat).length<=9223372036854775807 by omega) ?_|refine u6.mk (Zn 32 rfl rfl rfl (by simp[XD];omega) (by omega)) ?_|(show uq _ _ _ _ _ _ _;first|refine Z4 5 Zfj ?_)|refine wh.mk (fun _ _=>?_)|refine AD ?_|refine AU ?_|refine IW ?_ ?_<;>intro h<;>try omega)<;>conv=>whnf
  all_goals
   refine⟨i+1,by omega,by omega,?_⟩;rw[bg];conv=>whnf
   exact vU.kA h0 [8]
 .have hie:i=A.length:=by omega
  subst hie;rw[zg (by rw[XD];exact zo _)];repeat'(first|refine IW ?_ ?_<;>intro h<;>try omega)<;>conv=>whnf
  refine CALL.aA [1,6] (Qi) ?_;rintro r O nx ⟨rfl,rfl,rfl⟩;conv=>whnf
  skip
  rw[hfl];exact u0.aA h0 [7,6] (.uz [.sl (.loc 6) 0 16 l.length none, .sl (.loc 7) 0 2 A.length none]) [(6, .rows 16 ((ZA A l cl).map Z3)),(7, .rows 2 ((wC A cl).map Yu))] ⟨rfl,rfl,rfl⟩
end Go.Proofs.YtlcbipfmodcedaaGreatDoor
namespace Go.Proofs.YtlcbipfmodcedaaGreatDoor
open Go.Sx Go.Our Go.Lib
open _root_.Go.Proofs.Tryz
def U7(b:jd):List Qd:=match b with|none=>[]|some p=>p.1
def dz(A:List LB)(b:jd):List Pr:=match b with|none=>[]|some p=>wC A p.2
def HZ(b:jd):Bool:=match b with|none=>false|some _=>true
abbrev E0(A:List LB)(B n:Nat)(ov:Bool)(b:jd)(p q:Nat):Hp:= .box [.ptr (.loc 0) 0 0 0, .int .i64 ((B:Int)-(n:Int)), .bool ov, .bool (HZ b), .sl (.loc p) 0 16 (U7 b).length none, .sl (.loc q) 0 2 (dz A b).length none]
abbrev mg(A:List LB)(l:List Qd)(B n:Nat)(ov:Bool)(b:jd)(p q:Nat):vX:=[(3, .deep false 1 (wT (uQ A l))),(6,E0 A B n ov b p q),(p, .rows 16 ((U7 b).map Z3)),(q, .rows 2 ((dz A b).map Yu))]
abbrev goS(A:List LB)(l z:List Qd)(lim:Option Nat)(cl:List Int):vX:=[(0,Ge l.length lim A.length none none),(1, .rows 16 ((l++z).map Z3)),(2, .mp (qb (Xr 0 A A.length))),(4, .rows 1 (cl.map Zg)),(5, .rows 1 (A.map Ze))]
def E1(A:List LB)(l:List Qd)(B:Nat)(s:Nat×List (List Int)):SV->vX->Nat->Prop:=fun r O nx=>
 (∀cl∈s.2,wH A cl)/\r= .uz []/\O=mg A l B s.1 (decide (B<s.1)) (JV (ZA A l) s.2) 9 10/\nx=11
theorem uT.Gx{M:Mx}{A:List LB}{h3:Hp}{g x o f:SV}(b:jd):uT M [(3,h3),(6, .box [g,x,o,f, .sl (.loc 7) 0 16 (U7 b).length none, .sl (.loc 8) 0 2 (dz A b).length none]),(7, .rows 16 ((U7 b).map Z3)),(8, .rows 2 ((dz A b).map Yu))] 9
 [(10, .rows 2 ((dz A b).map Yu)),(9, .rows 16 ((U7 b).map Z3)),(3,h3),(6, .box [g,x,o,f, .sl (.loc 9) 0 16 (U7 b).length none, .sl (.loc 10) 0 2 (dz A b).length none])] 11:=
 uT.trans (uT.dX 7 6 4 (row:=[g,x,o,f, .sl (.loc 7) 0 16 (U7 b).length none, .sl (.loc 8) 0 2 (dz A b).length none]) rfl rfl rfl (by decide)) (uT.dX 8 6 5 (row:=[g,x,o,f, .sl (.loc 9) 0 16 (U7 b).length none, .sl (.loc 8) 0 2 (dz A b).length none]) rfl rfl rfl (by decide))
theorem uT.ig{M:Mx}{A:List LB}{h3 h9:Hp}{g x o f:SV}(b:jd):uT M [(9,h9),(3,h3),(6, .box [g,x,o,f, .sl (.loc 7) 0 16 (U7 b).length none, .sl (.loc 8) 0 2 (dz A b).length none]),(7, .rows 16 ((U7 b).map Z3)),(8, .rows 2 ((dz A b).map Yu))] 10
 [(11, .rows 2 ((dz A b).map Yu)),(10, .rows 16 ((U7 b).map Z3)),(9,h9),(3,h3),(6, .box [g,x,o,f, .sl (.loc 10) 0 16 (U7 b).length none, .sl (.loc 11) 0 2 (dz A b).length none])] 12:=
 uT.trans (uT.dX 7 6 4 (row:=[g,x,o,f, .sl (.loc 7) 0 16 (U7 b).length none, .sl (.loc 8) 0 2 (dz A b).length none]) rfl rfl rfl (by decide)) (uT.dX 8 6 5 (row:=[g,x,o,f, .sl (.loc 10) 0 16 (U7 b).length none, .sl (.loc 8) 0 2 (dz A b).length none]) rfl rfl rfl (by decide))
set_option maxHeartbeats 16000000 in
theorem ZgS(A:List LB)(l z:List Qd)(lim:Option Nat)(B:Nat)(hB:B<=65536)(e8:A.length<=4096)(sR:JS l)(hl:l.length<=1048576)(hr:wQ ZP l)(hnd:A.Nodup)(hmem:∀s∈Zz l,s∈A)(hpk:∀q∈l, ¬q.p.k=2)(hz:(l++z).length<=1152921504606846976):
 ∀(k n:Nat) (Ls:List (List Int)) (cl:List Int),n<=B->B<n+k->rL A cl->(∀c∈Ls,wH A c)->
 vS prog uf 39 9 [.ptr (.loc 6) 0 0 0, .sl (.loc 4) 0 1 A.length none] (mg A l B n false (JV (ZA A l) Ls) 7 8) (goS A l z lim cl) (E1 A l B (Vr A l B k cl (n,Ls))):=by
 intro k
 induction k with
 |zero=>intro n Ls cl h1 h2;omega
 |succ k ih=>
  intro n Ls cl hn hk hc rM;have ki:=hc.cn;obtain⟨b,hb⟩:∃b,b=JV (ZA A l) Ls:=⟨_,rfl⟩;have hw:IntKind.i64.wrap ((B:Int)-(n:Int)-1)=(B:Int)-((n+1:Nat):Int):=by rw[Z9 (by omega) (by omega)];omega
  rw[<-hb];refine vS.enter Z0 call39 func39 rfl 151 rfl rfl [] rfl ?_;intro w0 F η0 h0;conv=>whnf
  repeat'(first|rw[hw]|refine u6.mk (Uw 8 rfl (by omega) (by omega) (by omega) (by omega)) ?_|refine AU ?_|refine IW ?_ ?_<;>intro h<;>try omega)<;>conv=>whnf
  all_goals try rw[hw]at*
  .have ho:B<n+1:=by omega
   rw[W8 ho];refine uT.fin (uT.Gx b) ?_;have hf:E1 A l B (n+1,Ls) (.uz []) (mg A l B (n+1) true b 9 10) 11:=⟨rM,rfl,by rw[hb,yq (show B< (n+1,Ls).1 from ho)],rfl⟩;exact u0.aA h0 [9,10] (.uz []) (mg A l B (n+1) true b 9 10) hf
  have ho:¬B<n+1:=by omega
  rw[Int.toNat_natCast,show List.replicate A.length [SV.int .i64 0]=(List.replicate A.length (0:Int)).map Zg by rw[x5];rfl,<-ki,<-ZgD,ki];refine uT.loop (uT.ig b) ?_;refine vZ.kj Z0 [0,1,4] [3,6] (X:=Nat) (fun i=>i<=A.length) (fun i=>[(5, .int .i64 (i:Int))]) (fun i=>[(9, .rows 1 ((jG cl i).map Zg)),(10, .rows 16 ((U7 b).map Z3)),(11, .rows 2 ((dz A b).map Yu))]) 12 (fun i=>A.length-i) 0 (by omega) ?_;conv=>whnf
  refine⟨by exact vU.kA h0 [9,10,11],?_⟩;intro i hi;conv=>whnf
  by_cases hil:i<A.length
  .obtain⟨c,oF⟩:∃c:Nat,c=(cl[i]'(by omega)).toNat:=⟨_,rfl⟩;have hv:=hc.cs _ (zk (show i<cl.length by omega));have hgd:cl.getD i 0=(c:Int):=by rw[zl,z1 (by omega),Option.getD_some];omega
   have kg:c<cl.length:=by omega
   have gC:∀{m:Nat},m=i->(cl.map Zg)[m]?=some (Zg (c:Int)):=fun{m} e=>by rw[e,z6,z1 (show i<cl.length by omega),Option.map_some,show cl[i]'(by omega)=(c:Int)by omega]
   have gN:∀{m:Nat},m=c->((jG cl i).map Zg)[m]?=some (Zg _):=fun e=>by subst e;rw[z6,S1 kg];rfl
   have hsu:=ZgE (by omega) hgd kg;have hle:((List.range i).filter fun x=>decide (cl.getD x 0=(c:Int))).length<=i:=zO (vo ..) (by simp);generalize((List.range i).filter fun x=>decide (cl.getD x 0=(c:Int))).length=N at gN hsu hle;repeat'(first|refine GET.at (gC (by omega)) ?_|refine GET.at (gN (by omega)) ?_|refine AU ?_|refine IW ?_ ?_<;>intro h<;>try omega)<;>conv=>whnf
   refine⟨i+1,by omega,by omega,?_⟩;rw[U4 (x:=c) (by omega),show IntKind.i64.wrap ((N:Int)+1)=(N:Int)+1 from Z9 (by omega) (by omega),hsu];conv=>whnf
   exact vU.kA h0 [9,10,11]
  have hie:i=cl.length:=by omega
  rw[hie];clear hil hi hie i;repeat'(first|refine IW ?_ ?_<;>intro h<;>try omega)<;>conv=>whnf
  refine vZ.kj Z0 [0,1,4] [3,6] (X:=Nat) (fun i=>i<=cl.length) (fun i=>[(7, .int .i64 ((i:Int)-1)),(6, .int .i64 (ia cl i))]) (fun i=>[(9, .rows 1 ((jG cl cl.length).map Zg)),(10, .rows 16 ((U7 b).map Z3)),(11, .rows 2 ((dz A b).map Yu))]) 12 (fun i=>i) cl.length (by omega) ?_;conv=>whnf
  refine⟨by rw[ZgF];exact vU.kA h0 [9,10,11],?_⟩;intro i hi;conv=>whnf
  rcases i with _|j
  rotate_left
  .have hj:j<cl.length:=by omega
   have gN:∀{m:Nat},m=j->((jG cl cl.length).map Zg)[m]?=some (Zg ((w9 cl (j:Int)).length:Int)):=fun e=>by subst e;rw[z6,ZiS hj];rfl
   have hst:=Zf8 hj;have jo:=BW cl (j:Int);repeat'(first|refine GET.at (gN (by omega)) ?_|refine AU ?_|refine IW ?_ ?_<;>intro h<;>try omega)<;>conv=>whnf
   all_goals
    first|rw[zf (by omega)]at hst|rw[z7 (by omega)]at hst
    refine⟨j,by omega,by omega,?_⟩;rw[hst];conv=>whnf
    exact vU.kA h0 [9,10,11]
  rw[Zf9];cases hs:J5 cl with
  |none=>
   rw[W9 ho hs];dsimp only;have hlf:wH A cl:=⟨ki,hc.cs,hs⟩;have A3:=ZcM A l z lim none cl hlf e8 sR hl hr hnd hmem hz;have hfl:=JX A l cl;have hx:mg A l B (n+1) false (some (ZA A l cl,cl)) 9 10=[(3, .deep false 1 (wT (uQ A l))),(6, .box [.ptr (.loc 0) 0 0 0, .int .i64 ((B:Int)-((n+1:Nat):Int)), .bool false, .bool true, .sl (.loc 9) 0 16 l.length none, .sl (.loc 10) 0 2 A.length none]),(9, .rows 16 ((ZA A l cl).map Z3)),(10, .rows 2 ((wC A cl).map Yu))]:=by simp only[mg,E0,U7,dz,HZ,hfl,XD]
   have hf:∀b',b'=YQ (ZA A l) b cl->E1 A l B (n+1,Ls++ [cl]) (.uz []) (mg A l B (n+1) false b' 9 10) 11:=fun b' hb'=>⟨fun c mA=>(zQ.1 mA).elim (rM c) (fun h=>by rw[zI.1 h];exact hlf),rfl,by rw[hb',hb,RV,y5 (show ¬B< (n+1,Ls++ [cl]).1 from ho)],rfl⟩;repeat'(first|refine IW ?_ ?_<;>intro h<;>try omega)<;>conv=>whnf
   refine CALL.aA [0,1,2,3,4,5] (A3) ?_;rintro r O nx ⟨rfl,rfl,rfl⟩;conv=>whnf
   cases b with
   |none=>
    replace hf:=hf _ rfl
    rw[show YQ (ZA A l) none cl=some (ZA A l cl,cl)from rfl,hx]at hf;repeat'(first|refine AU ?_|refine IW ?_ ?_<;>intro h<;>try omega)<;>conv=>whnf
    all_goals first|(simp[HZ]at h;done)|skip
    exact u0.aA h0 [12,13] (.uz []) _ hf
   |some p=>
    have cS:Ls≠ []:=fun e=>by rw[e,HR]at hb;cases hb
    obtain⟨c',eY,oF⟩:=HS (ZA A l) cS;rw[<-hb]at oF;injection oF with oF;subst oF;have A4:=JX A l c';have Gu:=Rl (ZA A l cl) (ZA A l c') none none (by omega) (by omega);rw[hfl]at Gu;have eT:=(B8 (ZA A l cl) (ZA A l c')).1;repeat'(first|refine AU ?_|refine IW ?_ ?_<;>intro h<;>try omega)<;>conv=>whnf
    all_goals first|(simp[HZ]at h;done)|skip
    refine CALL.aA [12,10] (Gu) ?_;rintro r O nx ⟨rfl,rfl,rfl⟩;conv=>whnf
    repeat'(first|refine AU ?_|refine IW ?_ ?_<;>intro h<;>try omega)<;>conv=>whnf
    .replace hf:=hf _ rfl
     rw[show YQ (ZA A l) (some (ZA A l c',c')) cl=some (ZA A l cl,cl)by unfold YQ;exact zf (show Y6 (ZA A l cl) (ZA A l c')<0 by omega),hx]at hf;exact u0.aA h0 [12,13] (.uz []) _ hf
    .replace hf:=hf _ rfl
     rw[show YQ (ZA A l) (some (ZA A l c',c')) cl=some (ZA A l c',c')by unfold YQ;exact z7 (by dsimp only;omega)]at hf;exact u0.aA h0 [10,11] (.uz []) _ hf
  |some c=>
   rw[Wa ho hs];dsimp only;have kg:=RZ hs
   have hch:∀x,∀v∈XO cl (c:Int) x,0<=v/\v<10000:=fun x v hv=>by
    unfold XO at hv;obtain⟨y,hy,rfl⟩:=yc.1 hv;have au:=yj.1 hy;have h9:=hc.cs (cl.getD y 0) (by rw[zl,z1 au];exact zk au);split<;>omega
   repeat'(first|refine IW ?_ ?_<;>intro h<;>try omega)<;>conv=>whnf
   refine vZ.kj Z0 [0,1,6] [3] (X:=Nat×Nat×List (List Int)) (fun x=>x.1<=cl.length/\x.2.1<=B+1/\n+1<=x.2.1/\(∀c∈x.2.2,wH A c)/\UI A l B k cl (c:Int) (w9 cl (c:Int)) (n+1,Ls)=UI A l B k cl (c:Int) (lD cl (c:Int) x.1) x.2)
    (fun x=>[(10, .int .i64 (x.1:Int))]) (fun x=>[(6,E0 A B x.2.1 (decide (B<x.2.1)) (JV (ZA A l) x.2.2) 10 11),(10, .rows 16 ((U7 (JV (ZA A l) x.2.2)).map Z3)),(11, .rows 2 ((dz A (JV (ZA A l) x.2.2)).map Yu))]) 12 (fun x=>cl.length-x.1) (0,n+1,Ls) ⟨by simp,by dsimp only;omega,by dsimp only;omega,rM,by rw[Zfa]⟩ ?_
   conv=>whnf
   refine⟨by dsimp only;rw[<-hb,y5 ho];exact vU.kA h0 [9,10,11],?_⟩;rintro⟨x,n1,L1⟩ ⟨hxl,pF,hn2,rN,gJ⟩;dsimp only at hxl pF hn2 rN gJ⊢;rw[gJ];clear gJ;obtain⟨b1,od⟩:∃b1,b1=JV (ZA A l) L1:=⟨_,rfl⟩;rw[<-od];conv=>whnf
   by_cases cG:x<cl.length/\¬B<n1
   rotate_left
   .have C7:UI A l B k cl (c:Int) (lD cl (c:Int) x) (n1,L1)=(n1,L1):=by
     by_cases h5:B<n1
     exact Vs h5
     .have:x=cl.length:=by omega
      rw[this,ZgG];rfl
    have hcd:(bif decide ((x:Int)< (A.length:Int))then !decide (B<n1)else false)=false:=by
     by_cases h5:B<n1
     rw[yq h5];simp;rw[y5 (show ¬(x:Int)< (A.length:Int)by omega)];rfl
    rw[C7,hcd];have hf:E1 A l B (n1,L1) (.uz []) (mg A l B n1 (decide (B<n1)) b1 9 10) 11:=⟨rN,rfl,by rw[od],rfl⟩;repeat'(first|refine AU ?_)<;>conv=>whnf
    exact u0.aA h0 [10,11] (.uz []) (mg A l B n1 (decide (B<n1)) b1 9 10) hf
   obtain⟨hx,kB⟩:=cG
   have hcd:(bif decide ((x:Int)< (A.length:Int))then !decide (B<n1)else false)=true:=by
    rw[y5 kB,yq (show(x:Int)< (A.length:Int)by omega)];rfl
   rw[hcd,y5 kB];have gX:∀{m:Nat},m=x->(cl.map Zg)[m]?=some (Zg (cl.getD x 0)):=fun{m} e=>by rw[e,z6,zl,z1 hx];rfl
   have jM:=Zfb (c:=(c:Int)) hx;repeat'(first|refine GET.at (gX (by omega)) ?_|refine u6.mk (Zn 8 rfl rfl (by simp<;>omega) (by simp<;>omega) (by omega)) ?_|refine AU ?_|refine IW ?_ ?_<;>intro h<;>try omega)<;>conv=>whnf
   .rw[z7 (by omega)]at jM;refine⟨(x+1,n1,L1),⟨by dsimp only;omega,by dsimp only;omega,by dsimp only;omega,rN,by rw[jM]⟩,by dsimp only;omega,?_⟩;dsimp only;rw[<-od,y5 kB];conv=>whnf
    exact vU.kA h0 [9,10,11]
   .rw[zf (by omega)]at jM;rw[zx,show List.take 0 ([]:List (List SV))++List.take A.length (List.drop 0 (cl.map Zg))=(cZ cl (c:Int) x 0).map Zg by rw[ZiT];simp[zg,ki]];refine vZ.kj Z0 [0,1,6,10,11] [3,6] (X:=Nat) (fun y=>y<=cl.length) (fun y=>[(12, .int .i64 (y:Int)),(11, .sl (.loc 13) 0 1 A.length none)]) (fun y=>[(10, .rows 16 ((U7 b1).map Z3)),(11, .rows 2 ((dz A b1).map Yu)),(13, .rows 1 ((cZ cl (c:Int) x y).map Zg))]) 14 (fun y=>cl.length-y) 0 (by omega) ?_;conv=>whnf
    refine⟨by exact vU.kA h0 [9,10,11,12,13],?_⟩;intro y hy;conv=>whnf
    by_cases au:y<cl.length
    .have gY:∀{m:Nat},m=y->(cl.map Zg)[m]?=some (Zg (cl.getD y 0)):=fun{m} e=>by rw[e,z6,zl,z1 au];rfl
     have gH:∀{m:Nat},m=y->((cZ cl (c:Int) x y).map Zg)[m]?=some (Zg (cl.getD y 0)):=fun e=>by subst e;rw[z6,Zkn au];rfl
     have hvy:=hc.cs (cl.getD y 0) (by rw[zl,z1 au];exact zk au);by_cases Sq:y≠x/\cl.getD y 0=(c:Int)
     .have hst:=Zkm au Sq;repeat'(first|refine gZ.at (gY (by omega)) ?_|refine GET.at (gH (by omega)) ?_|refine AU ?_|refine IW ?_ ?_<;>intro h<;>try omega)<;>conv=>whnf
      refine⟨y+1,by omega,by omega,?_⟩;rw[U4 (x:=y) (by omega),show IntKind.i64.wrap ((c:Int)+1)=(c:Int)+1 from Z9 (by omega) (by omega),hst];conv=>whnf
      exact vU.kA h0 [9,10,11,12,13]
     .have hst:=ZiU Sq;repeat'(first|refine gZ.at (gY (by omega)) ?_|refine AU ?_|refine IW ?_ ?_<;>intro h<;>try omega)<;>conv=>whnf
      refine⟨y+1,by omega,by omega,?_⟩;rw[hst];conv=>whnf
      exact vU.kA h0 [9,10,11,12,13]
    .have G7:y=cl.length:=by omega
     rw[G7,Zkl];have A5:=RN A l z lim none (XO cl (c:Int) x) ⟨by rw[HO,ki],e8,hl,hnd,hmem,fun v hv=>hch x v hv⟩ hpk hz;repeat'(first|refine IW ?_ ?_<;>intro h<;>try omega)<;>conv=>whnf
     refine CALL.aA [0,1,2,3,13,5] (A5) ?_;rintro r O nx ⟨F,hF,rfl,rfl,rfl⟩;obtain⟨bX,nK⟩:=hF.ok;rw[HO]at bX nK;have hih:=ih n1 L1 F (by omega) (by omega) ⟨by rw[bX,ki],fun v hv=>by rw[bX];exact nK v hv⟩ rN;rw[<-od]at hih;obtain⟨s2,hs2⟩:∃s2,s2=Vr A l B k F (n1,L1):=⟨_,rfl⟩;have hge:=HQ (A:=A) (l:=l) (B:=B) k F (n1,L1);have hle2:=RU (A:=A) (l:=l) (B:=B) k F (n1,L1) (by dsimp only;omega);rw[<-hs2]at hih hge hle2;dsimp only at hge;conv=>whnf
     skip
     refine CALL.aA [0,1,2,3,14,5,6,10,11] (hih) ?_;rintro r O nx ⟨rO,rfl,rfl,rfl⟩;obtain⟨b2,aS⟩:∃b2,b2=JV (ZA A l) s2.2:=⟨_,rfl⟩;rw[<-aS];conv=>whnf
     skip
     refine⟨(x+1,s2),⟨by dsimp only;omega,hle2,by dsimp only;omega,rO,by rw[jM,Wb kB,HP hF,<-hs2]⟩,by dsimp only;omega,?_⟩;dsimp only;rw[<-aS];conv=>whnf
     exact vU.kA h0 [9,15,16]
open _root_.Go.Proofs.Tryz
def Zfk:uu:=(Zs [(0,1),(1,1),(2,1),(4,1),(5,1),(6,1),(3,2),(8,1),(7,2),(9,1),(10,1)])
theorem Zj3(b:Int):(if 0< (if b<65536 then b else 65536)then(if b<65536 then b else 65536)else 0)=((jU b:Nat):Int):=by
 unfold jU;by_cases h1:b<65536
 .rw[zf h1];by_cases h2:0<b
  rw[zf h2];omega;rw[z7 h2];omega
 rw[z7 h1,zf (by omega)];omega
set_option maxHeartbeats 16000000 in
theorem Zad(l z:List Qd)(lim:Option Nat)(uG:Int)(lE: -9223372036854775808<=uG/\uG<=9223372036854775807)(hl:JS l)(ql:tJ l)(hz:(l++z).length<=1152921504606846976):
 vS prog uf 14 1 [.sl (.loc 0) 0 16 l.length lim, .int .i64 uG] [] [(0, .rows 16 ((l++z).map Z3))] (Gv l uG):=by
 have hv:=Z6S l z lim hl ql hz;have hnd:(ZQ l).Nodup:=XB qA (X6 qA _);have hmem:∀x∈Zz l,x∈ZQ l:=fun x hx=>(JI _ _).2 hx;refine vS.enter Z0 call14 func14 rfl 45 rfl rfl [.tmp 4, .tmp 5, .tmp 6] rfl ?_;intro w0 F η0 h0;conv=>whnf
 skip
 refine CALL.aA [0] (hv) ?_;rintro r O nx ⟨rfl,rfl,rfl⟩;by_cases he:kJ l=0
 rotate_left
 .conv=>whnf
  repeat'(first|refine IW ?_ ?_<;>intro h<;>try omega)<;>conv=>whnf
  exact u0.aA h0 [] (.uz [.val (.slice none 0 0), .val (.slice none 0 0), .int .i64 (kJ l)]) [] (.inl ⟨he,rfl,rfl,rfl⟩)
 obtain⟨qu,hb⟩:=Gn he;obtain⟨jM,kz⟩:=Wy qu;have hnew:=ZeR l z lim hl kz hb hz;conv=>whnf
 repeat'(first|refine IW ?_ ?_<;>intro h<;>try omega)<;>conv=>whnf
 refine CALL.aA [0] (hnew) ?_;rintro r O nx ⟨rfl,rfl,rfl⟩;obtain⟨A,hA⟩:∃A,A=ZQ l:=⟨_,rfl⟩;rw[<-hA]at hnd hb hmem⊢;have dy:jh A l (List.replicate A.length 0):=⟨by simp,hb,kz,hnd,hmem,fun c hc=>by rw[List.eq_of_mem_replicate hc];omega⟩;have hpk:∀q∈l, ¬q.p.k=2:=fun q hq=>by have:=(Z9N (Z8z qu q hq)).2.2.2.2;omega
 have hR:=RN A l z lim none (List.replicate A.length 0) dy hpk hz;have A6:List.replicate A.length [SV.int .i64 0]=(List.replicate A.length (0:Int)).map Zg:=by rw[x5];rfl
 have kP:=Sk uG;conv=>whnf
 repeat'(first|refine u6.mk (Uw 8 rfl (by omega) (by omega) (by omega) (by omega)) ?_)<;>conv=>whnf
 rw[Int.toNat_natCast,A6];refine CALL.aA [1,0,3,4,6,2] (hR) ?_;rintro r O nx ⟨F,hF,rfl,rfl,rfl⟩;obtain⟨bX,nK⟩:=hF.ok;rw[yK]at bX nK;conv=>whnf
 skip
 have Gw:=Zj3 uG;generalize hB:jU uG=B at Gw kP;have cG:=ZgS A l z lim B kP hb hl kz jM hnd hmem hpk hz (B+1) 0 [] F (by omega) (by omega) ⟨bX,fun c hc=>by rw[bX];exact nK c hc⟩ (fun c hc=>by cases hc);have rD:(B:Int)-((0:Nat):Int)=(B:Int):=by omega
 rw[HR]at cG;simp only[mg,E0,rD]at cG;have fe:JM A l B=Vr A l B (B+1) F (0,[]):=by unfold JM;rw[HP hF]
 have b9:=fun h=>S2 (A:=A) (l:=l) (B:=B) h;rw[<-fe]at cG;generalize hs2:JM A l B=s2 at cG b9;rw[Gw];refine uT.call (uT.trans (uT.w8 5 4 16 rfl rfl) (uT.w8 5 5 2 rfl rfl)) ?_;refine CALL.aA [1,0,3,4,7,2,5,8,9] (cG) ?_;rintro r O nx ⟨rO,rfl,rfl,rfl⟩;by_cases A8:B<s2.1
 .have hQ:Gv l uG (.uz [.val (.slice none 0 0), .val (.slice none 0 0), .int .i64 4]) [] 1:= .inr (.inl ⟨he,by rw[hB,<-hA,hs2];exact A8,rfl,rfl,rfl⟩);rw[yq A8];conv=>whnf
  repeat'(first|refine AU ?_)<;>conv=>whnf
  exact u0.aA h0 [] (.uz [.val (.slice none 0 0), .val (.slice none 0 0), .int .i64 4]) [] hQ
 .obtain⟨c,hc,rP⟩:=HS (ZA A l) (b9 (by omega));have bz:=rO c hc;have hfl:=JX A l c
  have hQ:Gv l uG (.uz [.sl (.loc 1) 0 16 l.length none, .sl (.loc 2) 0 2 A.length none, .int .i64 0]) [(1, .rows 16 ((ZA A l c).map Z3)),(2, .rows 2 ((wC A c).map Yu))] 3:=by
   refine .inr (.inr ⟨he,?_,c,?_,?_,?_,?_,rfl⟩);rw[hB,<-hA,hs2];omega;rw[<-hA];exact bz;rw[hB,<-hA,hs2];exact rP;rw[<-hA];rw[<-hA]
  rw[y5 A8,rP];conv=>whnf
  repeat'(first|(show uq _ _ _ _ _ _ _;first|refine Z4 9 Zfk ?_)|refine AD ?_|refine AU ?_)<;>conv=>whnf
  rw[show U7 (some (ZA A l c,c))=ZA A l c from rfl,show dz A (some (ZA A l c,c))=wC A c from rfl,hfl,XD];exact u0.aA h0 [10,11] (.uz [.sl (.loc 1) 0 16 l.length none, .sl (.loc 2) 0 2 A.length none, .int .i64 0]) [(1, .rows 16 ((ZA A l c).map Z3)),(2, .rows 2 ((wC A c).map Yu))] hQ
open _root_.Go.Proofs.Tryz
def ZcN:uu:=(Zs [(0,1),(1,1),(2,1),(3,1),(5,1),(6,1),(7,1),(4,2),(8,2),(9,1),(10,1),(11,1),(12,1),(13,1),(14,1),(15,1),(16,2),(17,3),(18,1),(19,1)])
def ZcO:uu:=(Zs [(0,1),(1,1),(2,1),(4,1),(5,1),(6,1),(3,2),(7,2),(8,1)])
theorem Sr(X z:List Qd)(lA lB:Option Nat)(h:(X++z).length<=1152921504606846976):vS prog uf 15 2 [.sl (.loc 0) 0 16 X.length lA, .sl (.loc 1) 0 16 X.length lB] [] [(0, .rows 16 ((X++z).map Z3)),(1, .rows 16 (X.map Z3))] (w6 2 (.bool true)):=by
 have hh:=W0 (X++z) X 0 X.length 0 X.length lA lB (by simp) (by simp) h (by rw[zh]at h;omega);rwa [yq (by simp)]at hh
theorem ZgT{A:List LB}{c:List Int}(h:wH A c){x y:Nat}(hx:x<c.length)(hy:y<c.length)(e:gG (c.getD x 0)=gG (c.getD y 0)):x=y:=by
 unfold gG at e;injection e with _ e;have e5:=FC e;have m:∀z,z<c.length->c.getD z 0∈c:=fun z hz=>by rw[zl,z1 hz];exact zk hz
 have c1:=(h.cs _ (m x hx)).1;have c2:=(h.cs _ (m y hy)).1;exact S7 h hx hy (by omega)
theorem Z8V(A:List LB)(l:List Qd)(c:List Int)(hA:A=ZQ l)(bz:wH A c)(e8:A.length<=4096)(hl:JS l)(hr:wQ ZP l)(hnd:A.Nodup)(hmem:∀s∈Zz l,s∈A):
 vS prog uf 16 3 [.sl (.loc 0) 0 16 l.length none, .sl (.loc 1) 0 2 A.length none, .sl (.loc 2) 0 16 l.length none] [] [(0, .rows 16 (l.map Z3)),(1, .rows 2 ((wC A c).map Yu)),(2, .rows 16 ((ZA A l c).map Z3))] (w6 3 (.bool true)):=by
 have hq:=hl;unfold JS at hq;have ki:=bz.cn;have kP:=VI l [] none hl (by simp;omega);have Qi:=Sn l [] none (wC A c) [] none hl (by simp;omega) (by rw[zP,XD];omega);rw[zP]at kP Qi;rw[zP,S8 bz hnd hr hmem,XD]at Qi;have hfl:=JX A l c;have iq:=Sr (ZA A l c) [] none none (by rw[zP,hfl];omega);rw[zP,hfl]at iq;obtain⟨Ts,nF⟩:∃Ts,Ts=(List.range A.length).map fun x=>gG (c.getD x 0):=⟨_,rfl⟩;have HD:Ts.length=A.length:=by rw[nF];simp
 have A9:∀i (h:i<Ts.length),Ts[i]=gG (c.getD i 0):=fun i h=>by subst nF;simp
 have hTn:∀i (h:i<Ts.length),Ts[i]∉Ts.take i:=fun i h hm=>by
  obtain⟨j,hj,he⟩:=yM.1 hm;rw[zq]at hj;rw[xR,A9,A9]at he;have:=ZgT bz (by omega) (by omega) he;omega
 refine vS.enter Z0 call16 func16 rfl 55 rfl rfl [.tmp 6] rfl ?_;intro w0 F η0 h0;conv=>whnf
 skip
 refine CALL.aA [0] (kP) ?_;rintro r O nx ⟨rfl,rfl,rfl⟩;have wK:wj Our.cmpL (Zz l)=A:=by rw[hA]
 rw[wK];conv=>whnf
 repeat'(first|refine IW ?_ ?_<;>intro h<;>try omega)<;>conv=>whnf
 refine vZ.kj Z0 [0,1,2,7,8] [] (X:=Nat) (fun i=>i<=A.length) (fun i=>[(9, .int .i64 (i:Int))]) (fun i=>[(3, .rows 1 (A.map Ze)),(4, .mp (qb (Xd 1 (Ts.take i) [])))]) 5 (fun i=>A.length-i) 0 (by omega) ?_;conv=>whnf
 refine⟨by exact vU.kA h0 [3,4],?_⟩;intro i hi;conv=>whnf
 by_cases hil:i<A.length
 .have hp:i< (wC A c).length:=by rw[XD];exact hil
  have gP:∀{m:Nat},m=i->((wC A c).map Yu)[m]?=some [.str A[i], .str (gG (c.getD i 0))]:=fun{m} e=>by rw[e,z6,z1 hp,Qg hil hp];rfl
  have gA:∀{m:Nat},m=i->(A.map Ze)[m]?=some (Ze A[i]):=fun{m} e=>by rw[e,z6,z1 hil];rfl
  have hsu:=Z9O (v:=1) (m:=[]) (show i<Ts.length by omega);have hni:=hTn i (by omega);rw[A9 i (by omega)]at hsu hni;generalize gG (c.getD i 0)=t at gP hsu hni;generalize Ts.take i=T at hsu hni⊢
  have hno:∀{j v},jb t (Xd 1 T [])=some (j,v)->False:=fun{j v} hf=>by
   have h1:=LK 1 t T [];rw[z7 hni,Kq hf]at h1;cases h1
  repeat'(first|(show uq _ _ _ _ _ _ _;first|refine Z4 8 ZcN ?_)|refine wh.mk (fun _ _=>?_)|refine GET.at (gP (by omega)) ?_|refine GET.at (gA (by omega)) ?_|refine u6.mk ⟨KT.ok _,JR KT _ _⟩ ?_|refine eu.A KT jC t _ (fun _ _ hf=>(hno hf).elim) (fun hf=>?_)|refine AU ?_|refine IW ?_ ?_<;>intro h<;>try omega)<;>conv=>whnf
  all_goals
   first|rw[B3,<-hsu]|rw[B4,<-hsu]
   refine⟨i+1,by omega,by omega,?_⟩;conv=>whnf
   exact vU.kA h0 [3,4]
 have hie:i=A.length:=by omega
 subst hie;repeat'(first|refine IW ?_ ?_<;>intro h<;>try omega)<;>conv=>whnf
 refine CALL.aA [0,1] (Qi) ?_;rintro r O nx ⟨rfl,rfl,rfl⟩;rw[hfl];conv=>whnf
 skip
 refine CALL.aA [5,2] (iq) ?_;rintro r O nx ⟨rfl,rfl,rfl⟩;conv=>whnf
 skip
 exact u0.ua h0 rfl rfl
theorem Ss:vS prog uf 15 0 [.val (.slice none 0 0), .val (.slice none 0 0)] [] [] (uN (.bool true)):=by
 refine vS.enter Z0 call15 func15 rfl 26 rfl rfl [.tmp 4] rfl ?_;intro w0 F η0 h0;conv=>whnf
 repeat'(first|refine IW ?_ ?_<;>intro h<;>try omega)<;>conv=>whnf
 refine vZ.once Z0 ?_;conv=>whnf
 repeat'(first|refine IW ?_ ?_<;>intro h<;>try omega)<;>conv=>whnf
 exact u0.value h0 rfl rfl
theorem Zj4{C L:List Pr}{k:Nat}{row:List SV}(h:C.length<L.length)(hk:k=C.length)(hr:row=Yu ([],[])):((C++L.drop C.length).map Yu).set k row=((C++ [([],[])])++L.drop (C++ [(([]:LB),([]:LB))]).length).map Yu:=by
 subst hk hr;exact FN Yu ([],[]) h
set_option maxHeartbeats 16000000 in
theorem Z78(l:List Qd)(uG:Int)(lE: -9223372036854775808<=uG/\uG<=9223372036854775807)(hl:JS l)(ql:tJ l):vS prog uf 4 1 [.sl (.loc 0) 0 16 l.length none, .int .i64 uG] [] [(0, .rows 16 (l.map Z3))] (w6 1 (.bool true)):=by
 have hq:=hl;unfold JS at hq;have hC:=ZcL l [YV,YV] none uG lE hl ql (by simp;omega);have hR:=Zad l [] none uG lE hl ql (by simp;omega);have hK:=Ze3 l hl;rw[zP]at hR;have hnd:(ZQ l).Nodup:=XB qA (X6 qA _);have hmem:∀x∈Zz l,x∈ZQ l:=fun x hx=>(JI _ _).2 hx;refine vS.enter Z0 call4 func4 rfl 114 rfl rfl [.tmp 4] rfl ?_;intro w0 F η0 h0;conv=>whnf
 skip
 refine CALL.aA [0] (ZbT l hl) ?_;rintro r O nx ⟨rfl,rfl,rfl⟩;conv=>whnf
 skip
 refine CALL.aA [1] (hC) ?_;rintro r O nx (⟨h1,rfl,rfl,rfl⟩|⟨h1,h2,rfl,rfl,rfl⟩|⟨h1,h2,c,bz,rP,rfl,rfl,rfl⟩)
 .conv=>whnf
  skip
  refine CALL.aA [1] (hC) ?_;rintro r O nx (⟨g1,rfl,rfl,rfl⟩|⟨g1,g2,rfl,rfl,rfl⟩|⟨g1,g2,_⟩);all_goals first|(exfalso;omega)|skip
  conv=>whnf
  skip
  refine CALL.aA [0] (hR) ?_;rintro r O nx (⟨g3,rfl,rfl,rfl⟩|⟨g3,g4,rfl,rfl,rfl⟩|⟨g3,g4,_⟩);all_goals first|(exfalso;omega)|skip
  conv=>whnf
  repeat'(first|refine CALL.value (Ss) rfl rfl ?_|refine AU ?_|refine IW ?_ ?_<;>intro h<;>try omega)<;>conv=>whnf
  refine CALL.aA [0,1] (hK) ?_;rintro r O nx ⟨rfl,rfl,rfl⟩;conv=>whnf
  repeat'(first|refine AU ?_|refine IW ?_ ?_<;>intro h<;>try omega)<;>conv=>whnf
  all_goals first|(exfalso;omega)|exact u0.ua h0 rfl rfl
 .conv=>whnf
  skip
  refine CALL.aA [1] (hC) ?_;rintro r O nx (⟨g1,rfl,rfl,rfl⟩|⟨g1,g2,rfl,rfl,rfl⟩|⟨g1,g2,_⟩);all_goals first|(exfalso;omega)|skip
  conv=>whnf
  skip
  refine CALL.aA [0] (hR) ?_;rintro r O nx (⟨g3,rfl,rfl,rfl⟩|⟨g3,g4,rfl,rfl,rfl⟩|⟨g3,g4,_⟩);all_goals first|(exfalso;omega)|skip
  conv=>whnf
  repeat'(first|refine CALL.value (Ss) rfl rfl ?_|refine AU ?_|refine IW ?_ ?_<;>intro h<;>try omega)<;>conv=>whnf
  refine CALL.aA [0,1] (hK) ?_;rintro r O nx ⟨rfl,rfl,rfl⟩;conv=>whnf
  repeat'(first|refine AU ?_|refine IW ?_ ?_<;>intro h<;>try omega)<;>conv=>whnf
  all_goals first|(exfalso;omega)|exact u0.ua h0 rfl rfl
 obtain⟨qu,e8⟩:=Gn h1;obtain⟨jM,kz⟩:=Wy qu;have iw:=Z8V (ZQ l) l c rfl bz e8 hl jM hnd hmem;have hfl:=JX (ZQ l) l c;have ki:=bz.cn;have iq:=Sr (ZA (ZQ l) l c) [] none none (by rw[zP,hfl];omega);rw[zP,hfl]at iq;have hOv:=Zc2 (ZA (ZQ l) l c) l.length (by omega) none (by omega) (by omega) (.inl rfl);conv=>whnf
 skip
 refine CALL.aA [1] (hC) ?_;rintro r O nx (⟨g1,_⟩|⟨g1,g2,_⟩|⟨g1,g2,c2,gLf,E2,rfl,rfl,rfl⟩);exact(g1 h1).elim;omega;rw[rP]at E2;injection E2 with E2;obtain rfl:c=c2:=(Prod.mk.inj E2).2;conv=>whnf
 skip
 refine CALL.aA [0] (hR) ?_;rintro r O nx (⟨g3,_⟩|⟨g3,g4,_⟩|⟨g3,g4,c3,z8B,lG,rfl,rfl,rfl⟩);exact(g3 h1).elim;omega;rw[rP]at lG;injection lG with lG;obtain rfl:c=c3:=(Prod.mk.inj lG).2;obtain⟨P,hP⟩:∃P,P=wC (ZQ l) c:=⟨_,rfl⟩;have HA:P.length=(ZQ l).length:=by rw[hP,XD]
 rw[<-hP]at iw⊢;conv=>whnf
 repeat'(first|refine AU ?_|refine IW ?_ ?_<;>intro h<;>try omega)<;>conv=>whnf
 refine CALL.aA [2,6] (iq) ?_;rintro r O nx ⟨rfl,rfl,rfl⟩;conv=>whnf
 repeat'(first|refine AU ?_|refine IW ?_ ?_<;>intro h<;>try omega)<;>conv=>whnf
 refine CALL.aA [4,6] (iq) ?_;rintro r O nx ⟨rfl,rfl,rfl⟩;conv=>whnf
 repeat'(first|refine AU ?_|refine IW ?_ ?_<;>intro h<;>try omega)<;>conv=>whnf
 refine CALL.aA [0,1] (hK) ?_;rintro r O nx ⟨rfl,rfl,rfl⟩;conv=>whnf
 repeat'(first|refine AU ?_|refine IW ?_ ?_<;>intro h<;>try omega)<;>conv=>whnf
 refine vZ.kj Z0 [0,6,7,9,10,12] [] (X:=Nat) (fun i=>i<=(ZQ l).length) (fun i=>[(15, .int .i64 (i:Int))]) (fun i=>[(2, .rows 16 ((ZA (ZQ l) l c).map Z3)),(3, .rows 2 (P.map Yu)),(4, .rows 16 ((ZA (ZQ l) l c).map Z3)),(5, .rows 2 (P.map Yu)),(6, .rows 16 ((ZA (ZQ l) l c).map Z3))]) 8 (fun i=>(ZQ l).length-i) 0 (by omega) ?_;conv=>whnf
 refine⟨by exact vU.kA h0 [1,2,3,4,5,6,7],?_⟩;intro i hi;conv=>whnf
 by_cases hil:i< (ZQ l).length
 .have gP:∀{m:Nat},m=i->(P.map Yu)[m]?=some (Yu (P[i]'(by omega))):=fun{m} e=>by rw[e,z6,z1 (show i<P.length by omega)];rfl
  repeat'(first|(show uq _ _ _ _ _ _ _;first|refine Z4 12 ZcO ?_)|refine GET.at (gP (by omega)) ?_|refine AU ?_|refine IW ?_ ?_<;>intro h<;>try omega)<;>conv=>whnf
  all_goals first
   |(exfalso;simp at h;done)
   |(refine⟨i+1,by omega,by omega,?_⟩;(conv=>whnf);exact vU.kA h0 [1,2,3,4,5,6,7])
   |trace_state
 have hie:i=(ZQ l).length:=by omega
 rw[hie];repeat'(first|refine IW ?_ ?_<;>intro h<;>try omega)<;>conv=>whnf
 refine CALL.aA [0,3,6] (iw) ?_;rintro r O nx ⟨rfl,rfl,rfl⟩;conv=>whnf
 repeat'(first|refine IW ?_ ?_<;>intro h<;>try omega)<;>conv=>whnf
 refine CALL.aA [2] (hOv) ?_;rintro r O nx ⟨rfl,rfl,rfl⟩;conv=>whnf
 skip
 refine vZ.kj Z0 [0,7,9,10,12] [] (X:=List Pr) (fun C=>C.length<=P.length) (fun C=>[(16, .int .i64 (C.length:Int))]) (fun C=>[(3, .rows 2 ((C++P.drop C.length).map Yu)),(4, .rows 16 ((ZA (ZQ l) l c).map Z3)),(5, .rows 2 (P.map Yu)),(6, .rows 16 ((ZA (ZQ l) l c).map Z3))]) 8 (fun C=>P.length-C.length) [] (by simp) ?_;conv=>whnf
 refine⟨by exact vU.kA h0 [1,2,3,4,5,6,7],?_⟩;intro C hC;conv=>whnf
 by_cases nZ:C.length<P.length
 .have hg:∀{m:Nat},m=C.length->((C++P.drop C.length).map Yu)[m]?=some (Yu (P[C.length]'(by omega))):=fun{m} e=>by rw[e];exact rB Yu (zo _) (by omega)
  repeat'(first|refine GET.at (hg (by omega)) ?_|refine AU ?_|refine IW ?_ ?_<;>intro h<;>try omega)<;>conv=>whnf
  refine⟨C++ [([],[])],by simp;omega,by simp;omega,?_⟩;rw[Zj4 nZ (by omega) (by rfl)];conv=>whnf
  exact vU.kA h0 [1,2,3,4,5,6,7]
 repeat'(first|refine IW ?_ ?_<;>intro h<;>try omega)<;>conv=>whnf
 refine CALL.aA [4,6] (iq) ?_;rintro r O nx ⟨rfl,rfl,rfl⟩;conv=>whnf
 repeat'(first|refine AU ?_)<;>conv=>whnf
 refine CALL.aA [0,5,6] (iw) ?_;rintro r O nx ⟨rfl,rfl,rfl⟩;conv=>whnf
 skip
 exact u0.ua h0 rfl rfl
end Go.Proofs.YtlcbipfmodcedaaGreatDoor
