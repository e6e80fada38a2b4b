import Derived.Test.YtlcbipfmodcedaaGreatDoorTxt6
set_option linter.unusedVariables false
set_option linter.unusedSimpArgs false
set_option maxRecDepth 20000
set_option maxHeartbeats 8000000
namespace Go.Proofs.YtlcbipfmodcedaaGreatDoor
open Go.Sx Go.Our
open _root_.Go.Proofs.Tryz
theorem Kr(a:BitVec 32):BitVec.ofInt 32 (a.toNat:Int)=a:=by rw[BitVec.ofInt_natCast];simp
theorem EH(a:Nat)(h:a<4294967296):IntKind.u32.wrap (a:Int)=(a:Int):=by rw[IntKind.wrap_u32'];omega
theorem Al(a b:BitVec 32):ox .u32 (Uw a) (Uw b)=Uw (a^^^b):=by
 show IntKind.u32.wrap ((BitVec.ofInt 32 (a.toNat:Int)^^^BitVec.ofInt 32 (b.toNat:Int)).toNat:Int)=_
 rw[Kr,Kr];exact EH _ (a^^^b).isLt
theorem Zmt(a b:BitVec 32):kr .u32 (Uw a) (Uw b)=Uw (a&&&b):=by
 show IntKind.u32.wrap ((BitVec.ofInt 32 (a.toNat:Int)&&&BitVec.ofInt 32 (b.toNat:Int)).toNat:Int)=_
 rw[Kr,Kr];exact EH _ (a&&&b).isLt
theorem Fl(a b:BitVec 32):oV .u32 (Uw a) (Uw b)=Uw (a|||b):=by
 show IntKind.u32.wrap ((BitVec.ofInt 32 (a.toNat:Int)|||BitVec.ofInt 32 (b.toNat:Int)).toNat:Int)=_
 rw[Kr,Kr];exact EH _ (a|||b).isLt
theorem Zmu(a:BitVec 32):ox .u32 (bif IntKind.u32.signed then-1 else IntKind.u32.max) (Uw a)=Uw (~~~a):=by
 have h:(bif IntKind.u32.signed then-1 else IntKind.u32.max)=Uw (BitVec.allOnes 32):=by decide
 rw[h,Al,BitVec.xor_comm,BitVec.xor_allOnes]
theorem Am(a b:BitVec 32):IntKind.u32.wrap (Uw a+Uw b)=Uw (a+b):=by
 unfold Uw;rw[BitVec.toNat_add,IntKind.wrap_u32',<-Int.natCast_add]
 rfl
theorem EI(a:BitVec 32)(n:Int)(h:0<=n/\n<=32):je .u32 (Uw a) n=Uw (a>>>n.toNat):=by
 obtain⟨m,rfl⟩:=uN h.1;unfold je Uw;rw[Int.toNat_natCast,yQ (by show m<=32;omega),show(2:Int)^m=((2^m:Nat):Int)by norm_cast,vM _ (Int.natCast_nonneg _)];simp only[BitVec.toNat_ushiftRight,Nat.shiftRight_eq_div_pow]
 norm_cast
theorem SM(a:BitVec 32)(n:Int)(h:0<=n/\n<=32):ax .u32 (Uw a) n=Uw (a<<<n.toNat):=by
 obtain⟨m,rfl⟩:=uN h.1;unfold ax Uw;rw[Int.toNat_natCast,yQ (by show m<=32;omega),show(2:Int)^m=((2^m:Nat):Int)by norm_cast,IntKind.wrap_u32'];rw[BitVec.toNat_shiftLeft,Nat.shiftLeft_eq,<-Int.natCast_mul]
 rfl
theorem ZlF(c:UInt8):IntKind.u32.wrap (c.toNat:Int)=Uw (BitVec.ofNat 32 c.toNat):=by
 have:c.toNat<256:=c.toBitVec.isLt;unfold Uw;rw[EH _ (by omega),BitVec.toNat_ofNat,xy (by omega)]
def ep(x:BitVec 32):List SV:=[.int .u32 (Uw x)]
def An(s:S8):List SV:=[.int .u32 (Uw s.a), .int .u32 (Uw s.b), .int .u32 (Uw s.c), .int .u32 (Uw s.d), .int .u32 (Uw s.e), .int .u32 (Uw s.f), .int .u32 (Uw s.g), .int .u32 (Uw s.h)]
def Ks(s:S8):List (List SV):=[[.int .u32 (Uw s.a)],[.int .u32 (Uw s.b)],[.int .u32 (Uw s.c)],[.int .u32 (Uw s.d)],[.int .u32 (Uw s.e)],[.int .u32 (Uw s.f)],[.int .u32 (Uw s.g)],[.int .u32 (Uw s.h)]]
theorem Fm(l:List (BitVec 32)):Zp (l.map ep)=true:=ZH _ (fun _=>rfl) l
instance :PlF ep:=⟨fun _=>rfl⟩
theorem E1:∀n:Fin 32,0<n.val->kr .u64 (IntKind.u64.wrap (IntKind.i64.wrap (0-(n.val:Int)))) 31=((32-n.val:Nat):Int):=by decide
theorem SN(x:BitVec 32)(n:Int)(hn:0<n/\n<32):uX prog wD 130 0 [.int .u32 (Uw x), .int .i64 n] [] [] (qd (.int .u32 (Uw (dn x n.toNat)))):=by
 have h1:kr .u64 (IntKind.u64.wrap (IntKind.i64.wrap (0-n))) 31=32-n:=by
  have:=E1 ⟨n.toNat,by omega⟩ (by show 0<n.toNat;omega);simp only at this;rw[show((n.toNat:Nat):Int)=n by omega]at this;rw[this];omega
 have h2:IntKind.u64.wrap (32-(32-n))=n:=by rw[IntWalk.u64_in _ ⟨by omega,by omega⟩];omega
 have hr:uX prog wD 179 0 [.int .u32 (Uw x), .int .i64 (IntKind.i64.wrap (0-n))] [] [] (qd (.int .u32 (Uw (dn x n.toNat)))):=by
  refine uX.enter Z0 call179 func179 rfl 17 rfl rfl [.tmp 4] rfl ?_;intro w0 F η0 h0;conv=>whnf
  rw[h1];repeat'(first|rw[h2]|refine AU ?_)<;>conv=>whnf
  refine wh.value h0 rfl (ze (SV.int _) ?_);rw[SM _ _ ⟨by omega,by omega⟩,EI _ _ ⟨by omega,by omega⟩,Fl,BitVec.or_comm];unfold dn;rw[show(32-n).toNat=32-n.toNat by omega]
 refine uX.enter Z0 call130 func130 rfl 9 rfl rfl [.tmp 4] rfl ?_;intro w0 F η0 h0;conv=>whnf
 repeat'(first|refine CALL.value (hr) rfl rfl ?_)<;>conv=>whnf
 exact wh.value h0 rfl rfl
end Go.Proofs.YtlcbipfmodcedaaGreatDoor
namespace Go.Proofs.YtlcbipfmodcedaaGreatDoor
open Go.Sx Go.Our
open _root_.Go.Proofs.Tryz
def Ao:wP:=(Zr [(0,1),(1,1),(2,1),(4,1),(5,1),(6,1),(3,2),(8,1),(7,2),(9,1)])
def Ap:wP:=(Zr [(0,1),(1,1),(3,1),(6,1),(7,1),(9,1),(10,1),(11,1),(14,1),(16,1),(19,1),(20,1),(23,1),(24,1),(25,1),(12,2),(26,2),(2,3),(4,3),(5,1),(8,1),(13,1),(15,3),(17,3),(18,1),(21,1),(22,1),(27,1),(28,1),(29,0)])
def Aq:wP:=(Zr [(0,1),(2,1),(1,2),(4,1),(3,2),(5,1)])
def Ar:wP:=(Zr [(0,1),(2,1),(4,1),(7,1),(11,1),(12,1),(15,1),(16,1),(17,1),(22,1),(23,1),(26,1),(27,1),(1,2),(13,2),(14,1),(18,2),(19,1),(20,1),(24,2),(28,2),(3,3),(5,3),(6,1),(8,3),(9,1),(10,1),(21,1),(25,1),(29,1),(30,1)])
def As:wP:=(Zr [(0,1),(2,1),(5,1),(8,1),(9,1),(12,1),(13,1),(17,1),(19,1),(10,2),(11,1),(14,2),(15,1),(16,1),(18,2),(20,2),(21,1),(22,1),(1,3),(3,3),(4,1),(6,3),(7,1),(23,1),(24,1)])
def Au:wP:=(Zr [(0,1),(1,1),(3,1),(4,1),(2,2),(5,2),(6,1),(7,1),(8,0)])
theorem ZlG(a:BitVec 32):ax .u32 (Uw a) 8=Uw (a<<<8):=SM a 8 (by decide)
theorem ZjS(a:BitVec 32):je .u32 (Uw a) 10=Uw (a>>>10):=EI a 10 (by decide)
theorem ZlH(a:BitVec 32):je .u32 (Uw a) 3=Uw (a>>>3):=EI a 3 (by decide)
theorem UJ{K:Env}{es:Nat}{rs:List (List SV)}{v:Value}(h:Den K (.arr es rs) v):Den K (.agg rs.flatten) v:=by
 simp only[Den]at h⊢;obtain⟨vs,h1,h2,h3⟩:=h;exact⟨vs,h1,XI h2,h3⟩
theorem wh.Qt{M:Mx}{O:w9}{nx k es:Nat}{rs:List (List SV)}{Q:SV->w9->Nat->Prop}(hk:M.η0.length=k)(hp:YM rs.flatten=true)(hQ:Q (.agg rs.flatten) [] k):wh M O nx (.arr es rs) Q:=
 ⟨fun K w v H hd=>(wh.val (r:= .agg rs.flatten) hk hp hQ).out K w v H (UJ hd)⟩
def L8(s:S8):List (BitVec 32):=[s.a,s.b,s.c,s.d,s.e,s.f,s.g,s.h]
def Qu(s v:S8)(i:Nat):List (BitVec 32):=(L8 (Fk s v)).take i++(L8 s).drop i
theorem ZfK{s v:S8}{i:Nat}(h:i<=8):(Qu s v i).length=8:=by simp[Qu,L8];omega
theorem ZfL(s v:S8){i:Nat}(h:i<8):(Qu s v i).getD i 0=(L8 s).getD i 0:=by
 match i,h with
 |0,_=>rfl
 |1,_=>rfl
 |2,_=>rfl
 |3,_=>rfl
 |4,_=>rfl
 |5,_=>rfl
 |6,_=>rfl
 |7,_=>rfl
theorem ZfM(s v:S8){i:Nat}(h:i<8):(Qu s v i).set i ((L8 s).getD i 0+(L8 v).getD i 0)=Qu s v (i+1):=by
 match i,h with
 |0,_=>rfl
 |1,_=>rfl
 |2,_=>rfl
 |3,_=>rfl
 |4,_=>rfl
 |5,_=>rfl
 |6,_=>rfl
 |7,_=>rfl
def z8:List (List SV):=[[.int .u32 0],[.int .u32 0],[.int .u32 0],[.int .u32 0],[.int .u32 0],[.int .u32 0],[.int .u32 0],[.int .u32 0]]
theorem SO{b:List UInt8}{i:Nat}(h:i<b.length):(b.map Sx.bytesRow)[i]?=some (Sx.bytesRow (b.getD i 0)):=by
 simp[zl,z1 h]
theorem tQ{ws:List (BitVec 32)}{i:Nat}(h:i<ws.length):(ws.map ep)[i]?=some (ep (ws.getD i 0)):=by
 simp[zl,z1 h]
theorem ZjT(b:List UInt8)(r i:Nat):bw (b.drop r) i=BitVec.ofNat 32 (b.getD (r+i) 0).toNat:=by
 unfold bw;rw[zl,y8,zl]
theorem Av(ws:List (BitVec 32))(i:Nat)(x:BitVec 32):(ws.map ep).set i [.int .u32 (Uw x)]=(ws.set i x).map ep:=by rw[xQ];rfl
theorem ZfO(b:List UInt8){t:Nat}(ht:t<64):(fH b t).set t 0=fH b t:=by
 unfold fH;rw[xh _ _ (by rw[Vt];exact zo _),Vt,xS,show 64-t=(64-(t+1))+1 by omega,List.replicate_succ,List.set_cons_zero]
theorem SP(b:List UInt8){t i:Nat}(h:i<t)(ht:t<=64):(fH b t).getD i 0=(U5 b t).getD i 0:=by
 rw[zl,Zhz b h ht];rfl
theorem SQ(s:S8)(b:List UInt8)(r n:Nat)(hr:r+n<=b.length)(hn:64<=n)(hb:b.length<=140737488355328):uX prog wD 95 1 [.agg (An s), .sl (.loc 0) r 1 n none] [] [(0, .rows 1 (b.map Sx.bytesRow))] (qE 1 (.agg (An (tO s (b.drop r))))):=by
 refine uX.enter Z0 call95 func95 rfl 179 rfl rfl [.cell 4 158] rfl ?_;intro w0 F η0 h0;conv=>whnf
 repeat'(first|refine AU ?_|refine IW ?_ ?_<;>intro h<;>try omega)<;>conv=>whnf
 refine wj.go Z0 [1,2,4,5] (X:=Nat×List (BitVec 32)) (fun x=>x.1<=64/\x.2=fH (b.drop r) x.1) (fun x=>[(18, .int .i64 (x.1:Int))]) (fun x=>[(1, .rows 1 (Ks s)),(2, .rows 1 z8),(3, .rows 1 (x.2.map ep))]) 4 (fun x=>64-x.1) (0,fH (b.drop r) 0) ⟨by simp,rfl⟩ ?_;conv=>whnf
 refine⟨by(refine w5.qn h0 rfl rfl rfl (by first|rfl|simp[Zj,Zi,Z2,ZH,YM,plain]) ?_ ?_<;>(repeat'(first|(exact ze (Hp.rows _) rfl)|(with_reducible rfl)|(exact ze (fun n=>SV.sl _ _ _ n _) (by simp))|(exact ze (Hp.rows _) (by simp))|(exact ze (SV.int _) (by first|omega|(simp(disch:=omega) only[qL,Z5,Zn]<;>omega)|(simp;done)|(simp<;>omega)))|((conv=>whnf);refine⟨?_,?_⟩)|exact trivial|(simp;done)|rfl))),?_⟩;rintro⟨t,ws⟩ ⟨ht,lZ⟩;dsimp only at ht lZ⊢;have oe:ws.length=64:=by rw[lZ,Zhy _ ht]
 conv=>whnf
 refine IF.mk (fun h=>?_) (fun h=>?_)
 .have h:t<64:=by simp at h;omega
  conv=>whnf
  refine IF.mk (fun h1=>?_) (fun h1=>?_)
  .have h1:t<16:=by simp at h1;omega
   have hw4:IntKind.i64.wrap (4*(t:Int))=((4*t:Nat):Int):=by rw[Z5 (by omega) (by omega)];omega
   have hw5:IntKind.i64.wrap (((4*t:Nat):Int)+4)=((4*t+4:Nat):Int):=by rw[Z5 (by omega) (by omega)];omega
   conv=>whnf
   rw[hw4,hw5];refine wm.mk ⟨by omega,by omega,by show _<=((n:Nat):Int);omega⟩ ?_;rw[show((4*t+4:Nat):Int).toNat-((4*t:Nat):Int).toNat=4 by omega,show((4*t:Nat):Int).toNat=4*t by omega];conv=>whnf
   refine wj.go Z0 [1,2,4,5,6,18,29,30] (X:=Nat×List (BitVec 32)) (fun x=>x.1<=4/\x.2=ws.set t (pw (b.drop r) t x.1)) (fun x=>[(31, .int .i64 (x.1:Int))]) (fun x=>[(1, .rows 1 (Ks s)),(2, .rows 1 z8),(3, .rows 1 (x.2.map ep))]) 4 (fun x=>4-x.1) (0,ws) ⟨by simp,by rw[lZ];exact(ZfO _ h).symm⟩ ?_;conv=>whnf
   refine⟨by exact w5.cA h0,?_⟩;rintro⟨j,vs⟩ ⟨hj,hvs⟩;dsimp only at hj hvs⊢;conv=>whnf
   refine IF.mk (fun h2=>?_) (fun h2=>?_)
   .have h2:j<4:=by simp at h2;omega
    have hvl:vs.length=64:=by rw[hvs,xE,oe]
    have hvt:vs.getD t 0=pw (b.drop r) t j:=by rw[hvs,zl,vu (by omega)];rfl
    conv=>whnf
    repeat'(first|refine GET.at (row:=Sx.bytesRow (b.getD (r+(4*t+j)) 0)) (by rw[show r+4*t+(j:Int).toNat=r+(4*t+j)by omega];exact SO (by omega)) ?_|refine GET.at (row:=ep (vs.getD t 0)) (by rw[show(t:Int).toNat=t by omega];exact tQ (by omega)) ?_|refine AU ?_|refine IW ?_ ?_<;>intro h<;>try omega)<;>conv=>whnf
    refine⟨(j+1,vs.set t (pw (b.drop r) t (j+1))),⟨by simp only;omega,by simp only[hvs,List.set_set]⟩,by simp only;omega,?_⟩;dsimp only;conv=>whnf
    (refine w5.qn h0 rfl rfl rfl (by first|rfl|(simp only[Zj,Zi,Z2 _ (Fm _),zD,zG]<;>rfl)) ?_ ?_<;>(repeat'(first|(with_reducible rfl)|(exact Ya rfl (by first|(simp;done)|omega|(simp;omega)))|(exact ze (SV.int _) (by first|omega|(simp(disch:=omega) only[qL,Z5,Zn]<;>omega)|(simp;done)|(simp<;>omega)))|(exact ze (Hp.rows _) (by(rw[ZlF,ZlG,Fl,Av,hvt];simp only[pw,ZjT];rfl)))|((conv=>whnf);refine⟨?_,?_⟩)|exact trivial|rfl)))
   .have h2:j=4:=by simp at h2;omega
    subst h2;conv=>whnf
    refine⟨(t+1,fH (b.drop r) (t+1)),⟨by simp only;omega,rfl⟩,by simp only;omega,?_⟩;dsimp only;conv=>whnf
    (refine w5.qn h0 rfl rfl rfl (by first|rfl|(simp only[Zj,Zi,Z2 _ (Fm _),zD,zG]<;>rfl)) ?_ ?_<;>(repeat'(first|(with_reducible rfl)|(exact Ya rfl (by first|(simp;done)|omega|(simp;omega)))|(exact ze (SV.int _) (by first|omega|(simp(disch:=omega) only[qL,Z5,Zn]<;>omega)|(simp;done)|(simp<;>omega)))|(exact ze (Hp.rows _) (by(rw[hvs,lZ];exact ze (List.map ep) (SI _ h _ (by unfold tN;rw[zh h1,pw4])))))|((conv=>whnf);refine⟨?_,?_⟩)|exact trivial|rfl)))
  .have h1:16<=t:=by simp at h1;omega
   have hg:∀i,i<t->(ws.map ep)[i]?=some (ep ((U5 (b.drop r) t).getD i 0)):=fun i hi=>by rw[tQ (by omega),lZ,SP _ hi ht]
   have SR:((t:Nat):Int).toNat=t:=by omega
   have gl:∀X,X=tN (b.drop r) (U5 (b.drop r) t) t->(ws.map ep).set t [.int .u32 (Uw X)]=(fH (b.drop r) (t+1)).map ep:=fun X hX=>by rw[Av,lZ,SI _ h X hX]
   have h15:(IntKind.i64.wrap ((t:Int)-15)).toNat=t-15:=by rw[Z5 (by omega) (by omega)];omega
   have h2:(IntKind.i64.wrap ((t:Int)-2)).toNat=t-2:=by rw[Z5 (by omega) (by omega)];omega
   have h7:(IntKind.i64.wrap ((t:Int)-7)).toNat=t-7:=by rw[Z5 (by omega) (by omega)];omega
   have h16:(IntKind.i64.wrap ((t:Int)-16)).toNat=t-16:=by rw[Z5 (by omega) (by omega)];omega
   conv=>whnf
   repeat'(first|refine Z3 11 Ao ?_|refine Z3 12 Ap ?_|refine Z3 18 Aq ?_|refine Z3 19 Ar ?_|refine Z3 20 As ?_|refine Z3 26 Au ?_|refine qJ.mk (fun _ _=>?_)|refine AD ?_|refine j9.mk ?_ ?_|refine CALL.value (SN _ _ (by decide)) rfl rfl ?_|refine GET.at (row:=ep ((U5 (b.drop r) t).getD (t-15) 0)) (by rw[h15];exact hg _ (by omega)) ?_|refine GET.at (row:=ep ((U5 (b.drop r) t).getD (t-2) 0)) (by rw[h2];exact hg _ (by omega)) ?_|refine GET.at (row:=ep ((U5 (b.drop r) t).getD (t-7) 0)) (by rw[h7];exact hg _ (by omega)) ?_|refine GET.at (row:=ep ((U5 (b.drop r) t).getD (t-16) 0)) (by rw[h16];exact hg _ (by omega)) ?_|refine GET.at (row:=ep (ws.getD t 0)) (by rw[show(t:Int).toNat=t by omega];exact tQ (by omega)) ?_|refine AU ?_|refine IW ?_ ?_<;>intro h<;>try omega)<;>conv=>whnf
   refine⟨(t+1,fH (b.drop r) (t+1)),⟨by simp only;omega,rfl⟩,by simp only;omega,?_⟩;dsimp only;conv=>whnf
   (refine w5.qn h0 rfl rfl rfl (by first|rfl|(simp only[Zj,Zi,Z2 _ (Fm _),zD,zG]<;>rfl)) ?_ ?_<;>(repeat'(first|(with_reducible rfl)|(exact Ya rfl (by first|(simp;done)|omega|(simp;omega)))|(exact ze (SV.int _) (by first|omega|(simp(disch:=omega) only[qL,Z5,Zn]<;>omega)|(simp;done)|(simp<;>omega)))|(exact ze (Hp.rows _) (by(simp only[ZjS,ZlH,Al,Am,Int.reduceToNat,SR];exact gl _ (by unfold tN;rw[z7 (by omega)]))))|((conv=>whnf);refine⟨?_,?_⟩)|exact trivial|rfl)))
 .have h:t=64:=by simp at h;omega
  obtain⟨W,hW⟩:∃W,W=U5 (b.drop r) 64:=⟨_,rfl⟩;have hwg:∀i,i<64->(ws.map ep)[i]?=some (ep (W.getD i 0)):=fun i hi=>by rw[tQ (by omega),lZ,SP _ (by omega) ht,hW,h]
  have hkg:∀i,i<64->Uf[i]?=some (ep (nD.getD i 0)):=fun i hi=>by
   have hk:Uf=nD.map ep:=rfl;rw[hk];exact tQ (by show i<64;omega)
  unfold tO;rw[<-hW];clear lZ hW;conv=>whnf
  repeat'(first|(refine wm.mk (by and_intros<;>(first|rfl|omega)) ?_)|refine AU ?_|refine IW ?_ ?_<;>intro h<;>try omega)<;>conv=>whnf
  refine wj.go Z0 [2,4,5,11] (X:=Nat×S8) (fun x=>x.1<=64/\x.2=Qs nD W s x.1) (fun x=>[(84, .int .i64 (x.1:Int))]) (fun x=>[(1, .rows 1 (Ks s)),(2, .rows 1 z8),(3, .rows 1 (ws.map ep)),(4, .rows 1 (Ks x.2))]) 5 (fun x=>64-x.1) (0,s) ⟨by simp only;omega,rfl⟩ ?_;conv=>whnf
  refine⟨by exact w5.cA h0,?_⟩;rintro⟨i,v⟩ ⟨hi,hv⟩;dsimp only at hi hv⊢;conv=>whnf
  refine IF.mk (fun h=>?_) (fun h=>?_)
  .have h:i<64:=by simp at h;omega
   conv=>whnf
   repeat'(first|refine Z3 11 Ao ?_|refine Z3 12 Ap ?_|refine Z3 18 Aq ?_|refine Z3 19 Ar ?_|refine Z3 20 As ?_|refine Z3 26 Au ?_|refine qJ.mk (fun _ _=>?_)|refine AD ?_|refine j9.mk ?_ ?_|refine CALL.value (SN _ _ (by decide)) rfl rfl ?_|(refine wm.mk (by and_intros<;>(first|rfl|omega)) ?_)|refine GET.at (row:=ep (W.getD i 0)) (by rw[show((i:Nat):Int).toNat=i by omega];exact hwg i h) ?_|refine GET.at (row:=ep (nD.getD i 0)) (by rw[show((i:Nat):Int).toNat=i by omega];exact hkg i h) ?_|refine AU ?_|refine IW ?_ ?_<;>intro h<;>try omega)<;>conv=>whnf
   refine⟨(i+1,SH (nD.getD i 0) (W.getD i 0) v),⟨by simp only;omega,by simp only[hv];rfl⟩,by simp only;omega,?_⟩;dsimp only;conv=>whnf
   (refine w5.qn h0 rfl rfl rfl (by first|rfl|(simp only[Zj,Zi,Z2 _ (Fm _),zD,zG]<;>rfl)) ?_ ?_<;>(repeat'(first|(with_reducible rfl)|(exact ze (SV.int _) (by simp(disch:=omega) only[qL,Z5]<;>omega))|(exact ze (Hp.rows _) (by simp only[Zmu,Al,Am,Zmt,Int.reduceToNat];rfl))|((conv=>whnf);refine⟨?_,?_⟩)|exact trivial|rfl)))
  .have h:i=64:=by simp at h;omega
   subst h;rw[<-hv];clear hv;conv=>whnf
   refine wj.go Z0 [2,4,11] (X:=Nat×List (BitVec 32)) (fun x=>x.1<=8/\x.2=Qu s v x.1) (fun x=>[(166, .int .i64 (x.1:Int))]) (fun x=>[(1, .rows 1 (x.2.map ep)),(2, .rows 1 z8),(4, .rows 1 ((L8 v).map ep))]) 5 (fun x=>8-x.1) (0,L8 s) ⟨by simp only;omega,rfl⟩ ?_;conv=>whnf
   refine⟨by exact w5.cA h0,?_⟩;rintro⟨i,l⟩ ⟨hi,hl⟩;dsimp only at hi hl⊢;have lY:l.length=8:=by rw[hl,ZfK hi]
   conv=>whnf
   refine IF.mk (fun h=>?_) (fun h=>?_)
   .have h:i<8:=by simp at h;omega
    have hls:l.getD i 0=(L8 s).getD i 0:=by rw[hl,ZfL s v h]
    conv=>whnf
    repeat'(first|refine Z3 11 Ao ?_|refine Z3 12 Ap ?_|refine Z3 18 Aq ?_|refine Z3 19 Ar ?_|refine Z3 20 As ?_|refine Z3 26 Au ?_|refine qJ.mk (fun _ _=>?_)|refine AD ?_|refine j9.mk ?_ ?_|refine GET.at (row:=ep ((L8 v).getD i 0)) (by rw[show((i:Nat):Int).toNat=i by omega];exact tQ (by show i<8;omega)) ?_|refine GET.at (row:=ep (l.getD i 0)) (by rw[show((i:Nat):Int).toNat=i by omega];exact tQ (by omega)) ?_|refine AU ?_|refine IW ?_ ?_<;>intro h<;>try omega)<;>conv=>whnf
    refine⟨(i+1,Qu s v (i+1)),⟨by simp only;omega,rfl⟩,by simp only;omega,?_⟩;dsimp only;conv=>whnf
    (refine w5.qn h0 rfl rfl rfl (by first|rfl|(simp only[Zj,Zi,Z2 _ (Fm _),zD,zG]<;>rfl)) ?_ ?_<;>(repeat'(first|(with_reducible rfl)|(exact Ya rfl (by first|(simp;done)|omega|(simp;omega)))|(exact ze (SV.int _) (by first|omega|(simp(disch:=omega) only[qL,Z5,Zn]<;>omega)|(simp;done)|(simp<;>omega)))|(exact ze (Hp.rows _) (by(rw[Am,show((i:Nat):Int).toNat=i by omega,Av,hls,hl,ZfM s v h])))|((conv=>whnf);refine⟨?_,?_⟩)|exact trivial|rfl)))
   .have h:i=8:=by simp at h;omega
    subst h;subst hl;conv=>whnf
    repeat'(first|(refine wm.mk (by and_intros<;>(first|rfl|omega)) ?_)|refine AU ?_|refine IW ?_ ?_<;>intro h<;>try omega)<;>conv=>whnf
    exact wh.Qt h0 rfl ⟨rfl,rfl,rfl⟩
end Go.Proofs.YtlcbipfmodcedaaGreatDoor


namespace Go.Proofs.YtlcbipfmodcedaaGreatDoor
open Go.Sx Go.Our
theorem ZfP{P:Program}{T:kE}{f:FuncId}{k:Nat}{args args':List SV}{O S:w9}{Q:SV->w9->Nat->Prop}(h:uX P T f k args O S Q)(hd:∀J vs,w6 J args' vs->w6 J args vs):uX P T f k args' O S Q:=
 ⟨fun M vs h1 h2 h3 h4 h5 h6=>h.out M vs h1 h2 h3 h4 h5 (hd _ _ h6)⟩
theorem ZfQ{J:Env}{s:S8}{xs:List SV}{vs:List Value}(h:w6 J (.arr 1 (Ks s)::xs) vs):w6 J (.agg (An s)::xs) vs:=by
 simp only[w6]at h⊢;obtain⟨u,us,h1,h2,h3⟩:=h;exact⟨u,us,h1,UJ h2,h3⟩
theorem CALL.lC{M:Mx}{O:w9}{nx:Nat}{f:FuncId}{args wX:List SV}{K:SV->w9->Nat->Prop}{es:Nat}{rs:List (List SV)}{l:List UInt8}(i:Nat)(sp:uX M.P M.C.T f 1 wX [] [(0, .rows es rs)] (WI 1 l))
 (ha:args=qg (Zo [i] nx) wX) (hi:Nat.blt i nx=true) (hb:ZO 1 wX=true) (hO:Yk M.C O (.loc i)=some (.rows es rs)) (hp:Zp rs=true) (hK:K (.sl (.loc nx) 0 1 l.length none) ((nx, .rows 1 (l.map Sx.bytesRow))::O) (nx+1)):CALL M f args O nx K:=by
 refine CALL.of [i] sp rfl (fun j hj=>by simp[yS]at hi hj;omega) ha hb (fun p hp=>by cases hp) (fun j hj=>by cases hj) (fun p hp'=>?_) ?_
 .have hp':=zL.1 hp';subst hp';refine⟨by simp,?_,Yj _ hp,by simp[Zd]⟩;rw[show wJ (Zo [i] nx) (.rows es rs)= .rows es rs from Zu _ hp];exact hO
 .rintro r' O' w8 ⟨rfl,rfl,rfl⟩;simp only[wR,qo,kJ,wJ,Zb _ (Zf l),E0 (L:=[i]) (nx:=nx) (k:=1) rfl,Zd,yH,XE,List.cons_append,List.nil_append];exact hK
theorem ZaM{n k:Nat}(hk:k<=XG n):(n+1+k)%64=56<->k=XG n:=by unfold XG at*;omega
theorem ZhC(N:Nat){k:Nat}(h:k<8):(nF N).take k++ [rC N (7-k)]=(nF N).take (k+1):=by
 match k,h with
 |0,_=>rfl
 |1,_=>rfl
 |2,_=>rfl
 |3,_=>rfl
 |4,_=>rfl
 |5,_=>rfl
 |6,_=>rfl
 |7,_=>rfl
theorem SU{N:Nat}:IntKind.u8.wrap (N:Int)=((UInt8.ofNat (N%256)).toNat:Int):=by
 rw[IntKind.wrap_u8'];have:(UInt8.ofNat (N%256)).toNat=N%256:=by simp
 rw[this];omega
theorem beI{N:Nat}{e:Int}{k:Nat}(hk:k<8)(he:e=8*((7-k:Nat):Int)):[SV.int .u8 (IntKind.u8.wrap (je .u64 (N:Int) e))]=Sx.bytesRow (rC N (7-k)):=by
 subst he
 have h1:je .u64 (N:Int) (8*((7-k:Nat):Int))=((N/2^ (8*(7-k)):Nat):Int):=by
  unfold je;rw[show(8*((7-k:Nat):Int)).toNat=8*(7-k)by omega,yQ (by show _<=64;omega),show(2:Int)^ (8*(7-k))=((2^ (8*(7-k)):Nat):Int)by norm_cast,vM _ (Int.natCast_nonneg _)]
  norm_cast
 rw[h1,SU]
 rfl
theorem Qv{l:List UInt8}{m:Nat}{r:List SV}{c:UInt8}(hm:l.length<=m)(hr:r=Sx.bytesRow c):List.take m (l.map Sx.bytesRow)++List.take 1 (List.drop 0 [r])=(l++ [c]).map Sx.bytesRow:=by
 subst hr;rw[zi (by simpa using hm)];simp
def dr(s:S8)(m:Nat):List UInt8:=(e9 s).take m++List.replicate (32-m) 0
theorem ZhD(s:S8){m:Nat}(h:m<=32):(dr s m).length=32:=by simp[dr,WY];omega
theorem ZhE(s:S8){m:Nat}(h:m<32)(c:UInt8)(hc:c=(e9 s).getD m 0):(dr s m).set m c=dr s (m+1):=by
 subst hc;have hl:((e9 s).take m).length=m:=by simp[WY];omega
 unfold dr
 have ht:(e9 s).take (m+1)=(e9 s).take m++ [(e9 s).getD m 0]:=by
  rw[List.take_add_one,zl,z1 (by rw[WY];exact h)];rfl
 rw[xh _ _ (by omega),hl,xS,show 32-m=(32-(m+1))+1 by omega,List.replicate_succ,List.set_cons_zero,ht,zM]
 rfl
theorem ZfR(s:S8):dr s 32=e9 s:=by unfold dr;rw[zi (by rw[WY];exact zo _)];simp
theorem ZhF(s:S8){i k:Nat}(hi:i<8)(hk:k<4):(e9 s).getD (4*i+k) 0=UInt8.ofNat (((L8 s).getD i 0>>> (24-8*k)).toNat%256):=by
 have h1:i=0\/i=1\/i=2\/i=3\/i=4\/i=5\/i=6\/i=7:=by omega
 have h2:k=0\/k=1\/k=2\/k=3:=by omega
 rcases h1 with rfl|rfl|rfl|rfl|rfl|rfl|rfl|rfl<;>rcases h2 with rfl|rfl|rfl|rfl<;>rfl
theorem ZfS(l:List UInt8)(i:Nat)(c:UInt8):(l.map Sx.bytesRow).set i (Sx.bytesRow c)=(l.set i c).map Sx.bytesRow:=by rw[xQ]
theorem Aw(a:BitVec 32):IntKind.u8.wrap (Uw a)=((UInt8.ofNat (a.toNat%256)).toNat:Int):=by unfold Uw;exact SU
open _root_.Go.Proofs.Tryz
def ZjU:wP:=(Zr [(0,1),(1,1),(2,1),(3,1),(5,1),(6,1),(7,1),(4,2),(8,2),(9,3),(10,1),(11,1),(12,0)])
theorem Ay(l:List UInt8):((l.map Sx.bytesRow).drop 0).take l.length=l.map Sx.bytesRow:=by
 rw[yD,zi (by simp)]
theorem SX(b:List UInt8)(r n:Nat)(hr:r+n<=b.length)(hb:b.length<=140737488355328):uX prog wD 96 1 [.sl (.loc 0) r 1 n none] [] [(0, .rows 1 (b.map Sx.bytesRow))] (WI 1 ((b.drop r).take n)):=by
 have hrow:((b.map Sx.bytesRow).drop r).take n=((b.drop r).take n).map Sx.bytesRow:=by rw[xx,vL]
 have hxl:((b.drop r).take n).length=n:=by simp;omega
 generalize hx:(b.drop r).take n=x at hrow hxl;refine uX.enter Z0 call96 func96 rfl 8 rfl rfl [.tmp 2] rfl ?_;intro w0 F η0 h0;conv=>whnf
 repeat'(first|rw[hrow]|refine wm.mk (Zm 1 rfl rfl (by simpa using hxl) (by simp) (by omega)) ?_|refine AU ?_|((with_reducible refine sU.mk (fun h=>?_) ?_)<;>try omega)|refine IW ?_ ?_<;>intro h<;>try omega)<;>conv=>whnf
 .subst h;have:x=[]:=zJ.1 hxl;subst this;refine wh.nil 1 ?_;exact wh.rows h0 1 1 0 rfl rfl rfl rfl ⟨rfl,rfl,rfl⟩
 .rw[zy];exact wh.rows h0 2 1 n rfl rfl rfl (Zf _) ⟨by rw[hxl],rfl,rfl⟩
def Vv(s:S8)(t:SV)(n:Int):List SV:=[.int .u32 (Uw s.a), .int .u32 (Uw s.b), .int .u32 (Uw s.c), .int .u32 (Uw s.d), .int .u32 (Uw s.e), .int .u32 (Uw s.f), .int .u32 (Uw s.g), .int .u32 (Uw s.h),t, .int .i64 n]
def ZjV(s:S8)(l:List UInt8)(n:Int):SV->w9->Nat->Prop:=fun r O nx=>r= .ptr (.loc 0) 0 0 0/\O=[(0, .box (Vv s (.sl (.loc 1) 0 1 l.length none) n)),(1, .rows 1 (l.map Sx.bytesRow))]/\nx=2
theorem SY:uX prog wD 51 0 [] [] [] (ZjV Vs [] 0):=by
 refine uX.enter Z0 call51 func51 rfl 4 rfl rfl [.tmp 0] rfl ?_;intro w0 F η0 h0;conv=>whnf
 repeat'(first|refine AU ?_|refine IW ?_ ?_<;>intro h<;>try omega)<;>conv=>whnf
 refine wh.qC 0 8 1 rfl rfl ?_;refine wh.aA h0 [0,1] (.ptr (.loc 0) 0 0 0) [(0, .box (Vv Vs (.sl (.loc 1) 0 1 0 none) 0)),(1, .rows 1 [])] ?_;exact⟨rfl,rfl,rfl⟩
theorem SZ(s:S8)(l b:List UInt8)(n:Nat)(r m:Nat)(hr:r+m<=b.length)(hb:b.length<=140737488355328)(hl:l.length<64)(hn:n+m<=140737488351232):uX prog wD 53 3 [.ptr (.loc 0) 0 0 0, .sl (.loc 2) r 1 m none] [(0, .box (Vv s (.sl (.loc 1) 0 1 l.length none) (n:Int))),(1, .rows 1 (l.map Sx.bytesRow))] [(2, .rows 1 (b.map Sx.bytesRow))]
 (fun r' O nx=>r'= .wM []/\O=[(0, .box (Vv (UI s (l++(b.drop r).take m)) (.sl (.loc 3) 0 1 (Xg (l++(b.drop r).take m)).length none) ((n+m:Nat):Int))),(3, .rows 1 ((Xg (l++(b.drop r).take m)).map Sx.bytesRow))]/\nx=4):=by
 have hrow:((b.map Sx.bytesRow).drop r).take m=((b.drop r).take m).map Sx.bytesRow:=by rw[xx,vL]
 have hxl:((b.drop r).take m).length=m:=by simp;omega
 generalize hx:(b.drop r).take m=x at hrow hxl;have hwn:IntKind.i64.wrap ((n:Int)+(m:Int))=((n+m:Nat):Int):=by rw[Z5 (by omega) (by omega)];omega
 have Az:List.take l.length (l.map Sx.bytesRow)++x.map Sx.bytesRow=(l++x).map Sx.bytesRow:=by rw[zi (by simp),yj]
 have hlen:l.length+m=(l++x).length:=by simp[hxl]
 have qW:(l++x).length<=140737488355328:=by simp[hxl];omega
 refine uX.enter Z0 call53 func53 rfl 56 rfl rfl [] rfl ?_;intro w0 F η0 h0;conv=>whnf
 repeat'(first|rw[hwn]|rw[hrow]|refine wm.mk (Zm 1 rfl rfl (by simpa using hxl) (by simp) (by omega)) ?_|refine AU ?_|refine IW ?_ ?_<;>intro h<;>try omega)<;>conv=>whnf
 rw[Az,hlen];generalize l++x=all at qW;refine wj.go Z0 [0] (X:=Nat×S8) (fun x=>64*x.1<=all.length/\x.2=nE s all x.1) (fun _=>[]) (fun x=>[(0, .box (Vv x.2 (.sl (.loc 3) (64*x.1) 1 (all.length-64*x.1) none) ((n+m:Nat):Int))),(3, .rows 1 (all.map Sx.bytesRow))]) 4 (fun x=>all.length-64*x.1) (0,s) ⟨by simp,rfl⟩ ?_;conv=>whnf
 refine⟨by exact w5.cA h0,?_⟩;rintro⟨k,s'⟩ ⟨hk,hs'⟩;dsimp only at hk hs'⊢;conv=>whnf
 refine IF.mk (fun h=>?_) (fun h=>?_)
 .have h:64*k+64<=all.length:=by simp at h;omega
  have gD:=SQ s' all (64*k) (all.length-64*k) (by omega) (by omega) qW;conv=>whnf
  repeat'(first|refine Z3 3 ZjU ?_|refine qJ.mk (fun _ _=>?_)|refine AD ?_|refine j9.mk ?_ ?_|refine wm.mk (Lv (by omega)) ?_|refine CALL.jq 3 gD rfl rfl rfl rfl (Zf _) rfl ?_|refine wm.mk ⟨by omega,by omega⟩ ?_|refine AU ?_|refine IW ?_ ?_<;>intro h<;>try omega)<;>conv=>whnf
  rw[show 64*k+(64:Int).toNat=64*(k+1)by omega,show all.length-64*k-(64:Int).toNat=all.length-64*(k+1)by omega];refine⟨(k+1,tO s' (all.drop (64*k))),⟨by simp only;omega,by simp only[hs'];rfl⟩,by simp only;omega,?_⟩;dsimp only;conv=>whnf
  exact w5.cA h0
 .have h:k=all.length/64:=by simp at h;omega
  have hf:s'=UI s all:=by rw[hs',h];rfl
  have aq:(all.drop (64*k)).take (all.length-64*k)=Xg all:=by rw[zi (by simp)];rw[h];rfl
  have SR:all.length-64*k=(Xg all).length:=by rw[Vu];omega
  have jm:=SX all (64*k) (all.length-64*k) (by omega) qW;rw[aq]at jm;rw[<-hf];conv=>whnf
  refine CALL.lC 3 jm rfl rfl rfl rfl (Zf _) ?_;conv=>whnf
  repeat'(first|refine AU ?_|refine IW ?_ ?_<;>intro h<;>try omega)<;>conv=>whnf
  refine wh.aA h0 [4] (.wM []) [(0, .box (Vv s' (.sl (.loc 3) 0 1 (Xg all).length none) ((n+m:Nat):Int))),(3, .rows 1 ((Xg all).map Sx.bytesRow))] ?_;exact⟨rfl,rfl,rfl⟩
open _root_.Go.Proofs.Tryz
theorem T6(s:S8)(l:List UInt8)(n:Nat)(hl:l.length<64)(hn:n<=140737488351232):uX prog wD 54 2 [.ptr (.loc 0) 0 0 0] [] [(0, .box (Vv s (.sl (.loc 1) 0 1 l.length none) (n:Int))),(1, .rows 1 (l.map Sx.bytesRow))]
 (qE 2 (.arr 1 ((e9 (UI s (cK l n))).map Sx.bytesRow))):=by
 have jm:=SX l 0 l.length (by omega) (by omega);rw[show(l.drop 0).take l.length=l by simp]at jm;have hno:XG l.length<64:=by unfold XG;omega
 refine uX.enter Z0 call54 func54 rfl 68 rfl rfl [.cell 2 57] rfl ?_;intro w0 F η0 h0;conv=>whnf
 repeat'(first|refine CALL.lC 1 jm rfl rfl rfl rfl (Zf _) ?_|(refine wm.mk (Zm 1 rfl rfl (by first|(simp;done)|(simp;omega)) (by first|(simp;done)|(simp;omega)) (by omega)) ?_)|refine AU ?_|refine IW ?_ ?_<;>intro h<;>try omega)<;>conv=>whnf
 refine wj.go Z0 [0,2] (X:=Nat) (fun k=>k<=XG l.length) (fun k=>[(3, .sl (.loc 3) 0 1 (l.length+1+k) none)]) (fun k=>[(2, .rows 1 ((dr Vs 0).map Sx.bytesRow)),(3, .rows 1 ((l++ [128]++List.replicate k 0).map Sx.bytesRow))]) 4 (fun k=>XG l.length-k) 0 (by omega) ?_;conv=>whnf
 refine⟨by(refine w5.wV h0 [2,5] rfl rfl rfl (by first|rfl|(simp only[Zj,Zi,Z2 _ (Zf _),zD,zG]<;>rfl)) ?_ ?_<;>(repeat'(first|(with_reducible rfl)|(exact Zl (Zf _) (Zb _ (Zf _)))|(exact Zl (Zf _) (by first|(rw[List.replicate_zero,zO];exact Qv (zo _) rfl)|rfl))|(exact Ya rfl (by first|(simp;done)|omega|(simp;omega)))|(exact ze (SV.int _) (by first|omega|(simp(disch:=omega) only[qL,Z5,Zn]<;>omega)|(simp;done)|(simp<;>omega)))|((conv=>whnf);refine⟨?_,?_⟩)|exact trivial|(simp only[wR,qo];done)|rfl))),?_⟩;rintro k hk;have hiff:=ZaM hk;have hmod:Int.tmod ((l.length+1+k:Nat):Int) 64=((l.length+1+k)%64:Nat):=by rw[xW (by omega)];omega
 conv=>whnf
 repeat'(first|rw[hmod]|refine wm.mk (Zm 1 rfl rfl rfl (by simp;omega) (by omega)) ?_|refine AU ?_|refine IW ?_ ?_<;>intro h<;>try omega)<;>conv=>whnf
 .refine⟨k+1,by omega,by omega,?_⟩;conv=>whnf
  (refine w5.wV h0 [2,5] rfl rfl rfl (by first|rfl|(simp only[Zj,Zi,Z2 _ (Zf _),zD,zG]<;>rfl)) ?_ ?_<;>(repeat'(first|(with_reducible rfl)|(exact Zl (Zf _) (Zb _ (Zf _)))|(exact Zl (Zf _) (by(rw[List.replicate_succ',<-zM];exact Qv (by simp;omega) rfl)))|(exact Ya rfl (by first|(simp;done)|omega|(simp;omega)))|(exact ze (SV.int _) (by first|omega|(simp(disch:=omega) only[qL,Z5,Zn]<;>omega)|(simp;done)|(simp<;>omega)))|((conv=>whnf);refine⟨?_,?_⟩)|exact trivial|(simp only[wR,qo];done)|rfl)))
 .have hk:k=XG l.length:=hiff.1 (by omega);obtain⟨y,hy⟩:∃y,y=l++ [128]++List.replicate k 0:=⟨_,rfl⟩;have o8:y.length=l.length+1+k:=by rw[hy];simp;omega
  have gl:cK l n=y++nF (n*8):=by rw[hy,hk];rfl
  have fh:=ZhA l n;rw[<-hy,gl,<-o8];rw[gl]at fh;have hN:IntKind.u64.wrap (IntKind.u64.wrap (n:Int)*8)=((n*8:Nat):Int):=by rw[IntWalk.u64_in (n:Int) ⟨by omega,by omega⟩,IntWalk.u64_in _ ⟨by omega,by omega⟩];omega
  clear hy hk hiff hmod h gl;repeat'(first|refine AU ?_|refine IW ?_ ?_<;>intro h<;>try omega)<;>conv=>whnf
  refine wj.go Z0 [0,2] (X:=Nat) (fun j=>j<=8) (fun j=>[(3, .sl (.loc 3) 0 1 (y.length+j) none),(4, .int .i64 (7-(j:Int)))]) (fun j=>[(2, .rows 1 ((dr Vs 0).map Sx.bytesRow)),(3, .rows 1 ((y++(nF (n*8)).take j).map Sx.bytesRow))]) 4 (fun j=>8-j) 0 (by omega) ?_;conv=>whnf
  refine⟨by(refine w5.wV h0 [2,3] rfl rfl rfl (by first|rfl|(simp only[Zj,Zi,Z2 _ (Zf _),zD,zG]<;>rfl)) ?_ ?_<;>(repeat'(first|(with_reducible rfl)|(exact Zl (Zf _) (Zb _ (Zf _)))|(exact Zl (Zf _) (by first|(rw[List.take_zero,zO];done)|rfl))|(exact Ya rfl (by first|(simp;done)|omega|(simp;omega)))|(exact ze (SV.int _) (by first|omega|(simp(disch:=omega) only[qL,Z5,Zn]<;>omega)|(simp;done)|(simp<;>omega)))|((conv=>whnf);refine⟨?_,?_⟩)|exact trivial|(simp only[wR,qo];done)|rfl))),?_⟩;rintro j hj;have aq:((nF (n*8)).take j).length=j:=by simp[nF];omega
  conv=>whnf
  refine IF.mk (fun h=>?_) (fun h=>?_)
  .have h:j<8:=by simp at h;omega
   have hw:IntKind.i64.wrap (8*(7-(j:Int)))=8*((7-j:Nat):Int):=by rw[Z5 (by omega) (by omega)];omega
   conv=>whnf
   repeat'(first|rw[hw]|rw[hN]|refine wm.mk (Zm 1 rfl rfl rfl (by rw[zA,zg,aq];exact zo _) (by omega)) ?_|refine AU ?_|refine IW ?_ ?_<;>intro h<;>try omega)<;>conv=>whnf
   refine⟨j+1,by omega,by omega,?_⟩;conv=>whnf
   (refine w5.wV h0 [2,5] rfl rfl rfl (by first|rfl|(simp only[Zj,Zi,Z2 _ (Zf _),zD,zG]<;>rfl)) ?_ ?_<;>(repeat'(first|(with_reducible rfl)|(exact Zl (Zf _) (Zb _ (Zf _)))|(exact Zl (Zf _) (by(rw[<-ZhC _ h,<-zM];exact Qv (by rw[zg,aq];exact zo _) (beI h rfl))))|(exact Ya rfl (by first|(simp;done)|omega|(simp;omega)))|(exact ze (SV.int _) (by first|omega|(simp(disch:=omega) only[qL,Z5,Zn]<;>omega)|(simp;done)|(simp<;>omega)))|((conv=>whnf);refine⟨?_,?_⟩)|exact trivial|(simp only[wR,qo];done)|rfl)))
  .have h:j=8:=by simp at h;omega
   subst h;rw[show(nF (n*8)).take 8=nF (n*8)from rfl,show y.length+8=(y++nF (n*8)).length by rw[zg];rfl];generalize y++nF (n*8)=P at fh;conv=>whnf
   repeat'(first|(refine wm.mk (by first|exact⟨rfl,rfl,rfl⟩|exact⟨rfl,rfl,rfl,rfl,rfl⟩) ?_)|refine AU ?_|refine IW ?_ ?_<;>intro h<;>try omega)<;>conv=>whnf
   refine wj.go Z0 [2,5] (X:=Nat×S8) (fun x=>64*x.1<=P.length/\x.2=nE s P x.1) (fun x=>[(3, .sl (.loc 3) (64*x.1) 1 (P.length-64*x.1) none)]) (fun x=>[(2, .rows 1 ((dr Vs 0).map Sx.bytesRow)),(3, .rows 1 (P.map Sx.bytesRow)),(4, .rows 1 (Ks x.2))]) 5 (fun x=>P.length-64*x.1) (0,s) ⟨by simp,rfl⟩ ?_;conv=>whnf
   refine⟨by exact w5.cA h0,?_⟩;rintro⟨k,s'⟩ ⟨hk,hs'⟩;dsimp only at hk hs'⊢;conv=>whnf
   refine IF.mk (fun h=>?_) (fun h=>?_)
   .have h:64*k+64<=P.length:=by simp at h;omega
    have gD:=ZfP (SQ s' P (64*k) (P.length-64*k) (by omega) (by omega) (by omega)) (fun K vs=>ZfQ);conv=>whnf
    repeat'(first|refine CALL.jq 3 gD rfl rfl rfl rfl (Zf _) rfl ?_|(refine wm.mk (by first|exact⟨rfl,rfl,rfl⟩|exact⟨rfl,rfl,rfl,rfl,rfl⟩) ?_)|refine wm.mk ⟨by omega,by omega⟩ ?_|refine AU ?_|refine IW ?_ ?_<;>intro h<;>try omega)<;>conv=>whnf
    rw[show 64*k+(64:Int).toNat=64*(k+1)by omega,show P.length-64*k-(64:Int).toNat=P.length-64*(k+1)by omega];refine⟨(k+1,tO s' (P.drop (64*k))),⟨by simp only;omega,by simp only[hs'];rfl⟩,by simp only;omega,?_⟩;dsimp only;conv=>whnf
    exact w5.cA h0
   .have h:k=P.length/64:=by simp at h;omega
    have hf:s'=UI s P:=by rw[hs',h];rfl
    rw[<-hf];clear hf hs' jm;conv=>whnf
    repeat'(first|refine AU ?_|refine IW ?_ ?_<;>intro h<;>try omega)<;>conv=>whnf
    refine wj.go Z0 [2,5,6] (X:=Nat) (fun i=>i<=32) (fun i=>[(51, .int .i64 (i:Int))]) (fun i=>[(2, .rows 1 ((dr Vs 0).map Sx.bytesRow)),(4, .rows 1 ((L8 s').map ep)),(5, .rows 1 ((dr s' i).map Sx.bytesRow))]) 6 (fun i=>32-i) 0 (by omega) ?_;conv=>whnf
    refine⟨by exact w5.cA h0,?_⟩;rintro i hi;conv=>whnf
    refine IF.mk (fun h=>?_) (fun h=>?_)
    .have h:i<32:=by simp at h;omega
     have hw1:IntKind.i64.wrap (Int.tdiv (i:Int) 4)=((i/4:Nat):Int):=by rw[yZ (by omega),Z5 (by omega) (by omega)];omega
     have Bs:IntKind.i64.wrap (24-IntKind.i64.wrap (Int.tmod (i:Int) 4*8))=((24-8*(i%4):Nat):Int):=by rw[xW (by omega),Z5 (a:=(i:Int)%4*8) (by omega) (by omega),Z5 (by omega) (by omega)];omega
     have hval:[SV.int .u8 (IntKind.u8.wrap (je .u32 (Uw ((L8 s').getD (i/4) 0)) ((24-8*(i%4):Nat):Int)))]=Sx.bytesRow ((e9 s').getD i 0):=by
      have:=ZhF s' (i:=i/4) (k:=i%4) (by omega) (by omega);rw[show 4*(i/4)+i%4=i by omega]at this;rw[EI _ _ ⟨by omega,by omega⟩,Aw,this,Int.toNat_natCast];rfl
     conv=>whnf
     repeat'(first|rw[hw1]|rw[Bs]|refine GET.at (row:=ep ((L8 s').getD (i/4) 0)) (by rw[Int.toNat_natCast];exact tQ (by show i/4<8;omega)) ?_|refine GET.at (row:=Sx.bytesRow ((dr s' i).getD i 0)) (by rw[Int.toNat_natCast];exact SO (by rw[ZhD s' (by omega)];omega)) ?_|refine AU ?_|refine IW ?_ ?_<;>intro h<;>try omega)<;>conv=>whnf
     refine⟨i+1,by omega,by omega,?_⟩;conv=>whnf
     (refine w5.qn h0 rfl rfl rfl (by first|rfl|(simp only[Zj,Zi,Z2 _ (Zf _),zD,zG]<;>rfl)) ?_ ?_<;>(repeat'(first|(with_reducible rfl)|(exact Ya rfl (by first|(simp;done)|omega|(simp;omega)))|(exact ze (SV.int _) (by first|omega|(simp(disch:=omega) only[qL,Z5,Zn]<;>omega)|(simp;done)|(simp<;>omega)))|(exact ze (Hp.rows _) (by(rw[Int.toNat_natCast,hval,ZfS,ZhE s' (by omega) _ rfl])))|((conv=>whnf);refine⟨?_,?_⟩)|exact trivial|rfl)))
    .have h:i=32:=by simp at h;omega
     subst h;conv=>whnf
     repeat'(first|(refine wm.mk (by first|exact⟨rfl,rfl,rfl⟩|exact⟨rfl,rfl,rfl,rfl,rfl⟩) ?_)|refine AU ?_|refine IW ?_ ?_<;>intro h<;>try omega)<;>conv=>whnf
     refine wh.wC h0 (Zf _) ?_;rw[<-ZfR]
     rfl
open _root_.Go.Proofs.Tryz
theorem Z9R(b:List UInt8)(r n:Nat)(hr:r+n<=b.length)(hb:b.length<=140737488355328)(hn:n<=140737488351232):uX prog wD 27 1 [.sl (.loc 0) r 1 n none] [] [(0, .rows 1 (b.map Sx.bytesRow))] (qE 1 (.arr 1 ((eo ((b.drop r).take n)).map Sx.bytesRow))):=by
 obtain⟨x,hx⟩:∃x,x=(b.drop r).take n:=⟨_,rfl⟩;have hxl:x.length=n:=by rw[hx];simp;omega
 have hwr:=SZ Vs [] b 0 r n hr hb (by simp) (by omega);have aq:(Xg x).length<64:=by rw[Vu];omega
 have hsum:=T6 (UI Vs x) (Xg x) n aq (by omega);rw[<-hx]at hwr⊢;rw[List.nil_append,zy]at hwr;rw[SL]at hsum;unfold eo;rw[hxl];refine uX.enter Z0 call27 func27 rfl 10 rfl rfl [.cell 2 57] rfl ?_;intro w0 F η0 h0;conv=>whnf
 refine CALL.aA [] (SY) ?_;rintro r' O' w8 ⟨rfl,rfl,rfl⟩;conv=>whnf
 refine CALL.aA [2,3,0] (hwr) ?_;rintro r' O' w8 ⟨rfl,rfl,rfl⟩;conv=>whnf
 refine CALL.aA [2,4] (hsum) ?_;rintro r' O' w8 ⟨rfl,rfl,rfl⟩;conv=>whnf
 repeat'(first|(refine wm.mk (by first|exact⟨rfl,rfl,rfl⟩|exact⟨rfl,rfl,rfl,rfl,rfl⟩) ?_))<;>conv=>whnf
 rw[Zb _ (Zf _)];exact wh.wC h0 (Zf _) rfl
theorem Zm8:∀(l:List UInt8),Zk (List.replicate l.length (.int .u8)) (l.map Sx.bytesRow).flatten (l.map Sx.bytesRow).flatten=some true
 | []=>rfl
 |c::l=>by
  have ih:=Zm8 l;simp only[List.length_cons,List.replicate_succ,zI,List.flatten_cons,Sx.bytesRow,List.cons_append,List.nil_append,Zk];rw[ih];simp[J9]
theorem Zcy:∀l:List UInt8,nP (l.map Sx.bytesRow).flatten=true
 | []=>rfl
 |c::l=>by simp only[zI,List.flatten_cons,Sx.bytesRow,List.cons_append,List.nil_append,nP,Zcy l];rfl
theorem Zcz(es:Nat)(l:List UInt8):oJ (.arr es (l.map Sx.bytesRow)):=fun K u u' h h'=>oJ.of (v:= .agg (l.map Sx.bytesRow).flatten) (by simp only[fU,Zcy l]) K u u' (UJ h) (UJ h')
theorem ZgE(s:S8):Zk (List.replicate 32 (.int .u8)) ((e9 s).map Sx.bytesRow).flatten ((e9 s).map Sx.bytesRow).flatten=some true:=Zm8 (e9 s)
