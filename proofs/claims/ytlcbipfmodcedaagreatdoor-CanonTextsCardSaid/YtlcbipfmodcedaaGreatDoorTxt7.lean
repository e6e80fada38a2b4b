import Derived.Test.YtlcbipfmodcedaaGreatDoorTxt6
set_option linter.unusedVariables false
set_option linter.unusedSimpArgs false
set_option maxRecDepth 20000
set_option maxHeartbeats 8000000
namespace Go.Proofs.YtlcbipfmodcedaaGreatDoor
open Go.Sx Go.Our
open _root_.Go.Proofs.Tryz
theorem Sn(s:List UInt8)(hs:Sm s):uX prog wD 307 0 [.str s] [] [] (qd (.bool (jb Vf s 0))):=by
 refine uX.enter Z0 call307 func307 rfl 29 rfl rfl [.tmp 2] rfl ?_;intro w0 F η0 h0;conv=>whnf
 refine wj.go Z0 [0] (X:=Nat) (fun i=>i<=s.length/\jb Vf s i=jb Vf s 0) (fun i=>[(3, .int .i64 (i:Int))]) (fun i=>[]) 0 (fun i=>s.length-i) 0 ⟨by omega,rfl⟩ ?_;conv=>whnf
 refine⟨by exact w5.cA h0,?_⟩;rintro i ⟨hi,hc⟩;conv=>whnf
 repeat'(first|refine AU ?_|refine IW ?_ ?_<;>intro h<;>try omega)<;>conv=>whnf
 .refine wh.value h0 rfl (ze SV.bool ?_);rw[<-hc,JP (by omega),show Vf (Z1 s i)=false from ye (by unfold J4;omega)];rfl
 .refine⟨i+1,⟨by omega,?_⟩,by omega,?_⟩;rw[<-hc,JP (i:=i) (by omega),show Vf (Z1 s i)=true from yu (by unfold J4;omega),vo]
  .conv=>whnf
   exact w5.cA h0
 .refine wh.value h0 rfl (ze SV.bool ?_);rw[<-hc,WS (by omega)]
theorem Vp(s:List UInt8)(hs:Sm s):uX prog wD 306 0 [.str s] [] [] (qd (.bool (jb XN s 0))):=by
 refine uX.enter Z0 call306 func306 rfl 20 rfl rfl [.tmp 2] rfl ?_;intro w0 F η0 h0;conv=>whnf
 refine wj.go Z0 [0] (X:=Nat) (fun i=>i<=s.length/\jb XN s i=jb XN s 0) (fun i=>[(3, .int .i64 (i:Int))]) (fun i=>[]) 0 (fun i=>s.length-i) 0 ⟨by omega,rfl⟩ ?_;conv=>whnf
 refine⟨by exact w5.cA h0,?_⟩;rintro i ⟨hi,hc⟩;conv=>whnf
 repeat'(first|refine AU ?_|refine IW ?_ ?_<;>intro h<;>try omega)<;>conv=>whnf
 .refine wh.value h0 rfl (ze SV.bool ?_);rw[<-hc,JP (by omega),show XN (Z1 s i)=false from ye (by unfold Wf;omega)];rfl
 .refine⟨i+1,⟨by omega,?_⟩,by omega,?_⟩;rw[<-hc,JP (i:=i) (by omega),show XN (Z1 s i)=true from yu (by unfold Wf;omega),vo]
  .conv=>whnf
   exact w5.cA h0
 .refine wh.value h0 rfl (ze SV.bool ?_);rw[<-hc,WS (by omega)]
theorem Af{s:List UInt8}{i:Nat}(h:i<s.length):(s.drop (i:Int).toNat).take (((i:Int)+1).toNat-(i:Int).toNat)=[s.getD i 0]:=by
 rw[show((i:Int)+1).toNat-(i:Int).toNat=1 by omega,Int.toNat_natCast,Xb h];rfl
theorem ZlA(s:List UInt8)(i:Nat):bn (s.getD i 0)=Z1 s i:=rfl
theorem Vq(s:List UInt8)(least most:Int)(hs:Sm s):uX prog wD 291 0 [.str s, .int .i64 least, .int .i64 most] [] [] (qd (.bool (ZI s least most false))):=by
 refine uX.enter Z0 call291 func291 rfl 40 rfl rfl [.tmp 6] rfl ?_;intro w0 F η0 h0;conv=>whnf
 refine wj.go Z0 [0,1,2] (X:=Nat) (fun i=>i<=s.length/\jb (JU false) s i=jb (JU false) s 0) (fun i=>[(7, .int .i64 (i:Int))]) (fun i=>[]) 0 (fun i=>s.length-i) 0 ⟨by omega,rfl⟩ ?_;conv=>whnf
 refine⟨by exact w5.cA h0,?_⟩;rintro i ⟨hi,hc⟩;conv=>whnf
 have sm:∀n m,Sm ((s.drop n).take m):=fun n m=>by simp;omega
 repeat'(first|refine CALL.value (Sn _ (sm _ _)) rfl rfl ?_|refine CALL.value (Vp _ (sm _ _)) rfl rfl ?_|refine AU ?_|refine IW ?_ ?_<;>intro h<;>try omega)<;>conv=>whnf
 all_goals first
  |(have hl:i<s.length:=by omega
    simp only[Af hl,R2,ZlA]at*
    first
     |(refine wh.value h0 rfl (ze SV.bool ?_)
       have h1:JU false (Z1 s i)=false:=by unfold JU;simp[*]
       unfold ZI;rw[<-hc,JP hl,h1];rfl)
     |(have h1:JU false (Z1 s i)=true:=by unfold JU;simp[*]
       refine⟨i+1,⟨by omega,?_⟩,by omega,?_⟩;rw[<-hc,JP (i:=i) hl,h1,vo]
       .conv=>whnf
        exact w5.cA h0))
  |(refine wh.value h0 rfl (ze SV.bool ?_)
    unfold ZI;rw[<-hc,WS (by omega),zZ]
    simp[xd])
theorem Z5B(s:List UInt8)(hs:Sm s):uX prog wD 290 0 [.str s] [] [] (qd (.bool (Jr s))):=by
 have hm:ZI s 4 4 false=true->s.length=4:=by unfold ZI;simp;omega
 have sm:∀m,Sm (s.take m):=fun m=>by simp;omega
 refine uX.enter Z0 call290 func290 rfl 14 rfl rfl [.tmp 2] rfl ?_;intro w0 F η0 h0;conv=>whnf
 repeat'(first|refine CALL.value (Vq _ _ _ hs) rfl rfl ?_|refine CALL.value (Vp _ (sm _)) rfl rfl ?_|refine wm.mk (by have:=hm (by assumption);omega) ?_|refine AU ?_|refine IW ?_ ?_<;>intro h<;>try omega)<;>conv=>whnf
 all_goals
  refine wh.value h0 rfl (ze SV.bool ?_);unfold Jr;by_cases h4:ZI s 4 4 false=true
  .have:=hm h4;cases s with
   |nil=>simp at this
   |cons a t=>
    have ht:(a::t).take (1:Int).toNat=[a]:=rfl;have hb:bn a=Z1 (a::t) 0:=rfl;try simp only[ht,R2,hb]at*
    simp_all
  simp_all
theorem YG(s:List UInt8)(hs:Sm s):uX prog wD 286 0 [.str s] [] [] (qd (.str (Z9 s))):=by
 refine uX.enter Z0 call286 func286 rfl 35 rfl rfl [.tmp 2] rfl ?_;intro w0 F η0 h0;conv=>whnf
 repeat'(first|refine AU ?_)<;>conv=>whnf
 refine wj.go Z0 [3] (X:=Nat) (fun i=>i<=s.length) (fun i=>[(4, .int .i64 (i:Int))]) (fun i=>[(0, .rows 1 ((jQ s i).map Sx.bytesRow))]) 1 (fun i=>s.length-i) 0 (by omega) ?_;conv=>whnf
 refine⟨by(refine w5.qn h0 rfl rfl rfl (by first|rfl|(simp only[Zj,Zi,Z2 _ (Zf _),zD,zG]<;>rfl)) ?_ ?_<;>(repeat'(first|(with_reducible rfl)|(exact Ya rfl (by first|(simp;done)|omega|(simp;omega)))|(exact ze (SV.int _) (by first|omega|(simp(disch:=omega) only[qL,Z5,Zn]<;>omega)|(simp;done)|(simp<;>omega)))|(exact ze (Hp.rows _) (by rw[R4]))|((conv=>whnf);refine⟨?_,?_⟩)|exact trivial|rfl))),?_⟩;intro i hi;have hlen:=R3 s i;conv=>whnf
 repeat'(first|refine GET.at (row:=Sx.bytesRow (s[i]'(by omega))) (by rw[show 0+(i:Int).toNat=i by omega];exact Bq (by omega)) ?_|refine dI.at (row:=Sx.bytesRow (s[i]'(by omega))) (by rw[show 0+(i:Int).toNat=i by omega];exact Bq (by omega)) ?_|refine AU ?_|refine IW ?_ ?_<;>intro h<;>try omega)<;>conv=>whnf
 .have hl:i<s.length:=by omega
  refine⟨i+1,by omega,by omega,?_⟩;conv=>whnf
  (refine w5.qn h0 rfl rfl rfl (by first|rfl|(simp only[Zj,Zi,Z2 _ (Zf _),zD,zG]<;>rfl)) ?_ ?_<;>(repeat'(first|(with_reducible rfl)|(exact Ya rfl (by first|(simp;done)|omega|(simp;omega)))|(exact ze (SV.int _) (by first|omega|(simp(disch:=omega) only[qL,Z5,Zn]<;>omega)|(simp;done)|(simp<;>omega)))|(exact ze (Hp.rows _) (by rw[R8 h,show 0+(i:Int).toNat=i by omega,R7 hl]))|((conv=>whnf);refine⟨?_,?_⟩)|exact trivial|rfl)))
 .have hl:i<s.length:=by omega
  refine⟨i+1,by omega,by omega,?_⟩;conv=>whnf
  (refine w5.qn h0 rfl rfl rfl (by first|rfl|(simp only[Zj,Zi,Z2 _ (Zf _),zD,zG]<;>rfl)) ?_ ?_<;>(repeat'(first|(with_reducible rfl)|(exact Ya rfl (by first|(simp;done)|omega|(simp;omega)))|(exact ze (SV.int _) (by first|omega|(simp(disch:=omega) only[qL,Z5,Zn]<;>omega)|(simp;done)|(simp<;>omega)))|(exact ze (Hp.rows _) (by rw[R6 hl (Br (by omega))]))|((conv=>whnf);refine⟨?_,?_⟩)|exact trivial|rfl)))
 .refine wm.mk (Jq (by omega)) ?_;conv=>whnf
  refine wh.value h0 rfl (ze SV.str ?_);have:=UC (jQ s i);rw[hlen]at this;rw[this,R5 (by omega)]
end Go.Proofs.YtlcbipfmodcedaaGreatDoor
namespace Go.Proofs.YtlcbipfmodcedaaGreatDoor
open Go.Sx Go.Our
open _root_.Go.Proofs.Tryz
theorem Sq{s:List UInt8}{i:Nat}{c:UInt8}(h:i<s.length):Z1 s i=(c.toNat:Int)<->s[i]?=some c:=by
 unfold Z1;rw[Int.toNat_natCast,List.getD,z1 h];simp only[Option.getD_some,zj];constructor
 intro h1;exact uj.1 (by omega);intro h1;rw[h1]
theorem Z99(s:List UInt8)(hs:s.length<=34359738368):uX prog wD 285 0 [.str s] [] [] (rX 1 ((Zw s).map Ze)):=by
 have hlen:=Eb s;refine uX.enter Z0 call285 func285 rfl 31 rfl rfl [.tmp 2] rfl ?_;intro w0 F η0 h0;conv=>whnf
 refine wj.nil 3 1 rfl ?_;refine wj.go Z0 [0] (X:=List (List UInt8)×Nat×Nat) (fun y=>y.2.1<=y.2.2/\y.2.2<=s.length/\Zw s=y.1++Zw (s.drop y.2.1)/\∀c∈(s.drop y.2.1).take (y.2.2-y.2.1),c≠45) (fun y=>[(3, .sl (.loc 0) 0 1 y.1.length none),(4, .int .i64 (y.2.1:Int)),(5, .int .i64 (y.2.2:Int))]) (fun y=>[(0, .rows 1 (y.1.map Ze))]) 1 (fun y=>s.length-y.2.2) ([],0,0) ⟨by simp,by simp,by simp,by simp⟩ ?_;conv=>whnf
 refine⟨by exact w5.kA h0 [0],?_⟩;rintro⟨l,f,i⟩ ⟨hf,hi,he,hn⟩;dsimp only at hf hi he hn⊢;have hl:l.length+(Zw (s.drop f)).length=(Zw s).length:=by rw[he,zg]
 have ga:1<=(Zw (s.drop f)).length:=by have:=Jl (s.drop f);omega
 conv=>whnf
 repeat'(first|refine AU ?_|refine IW ?_ ?_<;>intro h<;>try omega)<;>conv=>whnf
 .have h45:(s.drop f)[i-f]?=some 45:=by rw[y8,show f+(i-f)=i by omega];exact(Sq (c:=45) (by omega)).1 h
  have hc:=Rg _ _ hn h45;rw[yt,show f+(i-f+1)=i+1 by omega]at hc;refine⟨(l++ [(s.drop f).take (i-f)],i+1,i+1),⟨by simp only;omega,by simp only;omega,by simp only;rw[he,hc];simp,by simp⟩,by simp only;omega,?_⟩;dsimp only;rw[show(l++ [(s.drop f).take (i-f)]).length=l.length+1 by simp];conv=>whnf
  exact w5.kA h0 [2]
 .refine⟨(l,f,i+1),⟨by simp only;omega,by simp only;omega,he,?_⟩,by simp only;omega,?_⟩
  .dsimp only;intro c hc;have hlt:i-f< (s.drop f).length:=by rw[zF];omega
   rw[show i+1-f=(i-f)+1 by omega,zH hlt]at hc;rcases zW.1 hc with hc|hc
   exact hn c hc
   .have hc:=zL.1 hc;rintro rfl;refine h ((Sq (c:=45) (by omega)).2 ?_);have h1:(s.drop f)[i-f]?=some 45:=by rw[z1 hlt,<-hc]
    rwa [y8,show f+(i-f)=i by omega]at h1
  .dsimp only;conv=>whnf
   exact w5.kA h0 [0]
 .have hc:Zw (s.drop f)=[s.drop f]:=by
   refine Rh _ fun c hc=>hn c ?_;rwa [zi (by rw[zF];omega)]
  rw[he,hc]at*;refine wh.rows h0 2 1 (l.length+1) rfl rfl rfl (by simp[VX,ZH,Yn,Zp,YM,plain,zi]) ⟨by simp,?_,rfl⟩;simp[Ze,zi]
theorem J7(ps:List (List UInt8))(hb:JD ps+ps.length<=68719476736)(a m:Nat)(EB:a+m=ps.length):uX prog wD 305 1 [.sl (.loc 0) a 1 m none] [] [(0, .rows 1 (ps.map Ze))]
 (fun r O nx=> ∃s,s.length<=JD ps+ps.length/\(∀p,ps[a]?=some p->∃t,s=p++t)/\r= .str s/\O=[]/\nx=1):=by
 refine uX.enter Z0 call305 func305 rfl 24 rfl rfl [.tmp 2] rfl ?_;intro w0 F η0 h0;conv=>whnf
 refine wj.nil 3 1 rfl ?_;refine wj.go Z0 [0] (X:=Nat×List UInt8) (fun y=>y.1<=m/\y.2.length<=((ps.take (a+y.1)).map List.length).sum+y.1/\(y.1≠0->∀p,ps[a]?=some p->∃t,y.2=p++t)/\(y.1=0->y.2=[])) (fun y=>[(3, .sl (.loc 1) 0 1 y.2.length none),(4, .int .i64 (y.1:Int))]) (fun y=>[(1, .rows 1 (y.2.map Sx.bytesRow))]) 2 (fun y=>m-y.1) (0,[]) ⟨by simp,by simp,by simp,by simp⟩ ?_;conv=>whnf
 refine⟨by exact w5.kA h0 [1],?_⟩;rintro⟨c,b⟩ ⟨hc,hl,hp,tL⟩;dsimp only at hc hl hp tL⊢;have Sr:=YP ps (a+c);rcases y9 c m with Ko|Ko
 .have hlt:a+c<ps.length:=by omega
  have hs1:=rz (z1 hlt);have hs2:=YP ps (a+c+1)
  have key:∀b':List UInt8,(c=0->b'=[])->(c≠0->∃t,b'=b++t)->∀p,ps[a]?=some p->∃t,b'++ps[a+c]=p++t:=by
   intro b' h1 h2 p hpa;by_cases h:c=0
   .subst h;obtain⟨h3,h4⟩:=zf.1 hpa;exact⟨[],by rw[h1 rfl,<-h4];simp⟩
   .obtain⟨t,ht⟩:=hp h p hpa;obtain⟨t',ht'⟩:=h2 h;exact⟨t++t'++ps[a+c],by rw[ht',ht];simp⟩
  conv=>whnf
  repeat'(first|refine GET.at (row:=Ze (ps[a+c]'(by omega))) (by rw[z6,show a+(c:Int).toNat=a+c by omega,z1 (by omega)];rfl) ?_|refine AU ?_|refine IW ?_ ?_<;>intro h<;>try omega)<;>conv=>whnf
  .refine⟨(c+1,b++ [45]++ps[a+c]),⟨by simp only;omega,?_,fun _=>key _ (fun h1=>by omega) (fun _=>⟨[45],rfl⟩),by simp⟩,by simp only;omega,?_⟩
   .simp only[zg,List.length_cons,List.length_nil];rw[show a+(c+1)=a+c+1 by omega,hs1];omega
   .dsimp only;have e:(b++ [45]++ps[a+c]).length=b.length+1+ps[a+c].length:=by simp;omega
    rw[e];conv=>whnf
    exact w5.kA h0 [4]
  .refine⟨(c+1,b++ps[a+c]),⟨by simp only;omega,?_,fun _=>key _ (fun h1=>tL h1) (fun h1=>by omega),by simp⟩,by simp only;omega,?_⟩
   .simp only[zg];rw[show a+(c+1)=a+c+1 by omega,hs1];omega
   .dsimp only;have e:(b++ps[a+c]).length=b.length+ps[a+c].length:=by simp
    rw[e];conv=>whnf
    exact w5.kA h0 [2]
 .conv=>whnf
  repeat'(first|refine IW ?_ ?_<;>intro h<;>try omega)<;>conv=>whnf
  refine wm.mk (Jq (by simp)) ?_;conv=>whnf
  refine wh.val h0 rfl ⟨b,by omega,fun p hpa=>?_,by rw[UC],rfl,rfl⟩;have:=(zf.1 hpa).1;exact hp (by omega) p hpa
open _root_.Go.Proofs.Tryz
def b7(i m:Nat):Hp:= .box [.sl (.loc 1) i 1 m none]
def dm(L E S R:List UInt8)(jv v jx x:Nat)(P:List UInt8):Hp:= .box [.str L, .str E, .str S, .str R, .sl (.loc jv) 0 1 v none, .sl (.loc jx) 0 1 x none, .str P]
theorem JL(least most:Int)(digits:Bool)(ps:List (List UInt8))(qW:∀s∈ps,Sm s)(i m:Nat)(him:i+m=ps.length):
 uX prog wD 288 2 [.ptr (.loc 0) 0 0 0, .int .i64 least, .int .i64 most, .bool digits] [] [(0,b7 i m),(1, .rows 1 (ps.map Ze))] (qE 2 (.bool (YD (nu least most digits) ps i))):=by
 refine uX.enter Z0 call288 func288 rfl 52 rfl rfl [.tmp 8] rfl ?_;intro w0 F η0 h0;conv=>whnf
 rcases xl m with hm|hm
 .subst hm;repeat'(first|refine dI.mk ⟨Ze [],fun h=>(by simp at h),?_⟩|refine AU ?_|refine IW ?_ ?_<;>intro h<;>try omega)<;>conv=>whnf
  all_goals first
   |(refine wh.wC h0 rfl (ze SV.bool ?_)
     unfold YD;rw[zS (by omega)])
   |(exfalso;simp_all;done)
 .have hlt:i<ps.length:=by omega
  have dJ:YD (nu least most digits) ps i=nu least most digits ps[i]:=by unfold YD;rw[z1 hlt]
  have hs:=qW _ (zm hlt);repeat'(first|refine GET.at (row:=Ze (ps[i]'(by omega))) (by rw[z6,show i+(0:Int).toNat=i by simp,z1 (by omega)];rfl) ?_|refine dI.at (row:=Ze (ps[i]'(by omega))) (by rw[z6,show i+(0:Int).toNat=i by simp,z1 (by omega)];rfl) ?_|refine CALL.value (Sn _ hs) rfl rfl ?_|refine CALL.value (Vp _ hs) rfl rfl ?_|refine AU ?_|refine IW ?_ ?_<;>intro h<;>try omega)<;>conv=>whnf
  all_goals
   refine wh.wC h0 rfl (ze SV.bool ?_);rw[dJ];unfold nu
  rw[show decide (least<=(ps[i].length:Int)/\(ps[i].length:Int)<=most)=false from ye (by omega)];rfl;rw[show decide (least<=(ps[i].length:Int)/\(ps[i].length:Int)<=most)=true from yu (by omega)];simp[h];rw[show decide (least<=(ps[i].length:Int)/\(ps[i].length:Int)<=most)=true from yu (by omega)];simp[h]
theorem YR(ps:List (List UInt8))(i m:Nat)(him:i+(m+1)=ps.length)(p:List UInt8)(hp:ps[i]?=some p):
 uX prog wD 289 2 [.ptr (.loc 0) 0 0 0] [(0,b7 i (m+1))] [(1, .rows 1 (ps.map Ze))] (fun r O nx=>r= .str p/\O=[(0,b7 (i+1) m)]/\nx=2):=by
 refine uX.enter Z0 call289 func289 rfl 19 rfl rfl [.tmp 2] rfl ?_;intro w0 F η0 h0;conv=>whnf
 repeat'(first|refine GET.at (row:=Ze p) (by rw[z6,show i+(0:Int).toNat=i by simp,hp];rfl) ?_|refine AU ?_)<;>conv=>whnf
 exact wh.here h0 (Oc:=[(0,b7 (i+1) m)]) rfl rfl rfl ⟨rfl,trivial⟩ ⟨rfl,rfl,rfl⟩
theorem Ss{b:Nat}:∀{l:List (List UInt8)},(∀s∈l,s.length<=b)->JD l<=b*l.length
 | [],_=>by simp[JD]
 |s::l,h=>by
  have h1:=h s (by simp);have h2:=Ss (l:=l) fun x hx=>h x (by simp[hx]);unfold JD at*;simp only[zI,List.sum_cons,List.length_cons,Nat.mul_add];omega
theorem ZlB:nu 3 3 false=fun s=>ZI s 3 3 true:=funext (J5 3 3)
theorem Z5C(ps:List (List UInt8))(hb:JD ps+ps.length<=68719476736)(i m:Nat)(him:i+m=ps.length):
 uX prog wD 287 5 [.ptr (.loc 0) 0 0 0, .ptr (.loc 2) 0 0 0] [(0,b7 i m),(2,dm [] [] [] [] 3 0 4 0 [])] [(1, .rows 1 (ps.map Ze))]
  (fun r O nx=> ∃(i' m':Nat) (L E:List UInt8),i'+m'=ps.length/\r= .bool (JQ (ps.drop i)).isSome/\(∀l,JQ (ps.drop i)=some l->l=ps.drop i'/\L≠ [])/\O=[(0,b7 i' m'),(2,dm L E [] [] 3 0 4 0 [])]/\nx=5):=by
 have qW:=Qe (ps:=ps) (by omega);refine uX.enter Z0 call287 func287 rfl 41 rfl rfl [.tmp 4] rfl ?_;intro w0 F η0 h0;conv=>whnf
 refine CALL.aA [0,1] (JL 2 3 false ps qW i m him) ?_;rintro r O' w8 ⟨rfl,rfl,rfl⟩;conv=>whnf
 refine IF.mk (fun h1=>?_) (fun h1=>?_)
 .obtain⟨w,hw,dh⟩:=ZQ h1;rw[J5]at dh;have oe:=Js dh;have hlt:=(zf.1 hw).1;obtain⟨k,rfl⟩:∃k,m=k+1:=⟨m-1,by omega⟩;have hne:w≠ []:=by rintro rfl;simp at oe
  have hL:JQ (ps.drop i)=some (e7 3 (ps.drop (i+1))):=by
   rw[ZX hw];simp only[JQ];rw[zh (by rw[Bu,J5,dh];rfl),z7 (by omega)]
  conv=>whnf
  refine CALL.aA [0,1] (YR ps i k him w hw) ?_;rintro r O' w8 ⟨rfl,rfl,rfl⟩;conv=>whnf
  refine wj.nil 5 1 rfl ?_;refine wj.go Z0 [0,1] (X:=List (List UInt8)×Nat) (fun y=>y.1.length<=3/\(∀s∈y.1,s.length<=3)/\y.2+(ps.length-y.2)=ps.length/\e7 3 (ps.drop (i+1))=e7 (3-y.1.length) (ps.drop y.2)) (fun y=>[(5, .sl (.loc 5) 0 1 y.1.length none)]) (fun y=>[(0,b7 y.2 (ps.length-y.2)),(2,dm w [] [] [] 3 0 4 0 []),(5, .rows 1 (y.1.map Ze))]) 6 (fun y=>3-y.1.length) ([],i+1) ⟨by simp,by simp,by simp only;omega,rfl⟩ ?_;conv=>whnf
  rw[show ps.length-(i+1)=k by omega];refine⟨by exact w5.kA h0 [5],?_⟩;rintro⟨l,a⟩ ⟨hl,hls,ha,hx⟩;dsimp only at hl hls ha hx⊢
  have fin:YD (fun s=>ZI s 3 3 true) ps a=false\/l.length=3->e7 3 (ps.drop (i+1))=ps.drop a:=by
   rintro(h|h);rw[hx,Rk h];rw[hx,h];rfl
  have gD:=Ss hls;conv=>whnf
  refine IF.mk (fun h=>?_) (fun h=>?_)
  .have h:l.length<3:=by simp at h;omega
   conv=>whnf
   repeat'(first|refine AU ?_)<;>conv=>whnf
   refine CALL.aA [0,1] (JL 3 3 false ps qW a (ps.length-a) ha) ?_;rintro r O' w8 ⟨rfl,rfl,rfl⟩;conv=>whnf
   repeat'(first|refine IW ?_ ?_<;>intro h<;>try omega)<;>conv=>whnf
   .obtain⟨u,hu,Ag⟩:=ZQ h;rw[J5]at Ag;have Kq:=Js Ag;have sC:=(zf.1 hu).1;obtain⟨k',hk'⟩:∃k',ps.length-a=k'+1:=⟨ps.length-a-1,by omega⟩;rw[hk'];refine CALL.aA [0,1] (YR ps a k' (by omega) u hu) ?_;rintro r O' w8 ⟨rfl,rfl,rfl⟩;conv=>whnf
    repeat'(first|refine AU ?_)<;>conv=>whnf
    refine⟨(l++ [u],a+1),⟨by simp;omega,?_,by simp only;omega,?_⟩,by simp;omega,?_⟩
    .intro x hx';rcases zW.1 hx' with h|h
     exact hls x h;rw[zL.1 h];omega
    .dsimp only;rw[hx,ZX hu,show 3-l.length=(3-(l++ [u]).length)+1 by simp;omega];simp only[e7];rw[zh Ag]
    .dsimp only;rw[show ps.length-(a+1)=k' by omega,show(l++ [u]).length=l.length+1 by simp];conv=>whnf
     exact w5.kA h0 [7]
   .rw[ZlB]at h;refine CALL.aA [5] (J7 l (by omega) 0 l.length (by omega)) ?_;rintro r O' w8 ⟨E,hE,_,rfl,rfl,rfl⟩;conv=>whnf
    exact wh.here h0 (Oc:=[(0,b7 (a) (ps.length-a)),(2,dm (w) (E) [] [] 3 0 4 0 [])]) rfl rfl rfl ⟨rfl,rfl,trivial⟩ ⟨a,ps.length-a,w,E,by omega,by rw[hL];rfl,by rw[hL];rintro x ⟨⟩;exact⟨fin (.inl h),hne⟩,rfl,rfl⟩
  .have h:l.length=3:=by simp at h;omega
   conv=>whnf
   repeat'(first|refine AU ?_)<;>conv=>whnf
   refine CALL.aA [5] (J7 l (by omega) 0 l.length (by omega)) ?_;rintro r O' w8 ⟨E,hE,_,rfl,rfl,rfl⟩;conv=>whnf
   exact wh.here h0 (Oc:=[(0,b7 (a) (ps.length-a)),(2,dm (w) (E) [] [] 3 0 4 0 [])]) rfl rfl rfl ⟨rfl,rfl,trivial⟩ ⟨a,ps.length-a,w,E,by omega,by rw[hL];rfl,by rw[hL];rintro x ⟨⟩;exact⟨fin (.inr h),hne⟩,rfl,rfl⟩
 .conv=>whnf
  refine CALL.aA [0,1] (JL 4 8 false ps qW i m him) ?_;rintro r O' w8 ⟨rfl,rfl,rfl⟩;conv=>whnf
  refine IF.mk (fun h2=>?_) (fun h2=>?_)
  .obtain⟨w,hw,dh⟩:=ZQ h2;have Ah:=dh;rw[J5]at dh;have oe:=Js dh;have hlt:=(zf.1 hw).1;obtain⟨k,rfl⟩:∃k,m=k+1:=⟨m-1,by omega⟩;have hne:w≠ []:=by rintro rfl;simp at oe
   have hL:JQ (ps.drop i)=some (ps.drop (i+1)):=by
    rw[ZX hw];simp only[JQ];rw[zh (by rw[Bu,Ah,uW]),zh (by omega)]
   conv=>whnf
   refine CALL.aA [0,1] (YR ps i k him w hw) ?_;rintro r O' w8 ⟨rfl,rfl,rfl⟩;conv=>whnf
   exact wh.here h0 (Oc:=[(0,b7 (i+1) (k)),(2,dm (w) ([]) [] [] 3 0 4 0 [])]) rfl rfl rfl ⟨rfl,rfl,trivial⟩ ⟨i+1,k,w,[],by omega,by rw[hL];rfl,by rw[hL];rintro x ⟨⟩;exact⟨rfl,hne⟩,rfl,rfl⟩
  .have hL:JQ (ps.drop i)=none:=by
    rcases XF h1 with h|⟨s,hs,h3,h4⟩
    rw[h];rfl
    .rcases XF h2 with h|⟨s',hs',h5,h6⟩
     rw[h]at h3;cases h3
     .rw[hs]at hs';cases hs';rw[h3];simp only[JQ];rw[z7 (by rw[Bu,h4,h6];simp)]
   conv=>whnf
   exact wh.here h0 (Oc:=[(0,b7 (i) (m)),(2,dm ([]) ([]) [] [] 3 0 4 0 [])]) rfl rfl rfl ⟨rfl,rfl,trivial⟩ ⟨i,m,[],[],by omega,by rw[hL];rfl,by simp[hL],rfl,rfl⟩
open _root_.Go.Proofs.Tryz
def St:wP:=(Zr [(0,1),(1,1),(2,1),(4,1),(9,1),(10,1),(3,2),(5,1),(6,2),(7,1),(11,2),(8,3),(12,3),(13,1)])
def Sv:wP:=(Zr [(0,1),(1,1),(2,1),(3,1),(5,1),(4,2),(6,3),(7,3),(8,0),(9,1),(10,1),(11,0)])
def kI(xs:List (List UInt8))(w:List UInt8):Bool:=xs.any fun x=>Z9 (x.take 1)==Z9 w
theorem EC{xs:List (List UInt8)}{w:List UInt8}{i:Nat}(h:i<xs.length):kI (xs.drop i) w=(Z9 (xs[i].take 1)==Z9 w||kI (xs.drop (i+1)) w):=by
 unfold kI;rw[zq h];rfl
theorem Wt(ps:List (List UInt8))(hb:JD ps+ps.length<=34359738368)(a m:Nat)(EB:a+(m+1)=ps.length)(w:List UInt8)(hw:ps[a]?=some w)(hw1:w.length=1)
 (L E S R:List UInt8) (v:Nat) (P:List UInt8) (xs:List (List UInt8)) (hxs:∀x∈xs,1<=x.length/\Sm x) (hxl:xs.length<=34359738368):
 uX prog wD 292 5 [.ptr (.loc 0) 0 0 0, .ptr (.loc 2) 0 0 0] [(0,b7 a (m+1)),(2,dm L E S R 3 v 4 xs.length P),(4, .rows 1 (xs.map Ze))] [(1, .rows 1 (ps.map Ze))]
  (fun r O nx=> ∃(n:Nat) (xs':List (List UInt8)),n=ZW (YK 2) (ps.drop (a+1))/\r= .bool (!kI xs w&&decide (n≠0))/\(kI xs w=false->∃z,xs'=xs++ [z]/\z.take 1=w/\Sm z)/\
    O=[(0,b7 (a+1+n) (m-n)),(2,dm L E S R 3 v 5 xs'.length P),(5, .rows 1 (xs'.map Ze))]/\nx=6):=by
 have qW:=Qe (ps:=ps) (by omega);have oe:Sm w:=qW w (zU hw);refine uX.enter Z0 call292 func292 rfl 69 rfl rfl [.tmp 4] rfl ?_;intro w0 F η0 h0;conv=>whnf
 refine CALL.aA [0,1] (YR ps a m EB w hw) ?_;rintro r O' w8 ⟨rfl,rfl,rfl⟩;conv=>whnf
 refine wj.go Z0 [0,1] (X:=Nat×List (List UInt8)) (fun y=>y.1<=m/\y.2.length=y.1+1/\y.2[0]?=some w/\JD y.2<=((ps.take (a+1+y.1)).map List.length).sum/\ZW (YK 2) (ps.drop (a+1))=y.1+ZW (YK 2) (ps.drop (a+1+y.1))) (fun y=>[(5, .sl (.loc 5) 0 1 y.2.length none)]) (fun y=>[(0,b7 (a+1+y.1) (m-y.1)),(2,dm L E S R 3 v 4 xs.length P),(4, .rows 1 (xs.map Ze)),(5, .rows 1 (y.2.map Ze))]) 6 (fun y=>m-y.1) (0,[w]) ⟨by simp,by simp,by simp,?_,by simp⟩ ?_
 .simp only[Nat.add_zero];rw[rz hw];simp[JD]
 conv=>whnf
 refine⟨by exact w5.kA h0 [5],?_⟩;rintro⟨c,l⟩ ⟨hc,hl,hl0,hlb,hx⟩;dsimp only at hc hl hl0 hlb hx⊢;have z6K:=YP ps (a+1+c);have out:∀(n:Nat),ZW (YK 2) (ps.drop (a+1+c))=0->ZW (YK 2) (ps.drop (a+1))=c:=by intro n h;omega
 conv=>whnf
 rcases y9 c m with Ko|Ko
 .have hlt:a+1+c<ps.length:=by omega
  have hs:=qW _ (zm hlt);have hs1:=rz (z1 hlt);repeat'(first|refine GET.at (row:=Ze (ps[a+1+c]'(by omega))) (by rw[z6,show a+1+c+(0:Int).toNat=a+1+c by simp,z1 (by omega)];rfl) ?_|refine CALL.value (Vq _ _ _ hs) rfl rfl ?_|refine AU ?_|refine IW ?_ ?_<;>intro h<;>try omega)<;>conv=>whnf
  .obtain⟨k',hk'⟩:∃k',m-c=k'+1:=⟨m-c-1,by omega⟩;rw[hk'];refine CALL.aA [0,1] (YR ps (a+1+c) k' (by omega) _ (z1 hlt)) ?_;rintro r O' w8 ⟨rfl,rfl,rfl⟩;conv=>whnf
   repeat'(first|refine AU ?_)<;>conv=>whnf
   have e:(l++ [ps[a+1+c]]).length=l.length+1:=by simp
   refine⟨(c+1,l++ [ps[a+1+c]]),⟨by simp only;omega,by simp;omega,by simp only;rw[zn (by omega),hl0],?_,?_⟩,by simp only;omega,?_⟩
   .simp only;rw[show a+1+(c+1)=a+1+c+1 by omega,hs1];simp[JD]at hlb⊢;omega
   .simp only;rw[hx,zq hlt];simp only[ZW];rw[zh h];show c+(ZW _ _+1)=_
    rw[show a+1+(c+1)=a+1+c+1 by omega];omega
   .dsimp only;rw[e,show a+1+(c+1)=a+1+c+1 by omega,show m-(c+1)=k' by omega];conv=>whnf
    exact w5.kA h0 [7]
  .have hn:ZW (YK 2) (ps.drop (a+1))=c:=by
    rw[hx,zq hlt];simp only[ZW];rw[z7 (by simp[h])];rfl
   refine wj.go Z0 [1,5] (X:=Nat) (fun i=>i<=xs.length/\kI xs w=kI (xs.drop i) w) (fun i=>[(7, .int .i64 (i:Int))]) (fun i=>[(0,b7 (a+1+c) (m-c)),(2,dm L E S R 3 v 4 xs.length P),(4, .rows 1 (xs.map Ze)),(5, .rows 1 (l.map Ze))]) 6 (fun i=>xs.length-i) 0 ⟨by omega,rfl⟩ ?_;conv=>whnf
   refine⟨by exact w5.kA h0 [5],?_⟩;rintro i ⟨hi,hd⟩;dsimp only at hi hd⊢;conv=>whnf
   rcases y9 i xs.length with him|him
   .obtain⟨hx1,hx2⟩:=hxs _ (zm him);have hsub:Sm (xs[i].take (1:Int).toNat):=by simp;omega
    repeat'(first|refine Z3 8 St ?_|refine qJ.mk (fun _ _=>?_)|refine AD ?_|refine GET.at (row:=Ze (xs[i]'(by omega))) (by rw[z6,show 0+(i:Int).toNat=i by simp,z1 (by omega)];rfl) ?_|refine GET.at (row:=Ze w) (by rw[z6,show 0+(0:Int).toNat=0 by simp,hl0];rfl) ?_|refine CALL.value (YG _ hsub) rfl rfl ?_|refine CALL.value (YG _ oe) rfl rfl ?_|refine AU ?_|refine IW ?_ ?_<;>intro h<;>try omega)<;>conv=>whnf
    .have bX:kI xs w=true:=by rw[hd,EC him,x5.2 h];rfl
     refine wh.aA h0 [4] (.bool false) [(0,b7 (a+1+c) (m-c)),(2,dm L E S R 3 v 5 xs.length P),(5, .rows 1 (xs.map Ze))] ?_;exact⟨c,xs,hn.symm,by rw[bX];rfl,by simp[bX],rfl,rfl⟩
    .refine⟨i+1,⟨by omega,?_⟩,by omega,?_⟩
     .rw[hd,EC him];have:(Z9 (xs[i].take 1)==Z9 w)=false:=by simpa using h
      rw[this,xJ]
     .conv=>whnf
      exact w5.kA h0 [5]
   .have bX:kI xs w=false:=by rw[hd,zN (by omega)];rfl
    repeat'(first|refine Z3 10 Sv ?_|refine qJ.mk (fun _ _=>?_)|refine AD ?_|refine IW ?_ ?_<;>intro h<;>try omega)<;>conv=>whnf
    refine CALL.aA [5] (J7 l (by omega) 0 l.length (by omega)) ?_;rintro r O' w8 ⟨z,hz,Ai,rfl,rfl,rfl⟩;conv=>whnf
    repeat'(first|refine qJ.mk (fun _ _=>?_)|refine AU ?_)<;>conv=>whnf
    obtain⟨t,rfl⟩:=Ai w hl0;have e:(xs++ [w++t]).length=xs.length+1:=by simp
    have ec:decide ((1:Int)< (l.length:Int))=decide (c≠0):=vg.2 (by omega);rw[ec];refine wh.aA h0 [7] (.bool (decide (c≠0))) [(0,b7 (a+1+c) (m-c)),(2,dm L E S R 3 v 5 (xs.length+1) P),(5, .rows 1 ((xs++ [w++t]).map Ze))] ?_;exact⟨c,xs++ [w++t],hn.symm,by rw[bX];rfl,fun _=>⟨_,rfl,by rw[xk (by omega),zi (by omega)],by omega⟩,by rw[e],rfl⟩
 .repeat'(first|refine AU ?_|refine IW ?_ ?_<;>intro h<;>try omega)<;>conv=>whnf
  have hn:ZW (YK 2) (ps.drop (a+1))=c:=by
   rw[hx,zN (by omega)];rfl
  refine wj.go Z0 [1,5] (X:=Nat) (fun i=>i<=xs.length/\kI xs w=kI (xs.drop i) w) (fun i=>[(7, .int .i64 (i:Int))]) (fun i=>[(0,b7 (a+1+c) (m-c)),(2,dm L E S R 3 v 4 xs.length P),(4, .rows 1 (xs.map Ze)),(5, .rows 1 (l.map Ze))]) 6 (fun i=>xs.length-i) 0 ⟨by omega,rfl⟩ ?_;conv=>whnf
  refine⟨by exact w5.kA h0 [5],?_⟩;rintro i ⟨hi,hd⟩;dsimp only at hi hd⊢;conv=>whnf
  rcases y9 i xs.length with him|him
  .obtain⟨hx1,hx2⟩:=hxs _ (zm him);have hsub:Sm (xs[i].take (1:Int).toNat):=by simp;omega
   repeat'(first|refine Z3 8 St ?_|refine qJ.mk (fun _ _=>?_)|refine AD ?_|refine GET.at (row:=Ze (xs[i]'(by omega))) (by rw[z6,show 0+(i:Int).toNat=i by simp,z1 (by omega)];rfl) ?_|refine GET.at (row:=Ze w) (by rw[z6,show 0+(0:Int).toNat=0 by simp,hl0];rfl) ?_|refine CALL.value (YG _ hsub) rfl rfl ?_|refine CALL.value (YG _ oe) rfl rfl ?_|refine AU ?_|refine IW ?_ ?_<;>intro h<;>try omega)<;>conv=>whnf
   .have bX:kI xs w=true:=by rw[hd,EC him,x5.2 h];rfl
    refine wh.aA h0 [4] (.bool false) [(0,b7 (a+1+c) (m-c)),(2,dm L E S R 3 v 5 xs.length P),(5, .rows 1 (xs.map Ze))] ?_;exact⟨c,xs,hn.symm,by rw[bX];rfl,by simp[bX],rfl,rfl⟩
   .refine⟨i+1,⟨by omega,?_⟩,by omega,?_⟩
    .rw[hd,EC him];have:(Z9 (xs[i].take 1)==Z9 w)=false:=by simpa using h
     rw[this,xJ]
    .conv=>whnf
     exact w5.kA h0 [5]
  .have bX:kI xs w=false:=by rw[hd,zN (by omega)];rfl
   repeat'(first|refine Z3 10 Sv ?_|refine qJ.mk (fun _ _=>?_)|refine AD ?_|refine IW ?_ ?_<;>intro h<;>try omega)<;>conv=>whnf
   refine CALL.aA [5] (J7 l (by omega) 0 l.length (by omega)) ?_;rintro r O' w8 ⟨z,hz,Ai,rfl,rfl,rfl⟩;conv=>whnf
   repeat'(first|refine qJ.mk (fun _ _=>?_)|refine AU ?_)<;>conv=>whnf
   obtain⟨t,rfl⟩:=Ai w hl0;have e:(xs++ [w++t]).length=xs.length+1:=by simp
   have ec:decide ((1:Int)< (l.length:Int))=decide (c≠0):=vg.2 (by omega);rw[ec];refine wh.aA h0 [7] (.bool (decide (c≠0))) [(0,b7 (a+1+c) (m-c)),(2,dm L E S R 3 v 5 (xs.length+1) P),(5, .rows 1 ((xs++ [w++t]).map Ze))] ?_;exact⟨c,xs++ [w++t],hn.symm,by rw[bX];rfl,fun _=>⟨_,rfl,by rw[xk (by omega),zi (by omega)],by omega⟩,by rw[e],rfl⟩
theorem Sw(ps:List (List UInt8))(hb:JD ps+ps.length<=34359738368)(a m:Nat)(EB:a+m=ps.length)(ha:a<ps.length)
 (L E S R:List UInt8) (v x:Nat) (P:List UInt8):
 uX prog wD 293 5 [.ptr (.loc 0) 0 0 0, .ptr (.loc 2) 0 0 0] [(2,dm L E S R 3 v 4 x P)] [(0,b7 a m),(1, .rows 1 (ps.map Ze))]
  (fun r O nx=> ∃P',r= .bool (decide (ZW (YK 1) (ps.drop (a+1))≠0/\ZW (YK 1) (ps.drop (a+1))=(ps.drop (a+1)).length))/\O=[(2,dm L E S R 3 v 4 x P')]/\nx=5):=by
 have qW:=Qe (ps:=ps) (by omega);have cH:=U2 (YK 1) (ps.drop (a+1));rw[zF]at cH⊢;refine uX.enter Z0 call293 func293 rfl 40 rfl rfl [.tmp 4] rfl ?_;intro w0 F η0 h0;conv=>whnf
 refine CALL.aA [1] (J7 ps (by omega) a m EB) ?_;rintro r O' w8 ⟨z,hz,_,rfl,rfl,rfl⟩;conv=>whnf
 refine IF.mk (fun h=>?_) (fun h=>?_)
 .have h:m<2:=by simp at h;omega
  conv=>whnf
  exact wh.here h0 (rc:= .bool _) (Oc:=[(2,dm L E S R 3 v 4 x z)]) rfl rfl rfl ⟨rfl,trivial⟩ ⟨z,ze SV.bool (ye (by omega)).symm,rfl,rfl⟩
 have h:2<=m:=by simp at h;omega
 conv=>whnf
 refine wj.go Z0 [0] (X:=Nat) (fun i=>1<=i/\i<=m/\ZW (YK 1) (ps.drop (a+1))=(i-1)+ZW (YK 1) (ps.drop (a+i))) (fun i=>[(5, .int .i64 (i:Int))]) (fun i=>[(2,dm L E S R 3 v 4 x z)]) 5 (fun i=>m-i) 1 ⟨by omega,by omega,by simp⟩ ?_;conv=>whnf
 refine⟨by exact w5.cA h0,?_⟩;rintro i ⟨hi1,hi,hx⟩;dsimp only at hi1 hi hx⊢;conv=>whnf
 rcases y9 i m with him|him
 .have hlt:a+i<ps.length:=by omega
  have hs:=qW _ (zm hlt);rw[zq hlt]at hx;simp only[ZW]at hx;repeat'(first|refine GET.at (row:=Ze (ps[a+i]'(by omega))) (by rw[z6,show a+(i:Int).toNat=a+i by simp,z1 (by omega)];rfl) ?_|refine CALL.value (Vq _ _ _ hs) rfl rfl ?_|refine AU ?_|refine IW ?_ ?_<;>intro h<;>try omega)<;>conv=>whnf
  .rw[z7 (by simp[YK,h])]at hx;exact wh.here h0 (rc:= .bool _) (Oc:=[(2,dm L E S R 3 v 4 x z)]) rfl rfl rfl ⟨rfl,trivial⟩ ⟨z,ze SV.bool (ye (by omega)).symm,rfl,rfl⟩
  .rw[zh (by simp[YK,h])]at hx;refine⟨i+1,⟨by omega,by omega,by rw[hx,show a+(i+1)=a+i+1 by omega];omega⟩,by omega,?_⟩;conv=>whnf
   exact w5.cA h0
 .rw[show ps.drop (a+i)=[]from zN (by omega)]at hx;simp only[ZW]at hx;repeat'(first|refine IW ?_ ?_<;>intro h<;>try omega)<;>conv=>whnf
  exact wh.here h0 (rc:= .bool _) (Oc:=[(2,dm L E S R 3 v 4 x z)]) rfl rfl rfl ⟨rfl,trivial⟩ ⟨z,ze SV.bool (yu (by omega)).symm,rfl,rfl⟩
open _root_.Go.Proofs.Tryz
theorem Sy(s:List UInt8):(Z9 s !=[120])=!Y1 s:=by rw[YX];rfl
def lq(i m:Nat):Hp:= .box [.sl (.loc 2) i 1 m none]
def Fe:Hp:= .box [.str [], .str [], .str [], .str [], .val (.slice none 0 0), .val (.slice none 0 0), .str []]
def oq:Fr:=[(2, .ptr (.loc 0) 0 0 0),(4, .ptr (.loc 1) 0 0 0),(5, .ptr (.loc 3) 0 0 0)]
def OT(ps:List (List UInt8))(a:Nat)(L E S R:List UInt8):w9:=[(0,Fe),(1,dm L E S R 4 0 5 0 []),(2, .rows 1 (ps.map Ze)),(3,lq a (ps.length-a)),(4, .rows 1 []),(5, .rows 1 [])]
def pO(l:List (List UInt8)):Bool:=match YO [] l with
 |none=>false
 |some (l,seen)=>match Y2 seen l with
  |none=>false
  |some l=>U3 l
theorem ZlD:nu 4 4 false=fun s=>ZI s 4 4 true:=funext (J5 4 4)
theorem Sz{s:List UInt8}(h:Jr s=true):4<=s.length:=by
 unfold Jr at h;simp only[yI,zk]at h;rcases h with h|h
 have:=Js h;omega;have:=Js h.1;omega
theorem ZfH(s:List UInt8)(hs:s.length<=8589934592):uX prog wD 246 0 [.str s] [] [] (qd (.wM [.agg (aM 7), .int .i64 (if qB (Zw s)=true then 0 else 61)])):=by
 have GY:=Bt s;have hlen:=Eb s;have hne:=Ea s;generalize hps:Zw s=ps at*;have hb:JD ps+ps.length<=34359738368:=by unfold JD;omega
 have qW:=Qe (ps:=ps) (by omega)
 obtain⟨p0,nV⟩:∃p0,ps[0]?=some p0:=by
  cases ps with
  |nil=>exact(hne rfl).elim
  |cons a t=>exact⟨a,rfl⟩
 have Aj:=qW p0 (zU nV)
 have tM:Ki Y1 ps=Y1 p0:=by
  cases ps with
  |nil=>cases nV
  |cons a t=>have:a=p0:=by simpa using nV
             subst this;rfl
 refine uX.enter Z0 call246 func246 rfl 152 rfl rfl [.cell 2 223, .tmp 3] rfl ?_;intro w0 F η0 h0;conv=>whnf
 apply Zhc (X:=Nat×List UInt8×List UInt8×List UInt8×List UInt8) (n:=6) (fun x=>qB ps=pO (ps.drop x.1)/\x.1<=ps.length) (fun _=>oq) (fun x=>OT ps x.1 x.2.1 x.2.2.1 x.2.2.2.1 x.2.2.2.2);intro K;refine CALL.Q9 (Z99 s (by omega)) rfl (Yn _) ?_;rw[hps,zA];have hpos:0<ps.length:=(zf.1 nV).1;conv=>whnf
 repeat'(first|refine GET.at (row:=Ze p0) (by rw[z6,show 0+(0:Int).toNat=0 by simp,nV];rfl) ?_|refine AU ?_)<;>conv=>whnf
 refine CALL.qC 1 4 1 rfl rfl ?_;refine CALL.qC 1 5 1 rfl rfl ?_;refine CALL.value (YG _ Aj) rfl rfl ?_;conv=>whnf
 refine IF.mk (fun h=>?_) (fun h=>?_)
 .rw[Sy]at h;have o9:Ki Y1 ps=false:=by rw[tM];simpa using h
  have Ff:∀l,JQ (ps.drop 0)=some l->qB ps=pO (Ja Xd (Ja (fun s=>ZI s 4 4 true) l)):=by
   intro l hl;have hl:JQ ps=some l:=hl;unfold qB pO;rw[z7 (by simp[o9]),hl];simp only[Xq];cases YO [] (Ja Xd (Ja (fun s=>ZI s 4 4 true) l))with
   |none=>rfl
   |some x=>obtain⟨l',seen⟩:=x;rfl
  conv=>whnf
  refine CALL.aA [3,2,1,4,5] (Z5C ps (by omega) 0 ps.length (by omega)) ?_;rintro r O' w8 ⟨i1,m1,L,E,s6,rfl,hL,rfl,rfl⟩;cases h2:JQ (ps.drop 0)with
  |none=>
   have kB:qB ps=false:=by
    have h2:JQ ps=none:=h2;unfold qB;rw[z7 (by simp[o9]),h2]
   rw[Option.isSome_none];conv=>whnf
   repeat'(first|refine IW ?_ ?_<;>intro h<;>try omega)<;>conv=>whnf
   refine wh.gx 7 h0 rfl rfl rfl ⟨?_,rfl,rfl⟩;rw[kB];rfl
  |some l1=>
   obtain⟨ga,aT⟩:=hL l1 h2;subst ga;have hc1:=Ff _ h2;rw[Option.isSome_some];conv=>whnf
   repeat'(first|refine IF.yes (b:=L !=[]) (by simpa using aT) ?_|refine AU ?_|refine IW ?_ ?_<;>intro h<;>try omega)<;>conv=>whnf
   refine CALL.aA [3,2] (JL 4 4 false ps qW i1 m1 s6) ?_;rintro r O' w8 ⟨rfl,rfl,rfl⟩;rw[ZlD];conv=>whnf
   (repeat(first|((with_reducible refine IF.tt ?_);conv=>whnf)|((with_reducible refine IF.ff ?_);conv=>whnf)))
   refine IF.mk (fun h4=>?_) (fun h4=>?_)
   .obtain⟨w1,hw1,Ak⟩:=ZQ h4;have z6N:=(zf.1 hw1).1;obtain⟨k1,rfl⟩:∃k1,m1=k1+1:=⟨m1-1,by omega⟩;rw[VK hw1 Ak]at hc1;conv=>whnf
    refine CALL.aA [3,2] (YR ps i1 k1 s6 w1 hw1) ?_;rintro r O' w8 ⟨rfl,rfl,rfl⟩;conv=>whnf
    repeat'(first|refine IF.yes (b:=L !=[]) (by simpa using aT) ?_|refine AU ?_)<;>conv=>whnf
    refine CALL.aA [3,2] (JL 2 2 false ps qW (i1+1) (k1) (by omega)) ?_;rintro r O' w8 ⟨rfl,rfl,rfl⟩;conv=>whnf
    (repeat(first|((with_reducible refine IF.tt ?_);conv=>whnf)|((with_reducible refine IF.ff ?_);conv=>whnf)))
    refine IF.mk (fun h5=>?_) (fun h5=>?_)
    .have cI:∃q,ps[i1+1]?=some q/\Xd q=true:=by
      obtain⟨q,hq,fL⟩:=ZQ h5;exact⟨q,hq,by rw[Jm,fL];rfl⟩
     conv=>whnf
     repeat'(first|refine AU ?_|refine IW ?_ ?_<;>intro h<;>try omega)<;>conv=>whnf
     obtain⟨q,hq,fL⟩:=cI;have sC:=(zf.1 hq).1;obtain⟨k2,hk2⟩:∃k2,k1=k2+1:=⟨k1-1,by omega⟩;have kB:qB ps=pO (ps.drop (i1+1+1)):=by rw[hc1,VK hq fL]
     rw[hk2];conv=>whnf
     refine CALL.aA [3,2] (YR ps (i1+1) k2 (by omega) q hq) ?_;rintro r O' w8 ⟨rfl,rfl,rfl⟩;conv=>whnf
     refine wj.goes (fr':=oq) (O':=OT ps (i1+1+1) L E w1 q) (n1:=6) ?_ (K (i1+1+1,L,E,w1,q) ⟨kB,by simp only;omega⟩);unfold oq OT;rw[show ps.length-(i1+1+1)=k2 by omega];exact w5.kA h0 [0,1,2,3,4,5]
    .conv=>whnf
     repeat'(first|refine AU ?_)<;>conv=>whnf
     refine CALL.aA [3,2] (JL 3 3 true ps qW (i1+1) (k1) (by omega)) ?_;rintro r O' w8 ⟨rfl,rfl,rfl⟩;conv=>whnf
     (repeat(first|((with_reducible refine IF.tt ?_);conv=>whnf)|((with_reducible refine IF.ff ?_);conv=>whnf)))
     refine IF.mk (fun h6=>?_) (fun h6=>?_)
     .have cI:∃q,ps[i1+1]?=some q/\Xd q=true:=by
       obtain⟨q,hq,fL⟩:=ZQ h6;exact⟨q,hq,by rw[Jm,fL,uW]⟩
      conv=>whnf
      skip
      obtain⟨q,hq,fL⟩:=cI;have sC:=(zf.1 hq).1;obtain⟨k2,hk2⟩:∃k2,k1=k2+1:=⟨k1-1,by omega⟩;have kB:qB ps=pO (ps.drop (i1+1+1)):=by rw[hc1,VK hq fL]
      rw[hk2];conv=>whnf
      refine CALL.aA [3,2] (YR ps (i1+1) k2 (by omega) q hq) ?_;rintro r O' w8 ⟨rfl,rfl,rfl⟩;conv=>whnf
      refine wj.goes (fr':=oq) (O':=OT ps (i1+1+1) L E w1 q) (n1:=6) ?_ (K (i1+1+1,L,E,w1,q) ⟨kB,by simp only;omega⟩);unfold oq OT;rw[show ps.length-(i1+1+1)=k2 by omega];exact w5.kA h0 [0,1,2,3,4,5]
     .have cI:YD Xd ps (i1+1)=false:=by
       unfold YD at*;cases hq:ps[i1+1]? with
       |none=>rfl
       |some q=>rw[hq]at h5 h6;simp only at h5 h6⊢;rw[Jm,h5];exact h6
      have kB:qB ps=pO (ps.drop (i1+1)):=by rw[hc1,Kj cI]
      conv=>whnf
      skip
      refine wj.goes (fr':=oq) (O':=OT ps (i1+1) L E w1 []) (n1:=6) ?_ (K (i1+1,L,E,w1,[]) ⟨kB,by simp only;omega⟩);unfold oq OT;rw[show ps.length-(i1+1)=k1 by omega];exact w5.kA h0 [0,1,2,3,4,5]
   .rw[Kj h4]at hc1;conv=>whnf
    repeat'(first|refine IF.yes (b:=L !=[]) (by simpa using aT) ?_|refine AU ?_)<;>conv=>whnf
    refine CALL.aA [3,2] (JL 2 2 false ps qW (i1) (m1) (by omega)) ?_;rintro r O' w8 ⟨rfl,rfl,rfl⟩;conv=>whnf
    (repeat(first|((with_reducible refine IF.tt ?_);conv=>whnf)|((with_reducible refine IF.ff ?_);conv=>whnf)))
    refine IF.mk (fun h5=>?_) (fun h5=>?_)
    .have cI:∃q,ps[i1]?=some q/\Xd q=true:=by
      obtain⟨q,hq,fL⟩:=ZQ h5;exact⟨q,hq,by rw[Jm,fL];rfl⟩
     conv=>whnf
     repeat'(first|refine AU ?_|refine IW ?_ ?_<;>intro h<;>try omega)<;>conv=>whnf
     obtain⟨q,hq,fL⟩:=cI;have sC:=(zf.1 hq).1;obtain⟨k2,hk2⟩:∃k2,m1=k2+1:=⟨m1-1,by omega⟩;have kB:qB ps=pO (ps.drop (i1+1)):=by rw[hc1,VK hq fL]
     rw[hk2];conv=>whnf
     refine CALL.aA [3,2] (YR ps (i1) k2 (by omega) q hq) ?_;rintro r O' w8 ⟨rfl,rfl,rfl⟩;conv=>whnf
     refine wj.goes (fr':=oq) (O':=OT ps (i1+1) L E [] q) (n1:=6) ?_ (K (i1+1,L,E,[],q) ⟨kB,by simp only;omega⟩);unfold oq OT;rw[show ps.length-(i1+1)=k2 by omega];exact w5.kA h0 [0,1,2,3,4,5]
    .conv=>whnf
     repeat'(first|refine AU ?_)<;>conv=>whnf
     refine CALL.aA [3,2] (JL 3 3 true ps qW (i1) (m1) (by omega)) ?_;rintro r O' w8 ⟨rfl,rfl,rfl⟩;conv=>whnf
     (repeat(first|((with_reducible refine IF.tt ?_);conv=>whnf)|((with_reducible refine IF.ff ?_);conv=>whnf)))
     refine IF.mk (fun h6=>?_) (fun h6=>?_)
     .have cI:∃q,ps[i1]?=some q/\Xd q=true:=by
       obtain⟨q,hq,fL⟩:=ZQ h6;exact⟨q,hq,by rw[Jm,fL,uW]⟩
      conv=>whnf
      skip
      obtain⟨q,hq,fL⟩:=cI;have sC:=(zf.1 hq).1;obtain⟨k2,hk2⟩:∃k2,m1=k2+1:=⟨m1-1,by omega⟩;have kB:qB ps=pO (ps.drop (i1+1)):=by rw[hc1,VK hq fL]
      rw[hk2];conv=>whnf
      refine CALL.aA [3,2] (YR ps (i1) k2 (by omega) q hq) ?_;rintro r O' w8 ⟨rfl,rfl,rfl⟩;conv=>whnf
      refine wj.goes (fr':=oq) (O':=OT ps (i1+1) L E [] q) (n1:=6) ?_ (K (i1+1,L,E,[],q) ⟨kB,by simp only;omega⟩);unfold oq OT;rw[show ps.length-(i1+1)=k2 by omega];exact w5.kA h0 [0,1,2,3,4,5]
     .have cI:YD Xd ps (i1)=false:=by
       unfold YD at*;cases hq:ps[i1]? with
       |none=>rfl
       |some q=>rw[hq]at h5 h6;simp only at h5 h6⊢;rw[Jm,h5];exact h6
      have kB:qB ps=pO (ps.drop (i1)):=by rw[hc1,Kj cI]
      conv=>whnf
      skip
      refine wj.goes (fr':=oq) (O':=OT ps (i1) L E [] []) (n1:=6) ?_ (K (i1,L,E,[],[]) ⟨kB,by simp only;omega⟩);unfold oq OT;rw[show ps.length-(i1)=m1 by omega];exact w5.kA h0 [0,1,2,3,4,5]
 .rw[Sy]at h;have o9:Y1 p0=true:=by simpa using h
  have kB:qB ps=pO (ps.drop 0):=by
   unfold qB pO;rw[zh (by rw[tM,o9]),ZX nV]
   have h4:¬4<=p0.length:=by
    have:=o9;unfold Y1 at this;simp at this;rcases this with rfl|rfl<;>simp
   have hv:Jr p0≠true:=fun h=>h4 (Sz h);simp only[YO];rw[z7 hv];simp only;rw[Y2,z7 (by unfold Xp;simp[o9])];simp only;rw[<-ZX nV];rfl
  conv=>whnf
  repeat'(first|refine AU ?_|refine IW ?_ ?_<;>intro h<;>try omega)<;>conv=>whnf
  refine wj.goes (fr':=oq) (O':=OT ps (0) [] [] [] []) (n1:=6) ?_ (K (0,[],[],[],[]) ⟨kB,by simp only;omega⟩);unfold oq OT;rw[show ps.length-(0)=ps.length by omega];exact w5.kA h0 [0,1,2,3,4,5]
 rintro⟨a0,L,E,S,R⟩ ⟨kB,ha0⟩;dsimp only at kB ha0⊢;unfold oq OT;refine wj.go Z0 [2,4,5] (X:=Nat×List (List UInt8)) (fun y=>y.1<=ps.length/\y.2.length<=y.1/\(∀s∈y.2,4<=s.length/\Sm s)/\YO [] (ps.drop a0)=YO (y.2.map Z9) (ps.drop y.1)) (fun y=>[]) (fun y=>[(0,Fe),(1,dm L E S R 4 y.2.length 5 0 []),(2, .rows 1 (ps.map Ze)),(3,lq y.1 (ps.length-y.1)),(4, .rows 1 (y.2.map Ze)),(5, .rows 1 [])]) 6 (fun y=>ps.length-y.1) (a0,[]) ⟨by simp only;omega,by simp,by simp,rfl⟩ ?_;conv=>whnf
 refine⟨by exact w5.kA h0 [0,1,2,3,4,5],?_⟩;rintro⟨a,vs⟩ ⟨ha,hvl,hvs,hx⟩;dsimp only at ha hvl hvs hx⊢;conv=>whnf
 rcases y9 a ps.length with hap|hap
 .obtain⟨w,hw⟩:∃w,ps[a]?=some w:=⟨_,z1 hap⟩;have oe:=qW w (zU hw);obtain⟨k',hk'⟩:∃k',ps.length-a=k'+1:=⟨ps.length-a-1,by omega⟩;repeat'(first|refine GET.at (row:=Ze w) (by rw[z6,show a+(0:Int).toNat=a by simp,hw];rfl) ?_|refine CALL.value (Z5B _ oe) rfl rfl ?_|refine AU ?_|refine IW ?_ ?_<;>intro h<;>try omega)<;>conv=>whnf
  .have ED:Jr w=true:=by assumption
   have hv4:=Sz ED;rw[hk'];refine CALL.aA [3,2] (YR ps a k' (by omega) w hw) ?_;rintro r O' w8 ⟨rfl,rfl,rfl⟩
   have eD:YO (vs.map Z9) (ps.drop a)=if Z9 w∈vs.map Z9 then none else YO (vs.map Z9++ [Z9 w]) (ps.drop (a+1)):=by
    rw[ZX hw];simp only[YO];rw[zh ED]
   conv=>whnf
   refine wj.go Z0 [2,4,5,7] (X:=Nat) (fun i=>i<=vs.length/\Z9 w∉ (vs.take i).map Z9) (fun i=>[(8, .int .i64 (i:Int))]) (fun i=>[(0,Fe),(1,dm L E S R 4 vs.length 5 0 []),(2, .rows 1 (ps.map Ze)),(3,lq (a+1) k'),(4, .rows 1 (vs.map Ze)),(5, .rows 1 [])]) 6 (fun i=>vs.length-i) 0 ⟨by omega,by simp⟩ ?_;conv=>whnf
   refine⟨by exact w5.kA h0 [0,1,2,3,4,5],?_⟩;rintro i ⟨hi,hn⟩;dsimp only at hi hn⊢;conv=>whnf
   rcases y9 i vs.length with hiv|hiv
   .have hvi:=(hvs _ (zm hiv)).2;repeat'(first|refine GET.at (row:=Ze (vs[i]'(by omega))) (by rw[z6,show 0+(i:Int).toNat=i by simp,z1 (by omega)];rfl) ?_|refine CALL.value (YG _ hvi) rfl rfl ?_|refine CALL.value (YG _ oe) rfl rfl ?_|refine AU ?_|refine IW ?_ ?_<;>intro h<;>try omega)<;>conv=>whnf
    .have hin:Z9 w∈vs.map Z9:=by rw[<-(by assumption:Z9 vs[i]=Z9 w)];exact vj (zm hiv)
     refine wh.gx 7 h0 rfl rfl rfl ⟨?_,rfl,rfl⟩;rw[kB];unfold pO;rw[hx,eD,zh hin];rfl
    .refine⟨i+1,⟨by omega,?_⟩,by omega,?_⟩
     .rw[zH hiv,yj,zW];rintro(h1|h1);exact hn h1
      .have:Z9 w=Z9 vs[i]:=by simpa using h1
       exact(by assumption:¬Z9 vs[i]=Z9 w) this.symm
     .conv=>whnf
      exact w5.kA h0 [0,1,2,3,4,5]
   .rw[zi (by omega)]at hn;repeat'(first|refine AU ?_|refine IW ?_ ?_<;>intro h<;>try omega)<;>conv=>whnf
    have e:(vs++ [w]).length=vs.length+1:=by simp
    refine⟨(a+1,vs++ [w]),⟨by simp only;omega,by simp;omega,?_,by simp only;rw[hx,eD,z7 hn];simp⟩,by simp only;omega,?_⟩
    .intro x hx';rcases zW.1 hx' with h1|h1
     exact hvs x h1;rw[zL.1 h1];exact⟨hv4,oe⟩
    .dsimp only;rw[e,show ps.length-(a+1)=k' by omega];conv=>whnf
     exact w5.kA h0 [0,1,2,3,7,5]
  .have ED:Jr w=false:=by assumption
   have kH:YO (vs.map Z9) (ps.drop a)=some (ps.drop a,vs.map Z9):=by
    rw[ZX hw];simp only[YO];rw[z7 (by simp[ED])]
   have hc0:qB ps=match Y2 (vs.map Z9) (ps.drop a)with|none=>false|some l=>U3 l:=by rw[kB];unfold pO;rw[hx,kH]
   refine wj.go Z0 [2,4,5] (X:=Nat×List (List UInt8)) (fun y=>y.1<=ps.length/\y.2.length<=y.1/\(∀x∈y.2,1<=x.length/\Sm x)/\Y2 (vs.map Z9) (ps.drop a)=Y2 (vs.map Z9++y.2.map fun x=>Z9 (x.take 1)) (ps.drop y.1)) (fun y=>[]) (fun y=>[(0,Fe),(1,dm L E S R 4 vs.length 5 y.2.length []),(2, .rows 1 (ps.map Ze)),(3,lq y.1 (ps.length-y.1)),(4, .rows 1 (vs.map Ze)),(5, .rows 1 (y.2.map Ze))]) 6 (fun y=>ps.length-y.1) (a,[]) ⟨by simp only;omega,by simp,by simp,by simp⟩ ?_;conv=>whnf
   refine⟨by exact w5.kA h0 [0,1,2,3,4,5],?_⟩;rintro⟨b,xs⟩ ⟨nB,hxl,hxs,hy⟩;dsimp only at nB hxl hxs hy⊢;conv=>whnf
   rcases y9 b ps.length with Qr|Qr
   .obtain⟨u,hu⟩:∃u,ps[b]?=some u:=⟨_,z1 Qr⟩;have Kq:=qW u (zU hu);obtain⟨k',hk'⟩:∃k',ps.length-b=k'+1:=⟨ps.length-b-1,by omega⟩;clear hx kH hvl;repeat'(first|refine GET.at (row:=Ze u) (by rw[z6,show b+(0:Int).toNat=b by simp,hu];rfl) ?_|refine CALL.value (YG _ Kq) rfl rfl ?_|refine CALL.value (Vq _ _ _ Kq) rfl rfl ?_|refine AU ?_|refine IW ?_ ?_<;>intro h<;>try omega)<;>conv=>whnf
    all_goals try(exact absurd (by assumption:Z9 u=[120]) (by assumption))
    .have hnp:Y1 u=false:=by rw[YX];simpa using(by assumption:¬Z9 u=[120])
     have mo:ZI u 1 1 false=true:=by assumption
     have b8:Xp u=true:=by unfold Xp;rw[mo,hnp];rfl
     have hu1:u.length=1:=by have:=Js mo;omega
     rw[hk'];refine CALL.aA [3,2,1,4,5] (Wt ps hb b k' (by omega) u hu hu1 L E S R vs.length [] xs hxs (by omega)) ?_;rintro r O' w8 ⟨n,xs',hn,rfl,hz,rfl,rfl⟩;have e8:n<=(ps.drop (b+1)).length:=by rw[hn];exact U2 _ _
     rw[zF]at e8
     have hmem:Z9 u∈vs.map Z9++(xs.map fun x=>Z9 (x.take 1))<->kI xs u=true:=by
      unfold kI;rw[zW,xL];constructor
      .rintro(h|h)
       .obtain⟨v,hv,he⟩:=zY.1 h;have h1:=(hvs v hv).1;have h2:=ze List.length he;unfold Z9 at h2;simp only[zA]at h2;omega
       .obtain⟨x,hx,he⟩:=zY.1 h;exact⟨x,hx,by simp[he]⟩
      .rintro⟨x,hx,he⟩;exact .inr (zY.2 ⟨x,hx,by simpa using he⟩)
     have Fg:Y2 (vs.map Z9++xs.map fun x=>Z9 (x.take 1)) (ps.drop b)=if n=0\/kI xs u=true then none else Y2 ((vs.map Z9++xs.map fun x=>Z9 (x.take 1))++ [Z9 u]) (ps.drop (b+1+n)):=by
      rw[ZX hu,Y2,zh b8,<-hn,yt];simp only[hmem]
     by_cases eM:kI xs u=false/\n≠0
     .obtain⟨z,rfl,rA,Fb⟩:=hz eM.1;rw[show(!kI xs u&&decide (n≠0))=true by simp[eM]];conv=>whnf
      repeat'(first|refine IW ?_ ?_<;>intro h<;>try omega)<;>conv=>whnf
      have e:(xs++ [z]).length=xs.length+1:=by simp
      refine⟨(b+1+n,xs++ [z]),⟨by simp only;omega,by simp;omega,?_,?_⟩,by simp only;omega,?_⟩
      .intro x hx';rcases zW.1 hx' with h1|h1
       exact hxs x h1
       .rw[zL.1 h1];refine⟨?_,Fb⟩;rcases z with _|⟨c,t⟩
        simp at rA;subst rA;simp at hu1;simp
      .simp only;rw[hy,Fg,z7 (by simp[eM])];simp[rA]
      .dsimp only;rw[show ps.length-(b+1+n)=k'-n by omega];conv=>whnf
       exact w5.kA h0 [0,1,2,3,4,6]
     .have lz:n=0\/kI xs u=true:=by
       rcases xl n with h|h
       exact .inl h
       .right
        cases hd:kI xs u with
        |true=>rfl
        |false=>exact absurd ⟨hd,by omega⟩ eM
      have Fh:qB ps=false:=by rw[hc0,hy,Fg,zh lz]
      rw[show(!kI xs u&&decide (n≠0))=false by rcases lz with h|h<;>simp[h]];conv=>whnf
      repeat'(first|refine IW ?_ ?_<;>intro h<;>try omega)<;>conv=>whnf
      refine wh.gx 7 h0 rfl rfl rfl ⟨?_,rfl,rfl⟩;rw[Fh];rfl
    .have hnp:Y1 u=false:=by rw[YX];simpa using(by assumption:¬Z9 u=[120])
     have mo:ZI u 1 1 false=false:=by assumption
     have b8:¬Xp u=true:=by unfold Xp;simp[mo]
     have qb:qB ps=false:=by
      rw[hc0,hy,ZX hu,Y2,z7 b8];simp only[U3];rw[z7 (by simp[hnp])]
     refine wh.gx 7 h0 rfl rfl rfl ⟨?_,rfl,rfl⟩;rw[qb];rfl
    .have hpv:Y1 u=true:=by rw[YX];simpa using(by assumption:Z9 u=[120])
     have b8:¬Xp u=true:=by unfold Xp;simp[hpv]
     have qb:qB ps=decide (ZW (YK 1) (ps.drop (b+1))≠0/\ZW (YK 1) (ps.drop (b+1))=(ps.drop (b+1)).length):=by
      rw[hc0,hy,ZX hu,Y2,z7 b8];simp only[U3];rw[zh hpv]
     refine CALL.aA [3,2,1,4,5] (Sw ps hb b (ps.length-b) (by omega) Qr L E S R vs.length xs.length []) ?_;rintro r O' w8 ⟨P',rfl,rfl,rfl⟩;rw[<-qb];cases Fh:qB ps with
     |true=>
      conv=>whnf
      repeat'(first|refine IW ?_ ?_<;>intro h<;>try omega)<;>conv=>whnf
      exact wh.gx 7 h0 rfl rfl rfl ⟨rfl,rfl,rfl⟩
     |false=>
      conv=>whnf
      repeat'(first|refine IW ?_ ?_<;>intro h<;>try omega)<;>conv=>whnf
      exact wh.gx 7 h0 rfl rfl rfl ⟨rfl,rfl,rfl⟩
   .repeat'(first|refine AU ?_|refine IW ?_ ?_<;>intro h<;>try omega)<;>conv=>whnf
    have qb:qB ps=true:=by rw[hc0,hy,zN (by omega),Y2];rfl
    refine wh.gx 7 h0 rfl rfl rfl ⟨?_,rfl,rfl⟩;rw[qb];rfl
 .repeat'(first|refine AU ?_|refine IW ?_ ?_<;>intro h<;>try omega)<;>conv=>whnf
  have kH:YO (vs.map Z9) (ps.drop a)=some (ps.drop a,vs.map Z9):=by
   rw[zN (by omega)];rfl
  have hc0:qB ps=match Y2 (vs.map Z9) (ps.drop a)with|none=>false|some l=>U3 l:=by rw[kB];unfold pO;rw[hx,kH]
  refine wj.go Z0 [2,4,5] (X:=Nat×List (List UInt8)) (fun y=>y.1<=ps.length/\y.2.length<=y.1/\(∀x∈y.2,1<=x.length/\Sm x)/\Y2 (vs.map Z9) (ps.drop a)=Y2 (vs.map Z9++y.2.map fun x=>Z9 (x.take 1)) (ps.drop y.1)) (fun y=>[]) (fun y=>[(0,Fe),(1,dm L E S R 4 vs.length 5 y.2.length []),(2, .rows 1 (ps.map Ze)),(3,lq y.1 (ps.length-y.1)),(4, .rows 1 (vs.map Ze)),(5, .rows 1 (y.2.map Ze))]) 6 (fun y=>ps.length-y.1) (a,[]) ⟨by simp only;omega,by simp,by simp,by simp⟩ ?_;conv=>whnf
  refine⟨by exact w5.kA h0 [0,1,2,3,4,5],?_⟩;rintro⟨b,xs⟩ ⟨nB,hxl,hxs,hy⟩;dsimp only at nB hxl hxs hy⊢;conv=>whnf
  rcases y9 b ps.length with Qr|Qr
  .obtain⟨u,hu⟩:∃u,ps[b]?=some u:=⟨_,z1 Qr⟩;have Kq:=qW u (zU hu);obtain⟨k',hk'⟩:∃k',ps.length-b=k'+1:=⟨ps.length-b-1,by omega⟩;clear hx kH hvl;repeat'(first|refine GET.at (row:=Ze u) (by rw[z6,show b+(0:Int).toNat=b by simp,hu];rfl) ?_|refine CALL.value (YG _ Kq) rfl rfl ?_|refine CALL.value (Vq _ _ _ Kq) rfl rfl ?_|refine AU ?_|refine IW ?_ ?_<;>intro h<;>try omega)<;>conv=>whnf
   all_goals try(exact absurd (by assumption:Z9 u=[120]) (by assumption))
   .have hnp:Y1 u=false:=by rw[YX];simpa using(by assumption:¬Z9 u=[120])
    have mo:ZI u 1 1 false=true:=by assumption
    have b8:Xp u=true:=by unfold Xp;rw[mo,hnp];rfl
    have hu1:u.length=1:=by have:=Js mo;omega
    rw[hk'];refine CALL.aA [3,2,1,4,5] (Wt ps hb b k' (by omega) u hu hu1 L E S R vs.length [] xs hxs (by omega)) ?_;rintro r O' w8 ⟨n,xs',hn,rfl,hz,rfl,rfl⟩;have e8:n<=(ps.drop (b+1)).length:=by rw[hn];exact U2 _ _
    rw[zF]at e8
    have hmem:Z9 u∈vs.map Z9++(xs.map fun x=>Z9 (x.take 1))<->kI xs u=true:=by
     unfold kI;rw[zW,xL];constructor
     .rintro(h|h)
      .obtain⟨v,hv,he⟩:=zY.1 h;have h1:=(hvs v hv).1;have h2:=ze List.length he;unfold Z9 at h2;simp only[zA]at h2;omega
      .obtain⟨x,hx,he⟩:=zY.1 h;exact⟨x,hx,by simp[he]⟩
     .rintro⟨x,hx,he⟩;exact .inr (zY.2 ⟨x,hx,by simpa using he⟩)
    have Fg:Y2 (vs.map Z9++xs.map fun x=>Z9 (x.take 1)) (ps.drop b)=if n=0\/kI xs u=true then none else Y2 ((vs.map Z9++xs.map fun x=>Z9 (x.take 1))++ [Z9 u]) (ps.drop (b+1+n)):=by
     rw[ZX hu,Y2,zh b8,<-hn,yt];simp only[hmem]
    by_cases eM:kI xs u=false/\n≠0
    .obtain⟨z,rfl,rA,Fb⟩:=hz eM.1;rw[show(!kI xs u&&decide (n≠0))=true by simp[eM]];conv=>whnf
     repeat'(first|refine IW ?_ ?_<;>intro h<;>try omega)<;>conv=>whnf
     have e:(xs++ [z]).length=xs.length+1:=by simp
     refine⟨(b+1+n,xs++ [z]),⟨by simp only;omega,by simp;omega,?_,?_⟩,by simp only;omega,?_⟩
     .intro x hx';rcases zW.1 hx' with h1|h1
      exact hxs x h1
      .rw[zL.1 h1];refine⟨?_,Fb⟩;rcases z with _|⟨c,t⟩
       simp at rA;subst rA;simp at hu1;simp
     .simp only;rw[hy,Fg,z7 (by simp[eM])];simp[rA]
     .dsimp only;rw[show ps.length-(b+1+n)=k'-n by omega];conv=>whnf
      exact w5.kA h0 [0,1,2,3,4,6]
    .have lz:n=0\/kI xs u=true:=by
      rcases xl n with h|h
      exact .inl h
      .right
       cases hd:kI xs u with
       |true=>rfl
       |false=>exact absurd ⟨hd,by omega⟩ eM
     have Fh:qB ps=false:=by rw[hc0,hy,Fg,zh lz]
     rw[show(!kI xs u&&decide (n≠0))=false by rcases lz with h|h<;>simp[h]];conv=>whnf
     repeat'(first|refine IW ?_ ?_<;>intro h<;>try omega)<;>conv=>whnf
     refine wh.gx 7 h0 rfl rfl rfl ⟨?_,rfl,rfl⟩;rw[Fh];rfl
   .have hnp:Y1 u=false:=by rw[YX];simpa using(by assumption:¬Z9 u=[120])
    have mo:ZI u 1 1 false=false:=by assumption
    have b8:¬Xp u=true:=by unfold Xp;simp[mo]
    have qb:qB ps=false:=by
     rw[hc0,hy,ZX hu,Y2,z7 b8];simp only[U3];rw[z7 (by simp[hnp])]
    refine wh.gx 7 h0 rfl rfl rfl ⟨?_,rfl,rfl⟩;rw[qb];rfl
   .have hpv:Y1 u=true:=by rw[YX];simpa using(by assumption:Z9 u=[120])
    have b8:¬Xp u=true:=by unfold Xp;simp[hpv]
    have qb:qB ps=decide (ZW (YK 1) (ps.drop (b+1))≠0/\ZW (YK 1) (ps.drop (b+1))=(ps.drop (b+1)).length):=by
     rw[hc0,hy,ZX hu,Y2,z7 b8];simp only[U3];rw[zh hpv]
    refine CALL.aA [3,2,1,4,5] (Sw ps hb b (ps.length-b) (by omega) Qr L E S R vs.length xs.length []) ?_;rintro r O' w8 ⟨P',rfl,rfl,rfl⟩;rw[<-qb];cases Fh:qB ps with
    |true=>
     conv=>whnf
     repeat'(first|refine IW ?_ ?_<;>intro h<;>try omega)<;>conv=>whnf
     exact wh.gx 7 h0 rfl rfl rfl ⟨rfl,rfl,rfl⟩
    |false=>
     conv=>whnf
     repeat'(first|refine IW ?_ ?_<;>intro h<;>try omega)<;>conv=>whnf
     exact wh.gx 7 h0 rfl rfl rfl ⟨rfl,rfl,rfl⟩
  .repeat'(first|refine AU ?_|refine IW ?_ ?_<;>intro h<;>try omega)<;>conv=>whnf
   have qb:qB ps=true:=by rw[hc0,hy,zN (by omega),Y2];rfl
   refine wh.gx 7 h0 rfl rfl rfl ⟨?_,rfl,rfl⟩;rw[qb];rfl
open _root_.Go.Proofs.Tryz
theorem Z7g(k:Int)(t y l:List UInt8)(ht:Sm t)(hy:Sm y)(hl:Sm l):uX prog wD 194 0 [.agg [.int .i64 k, .str t, .str y, .str l]] [] [] (qd (.int .i64 (dP t y l))):=by
 refine uX.enter Z0 call194 func194 rfl 61 rfl rfl [.tmp 2] rfl ?_;intro w0 F η0 h0;conv=>whnf
 repeat'(first|refine CALL.value (Vc _ ht) rfl rfl ?_|refine CALL.value (We _ hy) rfl rfl ?_|refine CALL.value (ZfH _ (by omega)) rfl rfl ?_|refine IW ?_ ?_<;>intro h<;>try omega)<;>conv=>whnf
 all_goals try
  (refine wh.value h0 rfl (ze (SV.int _) ?_)
   by_cases hy0:y=Yo
   .have aO:(y==Yo)=true:=by simp[hy0]
    unfold Yo at aO;try rw[aO]at h
    by_cases Ec:qB (Zw l)=true<;>by_cases GZ:Z9 l=l<;>by_cases hl0:l=[]<;>simp_all[dP,Yo,nT]<;>omega
   .have aO:(y==Yo)=false:=by simp[hy0]
    unfold Yo at aO;try rw[aO]at h
    by_cases Ec:qB (Zw l)=true<;>by_cases GZ:Z9 l=l<;>by_cases hl0:l=[]<;>simp_all[dP,Yo,nT]<;>omega)
 have Ec:qB (Zw l)=true:=by
  cases h1:qB (Zw l)with
  |true=>rfl
  |false=>rw[h1]at h;simp at h
 refine wj.go Z0 [1] (X:=Nat) (fun i=>i<=l.length/\∀j:Nat,j<i->¬(65<=Z1 l j/\Z1 l j<=90)) (fun i=>[(4, .int .i64 (i:Int))]) (fun i=>[(0, .box [.int .i64 k, .str t, .str y, .str l])]) 1 (fun i=>l.length-i) 0 ⟨by omega,fun j h=>by omega⟩ ?_;conv=>whnf
 refine⟨by exact w5.cA h0,?_⟩;rintro i ⟨hi,hc⟩;conv=>whnf
 repeat'(first|refine AU ?_|refine IW ?_ ?_<;>intro h<;>try omega)<;>conv=>whnf
 .have GZ:Z9 l≠l:=Zho (i:=i) (by omega) h;refine wh.value h0 rfl (ze (SV.int _) ?_)
  simp_all[dP]<;>omega
 .refine⟨i+1,⟨by omega,fun j hj=>?_⟩,by omega,?_⟩
  .by_cases he:j=i
   subst he;omega;exact hc j (by omega)
  .conv=>whnf
   exact w5.cA h0
 all_goals
  have GZ:Z9 l=l:=Zdc fun j hj=>hc j (by omega);refine wh.value h0 rfl (ze (SV.int _) ?_);by_cases hy0:y=Yo
  .have aO:(y==Yo)=true:=by simp[hy0]
   unfold Yo at aO;try rw[aO]at h
   by_cases hl0:l=[]<;>simp_all[dP,Yo,nT]<;>omega
  .have aO:(y==Yo)=false:=by simp[hy0]
   unfold Yo at aO;try rw[aO]at h
   by_cases hl0:l=[]<;>simp_all[dP,Yo,nT]<;>omega
theorem Vr(x:Tm)(hx:gW x):uX prog wD 141 0 [.agg [.int .i64 x.k, .str x.t, .str x.y, .str x.l]] [] [] (qd (.int .i64 (wH x))):=by
 obtain⟨ht,hy,hl⟩:=hx;obtain⟨k,t,y,l⟩:=x;dsimp only at ht hy hl⊢;refine uX.enter Z0 call141 func141 rfl 33 rfl rfl [.tmp 2] rfl ?_;intro w0 F η0 h0;conv=>whnf
 repeat'(first|refine CALL.value (Z7g _ _ _ _ ht hy hl) rfl rfl ?_|refine CALL.value (We _ ht) rfl rfl ?_|refine CALL.value (Z98 _ (by omega)) rfl rfl ?_|refine AU ?_|refine IW ?_ ?_<;>intro h<;>try omega)<;>conv=>whnf
 all_goals
  refine wh.value h0 rfl (ze (SV.int _) ?_);have hle:=LX t;unfold wH
  first
   |(simp_all;done)
   |(simp_all<;>omega)
theorem Wu(q:Qd)(hq:bT q):uX prog wD 109 0 [q.sv] [] [] (qd (.int .i64 (Xv q))):=by
 obtain⟨hs,hp,ho,hg⟩:=hq;unfold Qd.sv;refine uX.enter Z0 call109 func109 rfl 53 rfl rfl [.tmp 2] rfl ?_;intro w0 F η0 h0;conv=>whnf
 repeat'(first|refine CALL.value (Vr q.s hs) rfl rfl ?_|refine CALL.value (Vr q.p hp) rfl rfl ?_|refine CALL.value (Vr q.o ho) rfl rfl ?_|refine CALL.value (Vr q.g hg) rfl rfl ?_|refine IW ?_ ?_<;>intro h<;>try omega)<;>conv=>whnf
 all_goals
  refine wh.value h0 rfl (ze (SV.int _) ?_);clear hs hp ho hg
  have hz:q.g=YN<->q.g.k=0/\q.g.t=[]/\q.g.y=[]/\q.g.l=[]:=by
   obtain⟨s,p,o,g⟩:=q;obtain⟨k,t,y,l⟩:=g;simp[YN]
  unfold Xv;by_cases Bw:q.g=YN
  have:=hz.1 Bw;simp_all
  .by_cases g1:q.g.k=1
   simp_all
   .by_cases g2:q.g.k=2
    simp_all
    simp_all
open _root_.Go.Proofs.Tryz
theorem SC(s:List UInt8)(hs:s.length<=65536)(hc:fD s 0<0):uX prog wD 177 0 [.str s] [] [] (qd (.str (bW s))):=by
 have hl:=J6 2 s;refine uX.enter Z0 call177 func177 rfl 13 rfl rfl [.tmp 2] rfl ?_;intro w0 F η0 h0;conv=>whnf
 repeat'(first|refine CALL.value (Sg s 2 (by omega) hc) rfl rfl ?_|refine AU ?_)<;>conv=>whnf
 exact wh.value h0 rfl rfl
theorem Zdp(x:Tm)(hx:gW x):uX prog wD 129 0 [.agg [.int .i64 x.k, .str x.t, .str x.y, .str x.l]] [] [] (qd (.wM [.str (Vj x), .int .i64 (wH x)])):=by
 have jA:= @BG x;have oN:= @WV x;have tf:= @Ed x.y;have ga:=J6 1 x.t;have nL:=Sd x.y;refine uX.enter Z0 call129 func129 rfl 53 rfl rfl [.tmp 2, .tmp 3] rfl ?_;intro w0 F η0 h0;conv=>whnf
 repeat'(first|refine CALL.value (Vr x hx) rfl rfl ?_|refine CALL.value (SC x.t (by have:=jA (by assumption);omega) ((jA (by assumption)).2.1 (by omega))) rfl rfl ?_|refine CALL.value (Sg x.t 1 (by have:=jA (by assumption);omega) ((jA (by assumption)).2.1 (by omega))) rfl rfl ?_|refine CALL.value (SC x.y (tf ((jA (by assumption)).2.2 (by have:=oN (by assumption);omega)).1).1 (tf ((jA (by assumption)).2.2 (by have:=oN (by assumption);omega)).1).2) rfl rfl ?_|refine wm.mk (by have h3:=tf ((jA (by assumption)).2.2 (by have:=oN (by assumption);omega)).1;simp;omega) ?_|refine AU ?_|refine IW ?_ ?_<;>intro h<;>try omega)<;>conv=>whnf
 all_goals
  refine wh.value h0 rfl ?_;unfold Vj;try simp(disch:=first|assumption|omega) only[↓zh,↓z7]
  try first
   |rfl
   |(have h9:wH x=0:=by assumption
     simp_all[BF])
end Go.Proofs.YtlcbipfmodcedaaGreatDoor
namespace Go.Proofs.YtlcbipfmodcedaaGreatDoor
open Go.Sx Go.Our Go.Lib
open _root_.Go.Proofs.Tryz
theorem XR{q:Qd}{j:Nat}{t:Tm}(h:[q.s,q.p,q.o,q.g][j]?=some t):VB q (j+1)=VB q j++VA t:=by
 have hj:=(zf.1 h).1;unfold VB;rw[zH hj,uv,(zf.1 h).2];simp[xg]
theorem SD(q:Qd)(hq:bT q):uX prog wD 92 0 [q.sv] [] [] (qd (.str (Ui q))):=by
 obtain⟨q1,q2,q3,q4⟩:=hq;refine uX.enter Z0 call92 func92 rfl 34 rfl rfl [.tmp 2] rfl ?_;intro w0 F η0 h0;conv=>whnf
 skip
 refine wj.jD Z0 [3,16] [] (X:=Nat) (fun j=>j<=4) (fun j=>[(17, .int .i64 (j:Int))]) (fun j=>[(1, .jJ TB TU (VB q j))]) 2 (fun j=>4-j) 0 (by omega) ?_;conv=>whnf
 refine⟨by exact w5.kA h0 [0,1],?_⟩;intro j hj;have tx:∀t,gW t->uX prog wD 126 0 [.agg [.int .i64 t.k, .str t.t, .str t.y, .str t.l]] [] [] (qd (.wM [.str (Vj t), .int .i64 (wH t)])):=fun t ht=>ZfC t ht;have hle:=BU q j;have wr:=fun s (hs:s.length<=1310721)=>UU (VB q j) s (by omega);have fin:j=4->VB q j++ [46]=Ui q:=fun e=>by rw[e];rfl
 obtain rfl|rfl|rfl|rfl|rfl:j=0\/j=1\/j=2\/j=3\/j=4:=by omega
 .have qq:=XR (q:=q) (j:=0) (t:=q.s) rfl;have ln:=JV q.s;conv=>whnf
  repeat'(first|refine CALL.value (tx _ q1) rfl rfl ?_|refine AU ?_|refine IW ?_ ?_<;>intro h<;>try omega)<;>conv=>whnf
  .unfold VA at qq;rw[zh h]at qq;have hw:=wr (Vj q.s++ [32]) (by rw[zg];simp;omega);refine CALL.aA [1] (hw) ?_;rintro r O nx ⟨rfl,rfl,rfl⟩;conv=>whnf
   skip
   refine⟨1,by omega,by omega,?_⟩;rw[qq];conv=>whnf
   exact w5.kA h0 [0,1]
  .unfold VA at qq;rw[z7 (fun e=>e h),zO]at qq;refine⟨1,by omega,by omega,?_⟩;rw[qq];conv=>whnf
   exact w5.kA h0 [0,1]
 .have qq:=XR (q:=q) (j:=1) (t:=q.p) rfl;have ln:=JV q.p;conv=>whnf
  repeat'(first|refine CALL.value (tx _ q2) rfl rfl ?_|refine AU ?_|refine IW ?_ ?_<;>intro h<;>try omega)<;>conv=>whnf
  .unfold VA at qq;rw[zh h]at qq;have hw:=wr (Vj q.p++ [32]) (by rw[zg];simp;omega);refine CALL.aA [1] (hw) ?_;rintro r O nx ⟨rfl,rfl,rfl⟩;conv=>whnf
   skip
   refine⟨2,by omega,by omega,?_⟩;rw[qq];conv=>whnf
   exact w5.kA h0 [0,1]
  .unfold VA at qq;rw[z7 (fun e=>e h),zO]at qq;refine⟨2,by omega,by omega,?_⟩;rw[qq];conv=>whnf
   exact w5.kA h0 [0,1]
 .have qq:=XR (q:=q) (j:=2) (t:=q.o) rfl;have ln:=JV q.o;conv=>whnf
  repeat'(first|refine CALL.value (tx _ q3) rfl rfl ?_|refine AU ?_|refine IW ?_ ?_<;>intro h<;>try omega)<;>conv=>whnf
  .unfold VA at qq;rw[zh h]at qq;have hw:=wr (Vj q.o++ [32]) (by rw[zg];simp;omega);refine CALL.aA [1] (hw) ?_;rintro r O nx ⟨rfl,rfl,rfl⟩;conv=>whnf
   skip
   refine⟨3,by omega,by omega,?_⟩;rw[qq];conv=>whnf
   exact w5.kA h0 [0,1]
  .unfold VA at qq;rw[z7 (fun e=>e h),zO]at qq;refine⟨3,by omega,by omega,?_⟩;rw[qq];conv=>whnf
   exact w5.kA h0 [0,1]
 .have qq:=XR (q:=q) (j:=3) (t:=q.g) rfl;have ln:=JV q.g;conv=>whnf
  repeat'(first|refine CALL.value (tx _ q4) rfl rfl ?_|refine AU ?_|refine IW ?_ ?_<;>intro h<;>try omega)<;>conv=>whnf
  .unfold VA at qq;rw[zh h]at qq;have hw:=wr (Vj q.g++ [32]) (by rw[zg];simp;omega);refine CALL.aA [1] (hw) ?_;rintro r O nx ⟨rfl,rfl,rfl⟩;conv=>whnf
   skip
   refine⟨4,by omega,by omega,?_⟩;rw[qq];conv=>whnf
   exact w5.kA h0 [0,1]
  .unfold VA at qq;rw[z7 (fun e=>e h),zO]at qq;refine⟨4,by omega,by omega,?_⟩;rw[qq];conv=>whnf
   exact w5.kA h0 [0,1]
 conv=>whnf
 repeat'(first|refine IW ?_ ?_<;>intro h<;>try omega)<;>conv=>whnf
 refine CALL.aA [1] (S9 (VB q 4)) ?_;rintro r O nx ⟨rfl,rfl,rfl⟩;conv=>whnf
 repeat'(first|refine AU ?_)<;>conv=>whnf
 exact wh.value h0 rfl (ze SV.str (fin rfl))
theorem ZaD(q:Qd)(hq:bT q):uX prog wD 52 0 [q.sv] [] [] (qd (.wM [.str (if Xv q=0 then Ui q else []), .int .i64 (Xv q)])):=by
 refine uX.enter Z0 call52 func52 rfl 12 rfl rfl [.tmp 2, .tmp 3] rfl ?_;intro w0 F η0 h0;conv=>whnf
 repeat'(first|refine CALL.value (Wh q hq) rfl rfl ?_|refine CALL.value (SD q hq) rfl rfl ?_|refine IW ?_ ?_<;>intro h<;>try omega)<;>conv=>whnf
 rw[z7 h];exact wh.value h0 rfl rfl;rw[zh h,h];exact wh.value h0 rfl rfl
theorem Z9a(q:Qd)(hq:bT q):uX prog wD 94 0 [q.sv] [] [] (qd (.wM [.str (if Xv q=0 then Ui q else []), .int .i64 (Xv q)])):=by
 have jA:=Wu q hq;obtain⟨q1,q2,q3,q4⟩:=hq;have tx:∀t,gW t->uX prog wD 129 0 [.agg [.int .i64 t.k, .str t.t, .str t.y, .str t.l]] [] [] (qd (.wM [.str (Vj t), .int .i64 (wH t)])):=fun t ht=>Zdp t ht;refine uX.enter Z0 call94 func94 rfl 46 rfl rfl [.tmp 2, .tmp 3] rfl ?_;intro w0 F η0 h0;conv=>whnf
 repeat'(first|refine CALL.value (jA) rfl rfl ?_|refine AU ?_|refine IW ?_ ?_<;>intro h<;>try omega)<;>conv=>whnf
 rw[z7 h];exact wh.value h0 rfl rfl;rw[zh h,h];refine wj.jD Z0 [6] [] (X:=Nat) (fun j=>j<=4) (fun j=>[(7, .int .i64 (j:Int)),(5, .str (VB q j))]) (fun j=>[(1, .rows 4 [ZD q.s,ZD q.p,ZD q.o,ZD q.g])]) 2 (fun j=>4-j) 0 (by omega) ?_;conv=>whnf
 refine⟨by exact w5.kA h0 [0,1],?_⟩;intro j hj;have hle:=BU q j;have fin:j=4->VB q j++ [46]=Ui q:=fun e=>by rw[e];rfl
 obtain rfl|rfl|rfl|rfl|rfl:j=0\/j=1\/j=2\/j=3\/j=4:=by omega
 .have qq:=XR (q:=q) (j:=0) (t:=q.s) rfl;have ln:=JV q.s;conv=>whnf
  repeat'(first|refine CALL.value (tx _ q1) rfl rfl ?_|refine wm.mk (show(VB q 0).length+(Vj q.s).length<=9223372036854775807 by omega) ?_|refine wm.mk (show(VB q 0++Vj q.s).length+1<=9223372036854775807 by rw[zg];omega) ?_|refine AU ?_|refine IW ?_ ?_<;>intro h<;>try omega)<;>conv=>whnf
  .unfold VA at qq;rw[zh h,<-zM]at qq;refine⟨1,by omega,by omega,?_⟩;rw[qq];conv=>whnf
   exact w5.kA h0 [0,1]
  .unfold VA at qq;rw[z7 (fun e=>e h),zO]at qq;refine⟨1,by omega,by omega,?_⟩;rw[qq];conv=>whnf
   exact w5.kA h0 [0,1]
 .have qq:=XR (q:=q) (j:=1) (t:=q.p) rfl;have ln:=JV q.p;conv=>whnf
  repeat'(first|refine CALL.value (tx _ q2) rfl rfl ?_|refine wm.mk (show(VB q 1).length+(Vj q.p).length<=9223372036854775807 by omega) ?_|refine wm.mk (show(VB q 1++Vj q.p).length+1<=9223372036854775807 by rw[zg];omega) ?_|refine AU ?_|refine IW ?_ ?_<;>intro h<;>try omega)<;>conv=>whnf
  .unfold VA at qq;rw[zh h,<-zM]at qq;refine⟨2,by omega,by omega,?_⟩;rw[qq];conv=>whnf
   exact w5.kA h0 [0,1]
  .unfold VA at qq;rw[z7 (fun e=>e h),zO]at qq;refine⟨2,by omega,by omega,?_⟩;rw[qq];conv=>whnf
   exact w5.kA h0 [0,1]
 .have qq:=XR (q:=q) (j:=2) (t:=q.o) rfl;have ln:=JV q.o;conv=>whnf
  repeat'(first|refine CALL.value (tx _ q3) rfl rfl ?_|refine wm.mk (show(VB q 2).length+(Vj q.o).length<=9223372036854775807 by omega) ?_|refine wm.mk (show(VB q 2++Vj q.o).length+1<=9223372036854775807 by rw[zg];omega) ?_|refine AU ?_|refine IW ?_ ?_<;>intro h<;>try omega)<;>conv=>whnf
  .unfold VA at qq;rw[zh h,<-zM]at qq;refine⟨3,by omega,by omega,?_⟩;rw[qq];conv=>whnf
   exact w5.kA h0 [0,1]
  .unfold VA at qq;rw[z7 (fun e=>e h),zO]at qq;refine⟨3,by omega,by omega,?_⟩;rw[qq];conv=>whnf
   exact w5.kA h0 [0,1]
 .have qq:=XR (q:=q) (j:=3) (t:=q.g) rfl;have ln:=JV q.g;conv=>whnf
  repeat'(first|refine CALL.value (tx _ q4) rfl rfl ?_|refine wm.mk (show(VB q 3).length+(Vj q.g).length<=9223372036854775807 by omega) ?_|refine wm.mk (show(VB q 3++Vj q.g).length+1<=9223372036854775807 by rw[zg];omega) ?_|refine AU ?_|refine IW ?_ ?_<;>intro h<;>try omega)<;>conv=>whnf
  .unfold VA at qq;rw[zh h,<-zM]at qq;refine⟨4,by omega,by omega,?_⟩;rw[qq];conv=>whnf
   exact w5.kA h0 [0,1]
  .unfold VA at qq;rw[z7 (fun e=>e h),zO]at qq;refine⟨4,by omega,by omega,?_⟩;rw[qq];conv=>whnf
   exact w5.kA h0 [0,1]
 conv=>whnf
 repeat'(first|refine wm.mk (show(VB q 4).length+1<=9223372036854775807 by omega) ?_|refine IW ?_ ?_<;>intro h<;>try omega)<;>conv=>whnf
 exact wh.value h0 rfl (ze (fun x=>SV.wM [SV.str x,SV.int .i64 0]) (fin rfl))
