/- Part 16: Apart1, IsoPut, IsoLook. Conditions: as each part says. -/
import Derived.Test.YtlcbipfmodcedaaGreatDoorCiso10
import Derived.Test.YtlcbipfmodcedaaGreatDoorCiso15
set_option linter.unusedVariables false
set_option linter.unusedSimpArgs false
set_option maxRecDepth 20000
set_option maxHeartbeats 8000000
namespace Go.Proofs.YtlcbipfmodcedaaGreatDoor
open Go.Sx Go.Our
open _root_.Go.Proofs.Tryz
def Jf(a b:List Qd):Int:=if(Yr a).2≠0 then(Yr a).2 else(Yr b).2
theorem Z61(a za b zb:List Qd)(eX cm:Option Nat)(ha:a.length<=1152921504606846976)(hb:b.length<=1152921504606846976)(qa:nH a)(qb:nH b):vW prog uv 55 2 [.sl (.loc 0) 0 16 a.length eX, .sl (.loc 1) 0 16 b.length cm] [] [(0, .rows 16 ((a++za).map Zd)),(1, .rows 16 ((b++zb).map Zd))] (qd 2 (.int .i64 (Jf a b))):=by
 have h1:=WM a za eX ha qa;have h2:=WM b zb cm hb qb;refine vW.enter Z3 call55 func55 rfl 23 rfl rfl [.tmp 4] rfl ?_;intro w0 F η0 h0;conv=>whnf
 refine CALL.aA [0] (h1) ?_;rintro r O nx ⟨rfl,rfl,rfl⟩;conv=>whnf
 repeat'(first|refine IW ?_ ?_<;>intro h<;>try omega)<;>conv=>whnf
 exact u9.uh h0 rfl (zf (SV.int _) (z8 h).symm);refine CALL.aA [1] (h2) ?_;rintro r O nx ⟨rfl,rfl,rfl⟩;conv=>whnf
 skip
 exact u9.uh h0 rfl (zf (SV.int _) (z6 (by simpa using h)).symm)
abbrev Z0(l:List Qd):List LB:=wQ cmpL (ZR l)
abbrev kz(m:List (LB×Int)):List (List SV):=VR KT qj m
theorem ZdI(m:List (LB×Int)):Zj (kz m)=true:=H9 KT _ (fun _=>rfl) m
instance {m:List (LB×Int)}:Pl (kz m):=⟨ZdI m⟩
theorem Hz{x:LB}{v:Int}{m:List (LB×Int)}:jk (false,[CK.str]) (jg (SV.str x)) (SV.int .i64 v) (kz m)=kz (qv x v m):=Cs KT qj x v m
theorem HA{x:LB}{v:Int}{m:List (LB×Int)}:jk (false,[CK.str]) (jg (SV.str x)) (J9 (.int .i64 v)) (kz m)=kz (qv x v m):=Cs KT qj x v m
def V1(v:Int)(l:List LB)(m:List (LB×Int)):List (LB×Int):=l.foldl (fun m x=>qv x v m) m
theorem Lz{l z:List LB}{i k:Nat}(h:i<l.length)(e:k=i):((l++z).map Z9)[k]?=some (Z9 l[i]):=by
 subst e;rw[z7,zu h,z1 h];rfl
end Go.Proofs.YtlcbipfmodcedaaGreatDoor
namespace Go.Proofs.YtlcbipfmodcedaaGreatDoor
open Go.Sx Go.Our
open _root_.Go.Proofs.Tryz
def ZdJ:uJ:=(.take 0 1 (.take 1 1 (.take 2 1 (.take 4 1 (.take 5 1 (.take 6 1 (.take 7 1 (.take 9 1 (.take 8 2 (.take 10 1 (.take 11 2 (.take 12 2 (.fork 3 3 13 3 (ZI [(13,3),(14,0),(15,1),(16,0)]) (.fork 3 3 14 0 (ZI [(14,0),(15,1),(16,0)]) (ZI [(3,2),(15,1),(16,0)])))))))))))))))
theorem Zbs{K:Env}{es:Nat}{rs:List (List SV)}{v:Value}(h:Den K (.arr es rs) v):Den K (.agg rs.flatten) v:=by
 simp only[Den]at h⊢;obtain⟨vs,h1,h2,h3⟩:=h;exact⟨vs,h1,Xw h2,h3⟩
theorem LA(q:Qd):vW prog uv 59 0 [.agg (Zd q)] [] [] (wF (.agg (Zd q))):=by
 refine vW.enter Z3 call59 func59 rfl 12 rfl rfl [.cell 2 106] rfl ?_;intro w0 F η0 h0;conv=>whnf
 repeat'(first|refine AU ?_)<;>conv=>whnf
 exact u9.weak (fun K w v H hd=>⟨K,zx,H,Zbs hd⟩) (u9.value h0 rfl rfl)
def Z8(n:Int):List SV:=[.int .i64 n]
theorem Uv(l:List Int):Zj (l.map Z8)=true:=ZN _ (fun _=>rfl) l
instance :bu Z8:=⟨fun _=>rfl⟩
theorem V6{l:List Int}{i:Nat}(h:i<l.length):(l.map Z8)[i]?=some (Z8 l[i]):=by rw[z7,z1 h];rfl
theorem Yf(l:List Int)(x:Int)(hl:l.length<=1152921504606846976):vW prog uv 131 1 [.sl (.loc 0) 0 1 l.length none, .int .i64 x] [] [(0, .rows 1 (l.map Z8))] (qd 1 (.bool (decide (x∈l)))):=by
 have bU:vW prog uv 180 1 [.sl (.loc 0) 0 1 l.length none, .int .i64 x] [] [(0, .rows 1 (l.map Z8))] (fun r O nx=>O=[]/\nx=1/\∃k:Int,r= .int .i64 k/\(0<=k<->x∈l)):=by
  refine vW.enter Z3 call180 func180 rfl 19 rfl rfl [.tmp 4] rfl ?_;intro w0 F η0 h0;conv=>whnf
  skip
  refine ua.go Z3 [0,1,7] (X:=Nat) (fun c=>c<=l.length/\x∉l.take c) (fun c=>[(8, .int .i64 (c:Int))]) (fun c=>[]) 1 (fun c=>l.length-c) 0 ⟨by omega,by simp⟩ ?_;conv=>whnf
  refine⟨by exact vY.cA h0,?_⟩;rintro c ⟨hc,hn⟩;conv=>whnf
  refine IF.mk (fun h=>?_) (fun h=>?_)
  .have hlt:c<l.length:=by simp at h;omega
   conv=>whnf
   repeat'(first|refine GET.at (row:=Z8 l[c]) (by rw[Int.toNat_natCast,zw];exact V6 hlt) ?_|refine AU ?_|refine IW ?_ ?_<;>intro h<;>try omega)<;>conv=>whnf
   exact u9.val h0 rfl ⟨rfl,rfl,_,rfl,by simp;rw[h];exact zq _⟩
   .refine⟨c+1,⟨by omega,fun hm=>?_⟩,by omega,?_⟩
    .rw[zB hlt]at hm;rcases zX.1 hm with hm|hm
     exact hn hm;exact h (zJ.1 hm)
    conv=>whnf
    exact vY.cA h0
  .have h:c=l.length:=by simp at h;omega
   subst h;rw[yb]at hn
   skip
   exact u9.val h0 rfl ⟨rfl,rfl,_,rfl,by simp[hn]⟩
 refine vW.enter Z3 call131 func131 rfl 9 rfl rfl [.tmp 4] rfl ?_;intro w0 F η0 h0;conv=>whnf
 skip
 refine CALL.aA [0] (bU) ?_;rintro r O nx ⟨rfl,rfl,k,rfl,hk⟩;conv=>whnf
 skip
 refine u9.uh h0 rfl (zf SV.bool ?_);by_cases hm:x∈l
 rw[yA hm,yA (hk.2 hm)];rw[yp hm,yp fun h=>hm (hk.1 h)]
def fA(m:List (LB×Int))(x:LB):Int:=(qi x m).getD 0
def Zl8(q:Qd)(a b c d:Int):List SV:=[.int .i64 q.s.k, .str q.s.t, .str q.s.y, .str q.s.l, .int .i64 q.p.k, .str q.p.t, .str q.p.y, .str q.p.l, .int .i64 q.o.k, .str q.o.t, .str q.o.y, .str q.o.l, .int .i64 q.g.k, .str q.g.t, .str q.g.y, .str q.g.l, .int .i64 a, .int .i64 b, .int .i64 c, .int .i64 d]
def oD(f:LB->Int)(q:Qd)(k:Nat):List Int:=((Zv q).take k).foldl (qP f) []
def tW(nl n ng:Nat):Hp:= .box [.sl (.loc 3) 0 1 nl none, .val (.slice none 0 0), .sl (.loc 1) 0 1 n none, .sl (.loc 4) 0 1 ng none, .int .i64 0]
theorem HB(f:LB->Int)(q:Qd){k:Nat}(t:Tm)(h:(Zv q)[k]?=some t):oD f q (k+1)=qP f (oD f q k) t:=by
 have hl:=(zg.1 h).1;unfold oD;rw[UT _ _ _ hl];congr 1;exact(zg.1 h).2
theorem Zg5(f:LB->Int)(q:Qd){k:Nat}(h:k<=4):(oD f q k).length<=4:=by
 have step:∀acc t,(qP f acc t).length<=acc.length+1:=fun acc t=>by
  unfold qP;split
  split<;>simp
  simp
 have:∀(l:List Tm) (acc:List Int),(l.foldl (qP f) acc).length<=acc.length+l.length:=by
  intro l
  induction l with
  |nil=>intro acc;simp
  |cons t l ih=>intro acc;have:=ih (qP f acc t);have:=step acc t;simp only[List.foldl_cons,List.length_cons];omega
 have h2:=this ((Zv q).take k) [];rw[zA]at h2;simp only[List.length_nil]at h2;unfold oD;omega
structure PX where
 k:Nat
 a:Int
 b:Int
 c:Int
 d:Int
 own:List Int
structure Bf(f:LB->Int)(q:Qd)(x:PX):Prop where
 k:x.k<=4
 a:0<x.k->x.a=wm f q.s
 b:1<x.k->x.b=wm f q.p
 c:2<x.k->x.c=wm f q.o
 d:3<x.k->x.d=wm f q.g
 own:x.own=oD f q x.k
theorem HC{f:LB->Int}{acc:List Int}{t:Tm}(h:¬t.k=2):qP f acc t=acc:=by unfold qP;rw[z6 h]
theorem rN{f:LB->Int}{acc:List Int}{t:Tm}(h:t.k=2)(hm:f t.t∈acc):qP f acc t=acc:=by unfold qP;rw[z8 h,z8 hm]
theorem rO{f:LB->Int}{acc:List Int}{t:Tm}(h:t.k=2)(hm:f t.t∉acc):qP f acc t=acc++ [f t.t]:=by unfold qP;rw[z8 h,z6 hm]
theorem rP{f:LB->Int}{t:Tm}(h:t.k=2):wm f t=f t.t:=by unfold wm;rw[z8 h]
theorem HD{f:LB->Int}{t:Tm}(h:¬t.k=2):wm f t= -1:=by unfold wm;rw[z6 h]
theorem WN{m:List (LB×Int)}{x:LB}{i:Nat}{v:Int}(h:js x m=some (i,v)):fA m x=v:=by unfold fA;rw[VT h];rfl
theorem HE{m:List (LB×Int)}{x:LB}(h:js x m=none):fA m x=0:=by unfold fA;rw[VS h];rfl
theorem lz(l:List Int)(v:Int){n:Nat}(hn:n=l.length):List.take n (l.map Z8)++List.take 1 (List.drop 0 [[SV.int .i64 v]])=(l++ [v]).map Z8:=by
 subst hn;rw[zo (by simp)];simp[Z8]
theorem Zbt{N:Nat}{s:Sd}{I:List (List Sd)}{n:Int}(h:∀l∈I,l.length<=N):∀l∈jE s I n,l.length<=N+1:=by
 intro l hl;unfold jE at hl;obtain⟨i,hi,rfl⟩:=yg.1 hl;rw[vi];have hi':i<I.length:=by simpa using hi
 have:=h _ (zq hi');split
 simp only[ze,List.length_singleton];omega;omega
theorem Bg{s:Sd}:∀{L:List Int} {N:Nat} {I:List (List Sd)},(∀l∈I,l.length<=N)->∀l∈L.foldl (jE s) I,l.length<=N+L.length
 | [],N,I,h=>h
 |n::L,N,I,h=>fun l hl=>by
  have:=Bg (L:=L) (Zbt (s:=s) (n:=n) h) l hl;simp only[List.length_cons];omega
theorem HF{rs:List (List DC)}{r:Nat}{d:DC}{sv:SV}(h:rs[r]?=some [d]):WT (uw rs r 0 (.v sv)) r 0=some (r, .v sv):=by
 unfold WT;rw[Y1,z8 rfl,h];rfl
theorem Zg6{I:List (List Sd)}{n:Int}{s:Sd}{sv:SV}{rows:List (List SV)}{k i:Nat}(hn:n.toNat<I.length)(hi:i=n.toNat)(hr:rows.take k=(I[n.toNat]++ [s]).map Us):
 ((uw (kV I) n.toNat 0 (.v sv)).modify i fun row=>row.set 0 (.uC 20 (rows.take k)))=kV (jE s I n):=by
 subst hi;show uw _ _ _ _=_
 rw[qy,hr];apply yj;intro a;rw[Y1];unfold kV jE;simp only[z7,ym];by_cases ha:a=n.toNat
 .subst ha;rw[z8 rfl,z1 hn];simp[KO]
 .rw[z6 ha];cases I[a]?<;>simp[yO ha]
theorem LC(q:Qd)(m:List (LB×Int))(ins:List (List Sd))(nl ng n:Nat)(hn:n=ins.length)(hin:Ct ins.length (wE (fA m) q))(hl:∀l∈ins,l.length<=67108864)(hil:ins.length<=67108864):
 vW prog uv 97 5 [.ptr (.loc 0) 0 0 0, .agg (Zd q), .mp (.loc 2)] [(0,tW nl n ng),(1, .deep false 1 (kV ins))] [(2, .mp (kz m))]
 (fun r O nx=>r= .bool (decide (0< (wE (fA m) q).length))/\O=[(0,tW nl n ng),(1, .deep false 1 (kV (kL (fA m) ins q)))]/\nx=5):=by
 subst hn;refine vW.enter Z3 call97 func97 rfl 76 rfl rfl [.tmp 6] rfl ?_;intro w0 F η0 h0;conv=>whnf
 repeat'(first|refine CALL.value (LA q) rfl rfl ?_)<;>conv=>whnf
 refine ua.nil 8 1 rfl ?_;refine ua.j5 Z3 [0,2,7,17] [0,1,5] (X:=PX) (Bf (fA m) q) (fun x=>[(18, .int .i64 (x.k:Int)),(8, .sl (.loc 7) 0 1 x.own.length none)]) (fun x=>[(6, .box (Zl8 q x.a x.b x.c x.d)),(7, .rows 1 (x.own.map Z8))]) 8 (fun x=>4-x.k) ⟨0,0,0,0,0,[]⟩ ⟨by simp,by simp,by simp,by simp,by simp,rfl⟩ ?_;conv=>whnf
 refine⟨by exact vY.cA h0,?_⟩;rintro⟨k,a,b,c,d,own⟩ ⟨cq,ha,hb,hc,hd,ho⟩;dsimp only at cq ha hb hc hd ho⊢;conv=>whnf
 refine IF.mk (fun h=>?_) (fun h=>?_)
 .have hlt:k<4:=by simp at h;omega
  have cU:=Zg5 (fA m) q cq;rw[<-ho]at cU;have hkk:k=0\/k=1\/k=2\/k=3:=by omega
  rcases hkk with rfl|rfl|rfl|rfl
  .have hst:=HB (fA m) q (k:=0) q.s rfl;conv=>whnf
   repeat'(first|refine AU ?_|refine IW ?_ ?_<;>intro h<;>try omega)<;>conv=>whnf
   .have h2:=h;refine ud.mk ⟨KT.ok _,YW KT qj _⟩ ?_;refine jx.A KT qj q.s.t m (fun i v hf=>?_) (fun hf=>?_)
    .have hv:=WN hf;have hn:v=wm (fA m) q.s:=by rw[rP h2,hv]
     conv=>whnf
     repeat'(first|refine AU ?_)<;>conv=>whnf
     refine CALL.aA [7] (Yf own v (by omega)) ?_;rintro r O nx ⟨rfl,rfl,rfl⟩;conv=>whnf
     repeat'(first|refine AU ?_|refine IW ?_ ?_<;>intro h<;>try omega)<;>conv=>whnf
     .rw[lz own _ rfl];refine⟨⟨0+1,v,b,c,d,own++ [v]⟩,⟨by dsimp only;omega,fun _=>hn,fun h=>by simp at h,fun h=>by simp at h,fun h=>by simp at h,by dsimp only;rw[hst,rO h2 (by rw[hv,<-ho];exact h),ho,hv]⟩,by dsimp only;omega,?_⟩;conv=>whnf
      exact vY.kA h0 [5,6,10]
     .refine⟨⟨0+1,v,b,c,d,own⟩,⟨by dsimp only;omega,fun _=>hn,fun h=>by simp at h,fun h=>by simp at h,fun h=>by simp at h,by dsimp only;rw[hst,rN h2 (by rw[hv,<-ho];exact h),ho]⟩,by dsimp only;omega,?_⟩;conv=>whnf
      exact vY.cA h0
    .have hv:=HE hf;have hn:0=wm (fA m) q.s:=by rw[rP h2,hv]
     conv=>whnf
     repeat'(first|refine AU ?_)<;>conv=>whnf
     refine CALL.aA [7] (Yf own 0 (by omega)) ?_;rintro r O nx ⟨rfl,rfl,rfl⟩;conv=>whnf
     repeat'(first|refine AU ?_|refine IW ?_ ?_<;>intro h<;>try omega)<;>conv=>whnf
     .rw[lz own _ rfl];refine⟨⟨0+1,0,b,c,d,own++ [0]⟩,⟨by dsimp only;omega,fun _=>hn,fun h=>by simp at h,fun h=>by simp at h,fun h=>by simp at h,by dsimp only;rw[hst,rO h2 (by rw[hv,<-ho];exact h),ho,hv]⟩,by dsimp only;omega,?_⟩;conv=>whnf
      exact vY.kA h0 [5,6,10]
     .refine⟨⟨0+1,0,b,c,d,own⟩,⟨by dsimp only;omega,fun _=>hn,fun h=>by simp at h,fun h=>by simp at h,fun h=>by simp at h,by dsimp only;rw[hst,rN h2 (by rw[hv,<-ho];exact h),ho]⟩,by dsimp only;omega,?_⟩;conv=>whnf
      exact vY.cA h0
   .refine⟨⟨0+1,-1,b,c,d,own⟩,⟨by dsimp only;omega,fun _=>(HD h).symm,fun h=>by simp at h,fun h=>by simp at h,fun h=>by simp at h,by dsimp only;rw[hst,HC h];exact ho⟩,by dsimp only;omega,?_⟩;conv=>whnf
    exact vY.cA h0
  .have hst:=HB (fA m) q (k:=1) q.p rfl;conv=>whnf
   repeat'(first|refine AU ?_|refine IW ?_ ?_<;>intro h<;>try omega)<;>conv=>whnf
   .have h2:=h;refine ud.mk ⟨KT.ok _,YW KT qj _⟩ ?_;refine jx.A KT qj q.p.t m (fun i v hf=>?_) (fun hf=>?_)
    .have hv:=WN hf;have hn:v=wm (fA m) q.p:=by rw[rP h2,hv]
     conv=>whnf
     repeat'(first|refine AU ?_)<;>conv=>whnf
     refine CALL.aA [7] (Yf own v (by omega)) ?_;rintro r O nx ⟨rfl,rfl,rfl⟩;conv=>whnf
     repeat'(first|refine AU ?_|refine IW ?_ ?_<;>intro h<;>try omega)<;>conv=>whnf
     .rw[lz own _ rfl];refine⟨⟨1+1,a,v,c,d,own++ [v]⟩,⟨by dsimp only;omega,fun _=>ha (by omega),fun _=>hn,fun h=>by simp at h,fun h=>by simp at h,by dsimp only;rw[hst,rO h2 (by rw[hv,<-ho];exact h),ho,hv]⟩,by dsimp only;omega,?_⟩;conv=>whnf
      exact vY.kA h0 [5,6,10]
     .refine⟨⟨1+1,a,v,c,d,own⟩,⟨by dsimp only;omega,fun _=>ha (by omega),fun _=>hn,fun h=>by simp at h,fun h=>by simp at h,by dsimp only;rw[hst,rN h2 (by rw[hv,<-ho];exact h),ho]⟩,by dsimp only;omega,?_⟩;conv=>whnf
      exact vY.cA h0
    .have hv:=HE hf;have hn:0=wm (fA m) q.p:=by rw[rP h2,hv]
     conv=>whnf
     repeat'(first|refine AU ?_)<;>conv=>whnf
     refine CALL.aA [7] (Yf own 0 (by omega)) ?_;rintro r O nx ⟨rfl,rfl,rfl⟩;conv=>whnf
     repeat'(first|refine AU ?_|refine IW ?_ ?_<;>intro h<;>try omega)<;>conv=>whnf
     .rw[lz own _ rfl];refine⟨⟨1+1,a,0,c,d,own++ [0]⟩,⟨by dsimp only;omega,fun _=>ha (by omega),fun _=>hn,fun h=>by simp at h,fun h=>by simp at h,by dsimp only;rw[hst,rO h2 (by rw[hv,<-ho];exact h),ho,hv]⟩,by dsimp only;omega,?_⟩;conv=>whnf
      exact vY.kA h0 [5,6,10]
     .refine⟨⟨1+1,a,0,c,d,own⟩,⟨by dsimp only;omega,fun _=>ha (by omega),fun _=>hn,fun h=>by simp at h,fun h=>by simp at h,by dsimp only;rw[hst,rN h2 (by rw[hv,<-ho];exact h),ho]⟩,by dsimp only;omega,?_⟩;conv=>whnf
      exact vY.cA h0
   .refine⟨⟨1+1,a,-1,c,d,own⟩,⟨by dsimp only;omega,fun _=>ha (by omega),fun _=>(HD h).symm,fun h=>by simp at h,fun h=>by simp at h,by dsimp only;rw[hst,HC h];exact ho⟩,by dsimp only;omega,?_⟩;conv=>whnf
    exact vY.cA h0
  .have hst:=HB (fA m) q (k:=2) q.o rfl;conv=>whnf
   repeat'(first|refine AU ?_|refine IW ?_ ?_<;>intro h<;>try omega)<;>conv=>whnf
   .have h2:=h;refine ud.mk ⟨KT.ok _,YW KT qj _⟩ ?_;refine jx.A KT qj q.o.t m (fun i v hf=>?_) (fun hf=>?_)
    .have hv:=WN hf;have hn:v=wm (fA m) q.o:=by rw[rP h2,hv]
     conv=>whnf
     repeat'(first|refine AU ?_)<;>conv=>whnf
     refine CALL.aA [7] (Yf own v (by omega)) ?_;rintro r O nx ⟨rfl,rfl,rfl⟩;conv=>whnf
     repeat'(first|refine AU ?_|refine IW ?_ ?_<;>intro h<;>try omega)<;>conv=>whnf
     .rw[lz own _ rfl];refine⟨⟨2+1,a,b,v,d,own++ [v]⟩,⟨by dsimp only;omega,fun _=>ha (by omega),fun _=>hb (by omega),fun _=>hn,fun h=>by simp at h,by dsimp only;rw[hst,rO h2 (by rw[hv,<-ho];exact h),ho,hv]⟩,by dsimp only;omega,?_⟩;conv=>whnf
      exact vY.kA h0 [5,6,10]
     .refine⟨⟨2+1,a,b,v,d,own⟩,⟨by dsimp only;omega,fun _=>ha (by omega),fun _=>hb (by omega),fun _=>hn,fun h=>by simp at h,by dsimp only;rw[hst,rN h2 (by rw[hv,<-ho];exact h),ho]⟩,by dsimp only;omega,?_⟩;conv=>whnf
      exact vY.cA h0
    .have hv:=HE hf;have hn:0=wm (fA m) q.o:=by rw[rP h2,hv]
     conv=>whnf
     repeat'(first|refine AU ?_)<;>conv=>whnf
     refine CALL.aA [7] (Yf own 0 (by omega)) ?_;rintro r O nx ⟨rfl,rfl,rfl⟩;conv=>whnf
     repeat'(first|refine AU ?_|refine IW ?_ ?_<;>intro h<;>try omega)<;>conv=>whnf
     .rw[lz own _ rfl];refine⟨⟨2+1,a,b,0,d,own++ [0]⟩,⟨by dsimp only;omega,fun _=>ha (by omega),fun _=>hb (by omega),fun _=>hn,fun h=>by simp at h,by dsimp only;rw[hst,rO h2 (by rw[hv,<-ho];exact h),ho,hv]⟩,by dsimp only;omega,?_⟩;conv=>whnf
      exact vY.kA h0 [5,6,10]
     .refine⟨⟨2+1,a,b,0,d,own⟩,⟨by dsimp only;omega,fun _=>ha (by omega),fun _=>hb (by omega),fun _=>hn,fun h=>by simp at h,by dsimp only;rw[hst,rN h2 (by rw[hv,<-ho];exact h),ho]⟩,by dsimp only;omega,?_⟩;conv=>whnf
      exact vY.cA h0
   .refine⟨⟨2+1,a,b,-1,d,own⟩,⟨by dsimp only;omega,fun _=>ha (by omega),fun _=>hb (by omega),fun _=>(HD h).symm,fun h=>by simp at h,by dsimp only;rw[hst,HC h];exact ho⟩,by dsimp only;omega,?_⟩;conv=>whnf
    exact vY.cA h0
  .have hst:=HB (fA m) q (k:=3) q.g rfl;conv=>whnf
   repeat'(first|refine AU ?_|refine IW ?_ ?_<;>intro h<;>try omega)<;>conv=>whnf
   .have h2:=h;refine ud.mk ⟨KT.ok _,YW KT qj _⟩ ?_;refine jx.A KT qj q.g.t m (fun i v hf=>?_) (fun hf=>?_)
    .have hv:=WN hf;have hn:v=wm (fA m) q.g:=by rw[rP h2,hv]
     conv=>whnf
     repeat'(first|refine AU ?_)<;>conv=>whnf
     refine CALL.aA [7] (Yf own v (by omega)) ?_;rintro r O nx ⟨rfl,rfl,rfl⟩;conv=>whnf
     repeat'(first|refine AU ?_|refine IW ?_ ?_<;>intro h<;>try omega)<;>conv=>whnf
     .rw[lz own _ rfl];refine⟨⟨3+1,a,b,c,v,own++ [v]⟩,⟨by dsimp only;omega,fun _=>ha (by omega),fun _=>hb (by omega),fun _=>hc (by omega),fun _=>hn,by dsimp only;rw[hst,rO h2 (by rw[hv,<-ho];exact h),ho,hv]⟩,by dsimp only;omega,?_⟩;conv=>whnf
      exact vY.kA h0 [5,6,10]
     .refine⟨⟨3+1,a,b,c,v,own⟩,⟨by dsimp only;omega,fun _=>ha (by omega),fun _=>hb (by omega),fun _=>hc (by omega),fun _=>hn,by dsimp only;rw[hst,rN h2 (by rw[hv,<-ho];exact h),ho]⟩,by dsimp only;omega,?_⟩;conv=>whnf
      exact vY.cA h0
    .have hv:=HE hf;have hn:0=wm (fA m) q.g:=by rw[rP h2,hv]
     conv=>whnf
     repeat'(first|refine AU ?_)<;>conv=>whnf
     refine CALL.aA [7] (Yf own 0 (by omega)) ?_;rintro r O nx ⟨rfl,rfl,rfl⟩;conv=>whnf
     repeat'(first|refine AU ?_|refine IW ?_ ?_<;>intro h<;>try omega)<;>conv=>whnf
     .rw[lz own _ rfl];refine⟨⟨3+1,a,b,c,0,own++ [0]⟩,⟨by dsimp only;omega,fun _=>ha (by omega),fun _=>hb (by omega),fun _=>hc (by omega),fun _=>hn,by dsimp only;rw[hst,rO h2 (by rw[hv,<-ho];exact h),ho,hv]⟩,by dsimp only;omega,?_⟩;conv=>whnf
      exact vY.kA h0 [5,6,10]
     .refine⟨⟨3+1,a,b,c,0,own⟩,⟨by dsimp only;omega,fun _=>ha (by omega),fun _=>hb (by omega),fun _=>hc (by omega),fun _=>hn,by dsimp only;rw[hst,rN h2 (by rw[hv,<-ho];exact h),ho]⟩,by dsimp only;omega,?_⟩;conv=>whnf
      exact vY.cA h0
   .refine⟨⟨3+1,a,b,c,-1,own⟩,⟨by dsimp only;omega,fun _=>ha (by omega),fun _=>hb (by omega),fun _=>hc (by omega),fun _=>(HD h).symm,by dsimp only;rw[hst,HC h];exact ho⟩,by dsimp only;omega,?_⟩;conv=>whnf
    exact vY.cA h0
 .have hk:k=4:=by simp at h;omega
  subst hk;have ha:=ha (by omega);have hb:=hb (by omega);have hc:=hc (by omega);have hd:=hd (by omega);subst ha hb hc hd;have cU:=MD (fA m) q;have HG:own=wE (fA m) q:=ho;rw[show kL (fA m) ins q=own.foldl (jE (gP (fA m) q)) ins by rw[HG];rfl,<-HG];rw[<-HG]at hin cU;clear HG ho cq h;conv=>whnf
  skip
  refine ua.j5 Z3 [0,7,8,50,51] [0,6,7] (X:=Nat) (fun j=>j<=own.length) (fun j=>[(52, .int .i64 (j:Int))]) (fun j=>[(1, .deep false 1 (kV ((own.take j).foldl (jE (gP (fA m) q)) ins)))]) 8 (fun j=>own.length-j) 0 (by omega) ?_;conv=>whnf
  refine⟨by exact vY.cA h0,?_⟩;rintro j hj;conv=>whnf
  refine IF.mk (fun h=>?_) (fun h=>?_)
  .have hlt:j<own.length:=by simp at h;omega
   obtain⟨hn0,cW⟩:=hin _ (zq hlt);have hlen:=He (gP (fA m) q) (own.take j) ins;have hbd:=Bg (s:=gP (fA m) q) (L:=own.take j) hl;rw[zA]at hbd;have hto:=UT (jE (gP (fA m) q)) ins own hlt;generalize(own.take j).foldl (jE (gP (fA m) q)) ins=I at hlen hto hbd;have hg:=V6 hlt;generalize own[j]=n at hn0 cW hto hg;conv=>whnf
   repeat'(first|refine GET.at (row:=Z8 n) (by rw[Int.toNat_natCast,zw];exact hg) ?_|refine AU ?_)<;>conv=>whnf
   have hnl:n.toNat<I.length:=by omega
   have hIn:(List.map Us I[n.toNat]).length<=67108868:=by
    rw[zj];have:=hbd _ (zq hnl);omega
   refine uZ.drawn (uZ.take 1 n.toNat 0 rfl (Qe hnl) rfl) ?_;repeat'(first|(show uK _ _ _ _ _ _ _;first|refine Zs 15 ZdJ ?_)|refine qW.mk (fun _ _=>?_)|refine AD ?_|refine w6.mk ?_ ?_|refine GET.at (by rw[zw];exact Hy (Qe hnl)) ?_|refine wZ.at (by rw[zw];exact HF (Qe hnl)) ?_|refine AU ?_)<;>conv=>whnf
   all_goals rw[Zg6 hnl (zw _) (s:=gP (fA m) q) (by rw[zo (by simp),zo (by simp)];simp[Us,gP])]
   all_goals refine⟨j+1,by omega,by omega,?_⟩
   all_goals rw[hto]
   all_goals (conv=>whnf)
   all_goals exact vY.cA h0
  .have hj:j=own.length:=by simp at h;omega
   subst hj;rw[yb];conv=>whnf
   skip
   refine u9.aA h0 [] (.bool (decide ((0:Int)< (own.length:Int)))) [(0,tW nl ins.length ng),(1, .deep false 1 (kV (own.foldl (jE (gP (fA m) q)) ins)))] ⟨?_,rfl,rfl⟩;exact zf SV.bool (by simp)
def X0(b:Int)(A:List LB):Nat->List (LB×Int)
 |0=>[]
 |i+1=>match A[i]? with
  |some x=>qv x (b+i) (X0 b A i)
  |none=>X0 b A i
theorem V7{b:Int}{A:List LB}{i:Nat}(h:i<A.length):X0 b A (i+1)=qv A[i] (b+i) (X0 b A i):=by
 rw[X0,z1 h]
theorem WO{b:Int}{A:List LB}(hn:A.Nodup):∀(n:Nat) (x:LB),n<=A.length->qi x (X0 b A n)=if h:A.idxOf x<n then some (b+(A.idxOf x:Nat))else none
 |0,x,_=>by simp[X0,qi]
 |n+1,x,h=>by
  rw[V7 (by omega),H8,WO hn n x (by omega)];have hidx:A.idxOf A[n]=n:=hn.idxOf_getElem n (by omega);by_cases e:x=A[n]
  .subst e;rw[z8 rfl,yx (by omega),hidx]
  .rw[z6 e]
   have hne:A.idxOf x≠n:=fun h2=>e (by
    have hlt:A.idxOf x<A.length:=by omega
    have:=zV hlt
    rw[<-this];congr 1)
   by_cases h3:A.idxOf x<n
   rw[yx h3,yx (by omega)];rw[yP h3,yP (by omega)]
def wq(b:Int)(A:List LB)(x:LB):Int:=if x∈A then b+(A.idxOf x:Nat)else 0
theorem Gp{b:Int}{A:List LB}(hn:A.Nodup):fA (X0 b A A.length)=wq b A:=by
 funext x;unfold fA wq;rw[WO hn _ x (zn _)];by_cases h:x∈A
 rw[yx (zy h),z8 h];rfl;rw[yP (by rw[List.idxOf_lt_length_iff];exact h),z6 h];rfl
theorem R3(I:List (List Sd)){n:Nat}(hn:n=I.length){T:qg}{e:TypeId}(hT:gq T e (.val (.slice none 0 0))= .uC 20 []):(kV I).take n++List.map (fun row=>row.map (gq T e)) (List.take 1 (List.drop 0 [[J9 (Value.slice none 0 0)]]))=kV (I++ [[]]):=by
 subst hn;rw[zo (by simp[kV])];simp only[kV,yo,zL,yX,KO,xA,List.take_succ_cons,List.take_zero,J9,hT]
theorem BA(A:List LB){i:Nat}(h:i<A.length):List.take i ((A.take i).map Z9)++List.take 1 (List.drop 0 [[SV.str A[i]]])=(A.take (i+1)).map Z9:=by
 rw[zo (by rw[zj,zA];omega),zB h,yo]
 rfl
theorem Jh(f:LB->Int):∀(l:List Qd) (I:List (List Sd)),(l.foldl (kL f) I).length=I.length
 | [],_=>rfl
 |q::l,I=>by rw[List.foldl_cons,Jh f l,MC]
theorem WP{f:LB->Int}:∀{l:List Qd} {N:Nat} {I:List (List Sd)},(∀x∈I,x.length<=N)->∀x∈l.foldl (kL f) I,x.length<=N+l.length*4
 | [],N,I,h=>h
 |q::l,N,I,h=>fun x hx=>by
  have h1:=Bg (s:=gP f q) (L:=wE f q) h;have h2:=MD f q;have:=WP (f:=f) (l:=l) (N:=N+4) (I:=kL f I q) (fun y hy=>zK (h1 y hy) (by omega)) x hx;simp only[List.length_cons];omega
def Ve(f:LB->Int)(l:List Qd):List Qd:=l.filter fun q=>decide (wE f q=[])
theorem R4(f:LB->Int){l:List Qd}{j:Nat}(h:j<l.length):Ve f (l.take (j+1))=if wE f l[j]=[]then Ve f (l.take j)++ [l[j]]else Ve f (l.take j):=by
 unfold Ve;rw[zB h,List.filter_append];by_cases e:wE f l[j]=[]
 rw[z8 e];simp[e];rw[z6 e];simp[e]
theorem BB{l z:List Qd}{i k:Nat}(h:i<l.length)(e:k=i):((l++z).map Zd)[k]?=some (Zd l[i]):=by
 subst e;rw[z7,zu h,z1 h];rfl
theorem BD(G:List Qd)(q:Qd){n:Nat}(hn:n=G.length):List.take n (G.map Zd)++List.take 1 (List.drop 0 [[.int .i64 q.s.k, .str q.s.t, .str q.s.y, .str q.s.l, .int .i64 q.p.k, .str q.p.t, .str q.p.y, .str q.p.l, .int .i64 q.o.k, .str q.o.t, .str q.o.y, .str q.o.l, .int .i64 q.g.k, .str q.g.t, .str q.g.y, .str q.g.l]])=(G++ [q]).map Zd:=by
 subst hn;rw[zo (by simp),yo]
 rfl
theorem Ux{l c:Int}{b:Nat}(B:Nat)(hb:Nat.ble b B=true)(h1:0<=l)(h2:l<=c)(h3:c<=9223372036854775807)(h4:B*c<=281474976710656):0<=l/\l<=c/\c<=9223372036854775807/\(b:Int)*c<=281474976710656:=
 ⟨h1,h2,h3,Int.le_trans (Int.mul_le_mul_of_nonneg_right (by exact_mod_cast zP hb) (Int.le_trans h1 h2)) h4⟩
def Vf(l:List Qd):List (List Sd):=l.foldl (kL (wq 0 (Z0 l))) (List.replicate (Z0 l).length [])
end Go.Proofs.YtlcbipfmodcedaaGreatDoor
