/- Part 22: IsoRest, IsoFindL, IsoVal, IsoEven, FindW, IsoLook2. Conditions: as each part says. -/
import Derived.Test.YtlcbipfmodcedaaGreatDoorCiso20
import Derived.Test.YtlcbipfmodcedaaGreatDoorCiso21
set_option linter.unusedVariables false
set_option linter.unusedSimpArgs false
set_option maxRecDepth 20000
set_option maxHeartbeats 8000000
namespace Go.Proofs.YtlcbipfmodcedaaGreatDoor
open Go.Sx Go.Our
open _root_.Go.Proofs.Tryz
def ZbA:uJ:=(ZI [(0,1),(1,1),(2,1),(4,1),(3,2),(5,1),(6,2),(7,1),(8,1),(9,1),(10,1),(11,1),(16,1),(19,1),(20,1),(21,1),(26,1),(27,1),(28,1),(30,1),(12,2),(13,1),(14,1),(15,2),(17,1),(18,2),(22,2),(23,1),(24,1),(25,2),(29,2),(31,1),(32,1),(33,2),(34,1),(35,1)])
def ZbB:uJ:=(ZI [(0,1),(1,1),(2,1),(4,1),(5,1),(6,1),(7,1),(9,1),(10,1),(3,2),(8,2),(11,1),(12,0),(13,1),(14,0)])
def Rx:uJ:=(ZI [(0,1),(1,1),(2,1),(4,1),(5,1),(6,1),(7,1),(9,1),(3,2),(8,2),(10,1),(11,0),(12,1),(13,0)])
def qR(half:Nat)(ys:List Nat):List Int:=ys.map (fun(y:Nat)=>(y:Int))++List.replicate (half-ys.length) (-1)
def ax(half:Nat)(ys:List Nat):List Int:=(List.range half).map fun y=>if y∈ys then 1 else 0
def lI(half:Nat)(ys:List Nat)(left:Nat)(ins:List (List Sd)):u0:=[(0,Rl half left),(3, .rows 1 ((qR half ys).map Z8)),(4, .rows 1 ((ax half ys).map Z8)),(7, .deep false 1 (kV ins))]
def cQ(cl:List Int)(half:Nat)(x y:Nat):Bool:=decide (cl.getD x 0=cl.getD (half+y) 0)
def jt(uy:List LB)(half:Nat)(bq:List Qd)(ins:List (List Sd))(zs:List Nat):Bool:=mC uy half (qR half zs) bq (ins.getD (zs.length-1) [])
theorem Zlb{half y:Nat}(ok:Nat->Bool)(fits:List Nat->Bool)(next:List Nat->Nat->Out)(ys:List Nat)(lf:Nat)(h:y<half):eZ ok fits next ys ((List.range half).drop y) lf=if y∈ys\/ok y=false then eZ ok fits next ys ((List.range half).drop (y+1)) lf
 else match lf with
  |0=> .over
  |lf+1=>if fits (ys++ [y])=true then(match next (ys++ [y]) lf with
    | .none left'=>eZ ok fits next ys ((List.range half).drop (y+1)) left'
    |o=>o)else eZ ok fits next ys ((List.range half).drop (y+1)) lf:=by
 rw[zQ (by simpa using h),yS];rfl
theorem Ry{half y:Nat}{ys:List Nat}(h:ys.length<half):(qR half ys).set ys.length (y:Int)=qR half (ys++ [y]):=by
 unfold qR;rw[xe _ _ (by simp),zj,v8,show half-ys.length=(half-(ys++ [y]).length)+1 by simp;omega,List.replicate_succ,List.set_cons_zero,yo,zR]
 rfl
theorem Ziz{half y:Nat}{ys:List Nat}(h:ys.length<half):(qR half (ys++ [y])).set ys.length (-1)=qR half ys:=by
 rw[<-Ry h,List.set_set];unfold qR;rw[xe _ _ (by simp),zj,v8,show half-ys.length=(half-ys.length-1)+1 by omega,List.replicate_succ,List.set_cons_zero]
theorem Rz{half y:Nat}{ys zs:List Nat}{v:Int}(hv:v=if y∈zs then 1 else 0)(h:∀z,z≠y->(z∈zs<->z∈ys)):(ax half ys).set y v=ax half zs:=by
 unfold ax;apply yj;intro i;rw[xl,zj,yw,z7,z7];by_cases e:y=i
 .subst e;by_cases hy:y<half
  rw[z8 rfl,z8 hy,yz hy,hv];rfl;rw[z8 rfl,z6 hy,yd (by simp;omega)];rfl
 .rw[z6 e];cases hi:(List.range half)[i]? with
  |none=>rfl
  |some j=>
   have hj:j=i:=by
    have:=zg.1 hi;obtain⟨_,h2⟩:=this;rw[yS]at h2;exact h2.symm
   subst hj;simp only[Option.map_some];have:=h j (yO e);by_cases hm:j∈ys
   rw[z8 hm,z8 (this.2 hm)];rw[z6 hm,z6 fun h2=>hm (this.1 h2)]
theorem Zkm{half:Nat}{ys:List Nat}(h:∀y∈ys,y<half):∀p∈qR half ys,-1<=p/\p< (half:Int):=by
 intro p hp;unfold qR at hp;rcases zX.1 hp with h1|h1
 .obtain⟨y,hy,rfl⟩:=zM.1 h1;have:=h y hy;omega
 rw[xE h1];omega
theorem ZiA(half:Nat)(ys:List Nat)(left:Nat)(ins:List (List Sd)):qF (Zk [0,1,2,3,4,5,6,7,8] 9) (lI half ys left ins)=lI half ys left ins:=by
 show [(0,_),(3,uo _ (.rows 1 _)),(4,uo _ (.rows 1 _)),(7,uo _ (.deep false 1 _))]=_
 rw[gb,gb,kO]
 rfl
theorem Z7K(uy:List LB)(half:Nat)(cl:List Int)(bq:List Qd)(ins:List (List Sd))(ng:Nat)(count:Int)(Gr:uy.length=2*half)(fL:cl.length=2*half)(hins:ins.length=2*half)(hn:uy.length<=67108864)(hI:∀x,x<half->∀h:x<ins.length,ins[x].length<=67108864/\∀s∈ins[x],∀n∈av s,-1<=n/\n< (half:Int)):∀(d:Nat) (ys:List Nat) (left:Nat),ys.length+d=half->left<=65536->Ps half (cQ cl half) ys->
 fC prog uv 61 9 [.ptr (.loc 0) 0 0 0, .int .i64 (ys.length:Int)] (lI half ys left ins) [(1,Rm uy.length cl.length ins.length ng count),(2, .mp (lH bq)),(5, .rows 1 (uy.map Z9)),(6, .rows 1 (cl.map Z8))]
 (fun r O nx=>nx=9/\match XP half (cQ cl half) (jt uy half bq ins) d ys left with
   | .found zs m=>r= .bool true/\O=lI half zs m ins
   | .none m=>r= .bool false/\O=lI half ys m ins
   | .over=>False)
 (fun r O nx=>nx=9/\r= .gR 25 (.int .i64 4)/\O=[]/\XP half (cQ cl half) (jt uy half bq ins) d ys left= .over):=by
 intro d
 induction d with
 |zero=>
  intro ys left hd hl hp;refine fC.enter Z3 call61 func61 rfl 103 rfl rfl [.tmp 4] rfl ?_;intro w0 F η0 h0;conv=>whnf
  repeat'(first|refine AU ?_|refine IW ?_ ?_<;>intro h<;>try omega)<;>conv=>whnf
  all_goals first|exact u9.aA h0 [] (.bool true) (lI half ys left ins) ⟨rfl,rfl,rfl⟩|(exfalso;omega)
 |succ d ih=>
  intro ys left hd hl hp;obtain⟨R,hR⟩:∃R,R=XP half (cQ cl half) (jt uy half bq ins) (d+1) ys left:=⟨_,rfl⟩;rw[<-hR];refine fC.enter Z3 call61 func61 rfl 103 rfl rfl [.tmp 4] rfl ?_;intro w0 F η0 h0;conv=>whnf
  repeat'(first|refine AU ?_|refine IW ?_ ?_<;>intro h<;>try omega)<;>conv=>whnf
  refine ua.j5 Z3 [0,1,15] [] (X:=Nat×Nat) (fun x=>x.1<=half/\x.2<=left/\eZ (cQ cl half ys.length) (jt uy half bq ins) (XP half (cQ cl half) (jt uy half bq ins) d) ys ((List.range half).drop x.1) x.2=R) (fun x=>[(16, .int .i64 (x.1:Int))]) (fun x=>lI half ys x.2 ins) 9 (fun x=>half-x.1) (0,left) ⟨by simp,zn _,by rw[hR];rfl⟩ ?_;conv=>whnf
  refine⟨by exact vY.cA h0,?_⟩;rintro⟨y,lf⟩ ⟨hy,hlf,hg⟩;dsimp only at hy hlf hg⊢;conv=>whnf
  repeat'(first|refine AU ?_|refine IW ?_ ?_<;>intro h<;>try omega)<;>conv=>whnf
  .have Qq:y<half:=by omega
   have hgt:((ax half ys).map Z8)[y]?=some (Z8 (if y∈ys then 1 else 0)):=by unfold ax;rw[z7,z7,yz Qq];rfl
   have hx:ys.length<cl.length:=by omega
   have RA:half+y<cl.length:=by omega
   have hgc:=YT (f:=Z8) hx rfl;have hgd:=YT (f:=Z8) RA rfl;have BK:IntKind.i64.wrap ((half:Int)+(y:Int))=((half+y:Nat):Int):=by rw[Z4 (by omega) (by omega)];omega
   have cr:=Zlb (cQ cl half ys.length) (jt uy half bq ins) (XP half (cQ cl half) (jt uy half bq ins) d) ys lf Qq;rw[hg]at cr;have hok:cQ cl half ys.length y=decide (cl[ys.length]=cl[half+y]):=by unfold cQ;rw[zi,zi,z1 hx,z1 RA];rfl
   repeat'(first|(show uK _ _ _ _ _ _ _;first|refine Zs 6 ZbA ?_)|refine qW.mk (fun _ _=>?_)|refine AD ?_|refine w6.mk ?_ ?_|refine GET.at (row:=Z8 (if y∈ys then 1 else 0)) (by rw[zw,Int.toNat_natCast];exact hgt) ?_|refine GET.at (row:=Z8 cl[ys.length]) (by rw[zw,Int.toNat_natCast];exact hgc) ?_|refine GET.at (row:=Z8 cl[half+y]) (by rw[BK,zw,Int.toNat_natCast];exact hgd) ?_|refine AU ?_|refine IW ?_ ?_<;>intro h<;>try omega)<;>conv=>whnf
   .have hm:y∈ys:=yu fun hm=>by rw[z6 hm]at h;omega
    refine⟨(y+1,lf),⟨by dsimp only;omega,hlf,?_⟩,by dsimp only;omega,?_⟩;rw[cr,z8 (.inl hm)];dsimp only;conv=>whnf
    exact vY.cA h0
   .refine⟨(y+1,lf),⟨by dsimp only;omega,hlf,?_⟩,by dsimp only;omega,?_⟩;rw[cr,z8 (.inr (hok.trans (yp h)))];dsimp only;conv=>whnf
    exact vY.cA h0
   .have hlz:lf=0:=by omega
    have iB:y∉ys:=fun hm=>by have h7:= ‹(if y∈ys then(1:Int)else 0)<=0›;rw[z8 hm]at h7;omega
    subst hlz;rw[z6 (by rw[hok,yA ‹cl[ys.length]=cl[half+y]›];simp[iB])]at cr;exact⟨⟨rfl,trivial⟩,u9.aA h0 [] (.gR 25 (.int .i64 4)) [] ⟨rfl,rfl,rfl,cr⟩⟩
   .have iB:y∉ys:=fun hm=>by have h7:= ‹(if y∈ys then(1:Int)else 0)<=0›;rw[z8 hm]at h7;omega
    obtain⟨m,rfl⟩:∃m,lf=m+1:=⟨lf-1,by omega⟩;have lJ:cQ cl half ys.length y=true:=by rw[hok];exact yA ‹cl[ys.length]=cl[half+y]›
    rw[z6 (by rw[lJ];simp[iB])]at cr;dsimp only at cr;have eH:IntKind.i64.wrap (((m+1:Nat):Int)-1)=(m:Int):=by rw[Z4 (by omega) (by omega)];omega
    rw[eH];have jB:ys.length< (qR half ys).length:=by unfold qR;simp;omega
    have Gt:=YT (f:=Z8) jB rfl;repeat'(first|(show uK _ _ _ _ _ _ _;first|refine Zs 10 ZbB ?_)|refine qW.mk (fun _ _=>?_)|refine AD ?_|refine w6.mk ?_ ?_|refine GET.at (row:=Z8 (if y∈ys then 1 else 0)) (by rw[zw,Int.toNat_natCast];exact hgt) ?_|refine GET.at (row:=Z8 (qR half ys)[ys.length]) (by rw[zw,Int.toNat_natCast];exact Gt) ?_|refine AU ?_|refine IW ?_ ?_<;>intro h<;>try omega)<;>conv=>whnf
    have hs3:((qR half ys).map Z8).set (0+(ys.length:Int).toNat) [SV.int .i64 (y:Int)]=(qR half (ys++ [y])).map Z8:=by rw[Vu (x:=ys.length) (by omega),Ry (by omega)]
    have hs4:((ax half ys).map Z8).set (0+(y:Int).toNat) [J9 (Value.int .i64 1)]=(ax half (ys++ [y])).map Z8:=(Vu (x:=y) (v:=1) (by omega)).trans (zf (List.map Z8) (Rz (by simp) (fun z hz=>by simp[hz])));rw[hs3,hs4];have oF:ys.length<ins.length:=by omega
    obtain⟨lK,iC⟩:=hI ys.length (by omega) oF;have hps:(qR half (ys++ [y])).length=half:=by unfold qR;simp;omega
    have bN:∀p∈qR half (ys++ [y]),-1<=p/\p< (half:Int):=Zkm (hp.snoc iB lJ Qq).lt;have hft:=Ze7 uy half (qR half (ys++ [y])) bq ins cl.length ng ys.length m count oF Gr hps hn lK iC bN
    have Dg:jt uy half bq ins (ys++ [y])=mC uy half (qR half (ys++ [y])) bq ins[ys.length]:=by
     unfold jt;rw[show(ys++ [y]).length-1=ys.length by simp,zi,z1 oF];rfl
    rw[<-Dg]at hft;have BO:ys.length< (qR half (ys++ [y])).length:=by omega
    have Gx:=YT (f:=Z8) BO rfl;have Gy:((ax half (ys++ [y])).map Z8)[y]?=some (Z8 1):=by unfold ax;rw[z7,z7,yz Qq];simp
    have RB:((qR half (ys++ [y])).map Z8).set (0+(ys.length:Int).toNat) [J9 (Value.int .i64 (-1))]=(qR half ys).map Z8:=(Vu (x:=ys.length) (v:= -1) (by omega)).trans (zf (List.map Z8) (Ziz (by omega)));have hb4:((ax half (ys++ [y])).map Z8).set (0+(y:Int).toNat) [J9 (Value.int .i64 0)]=(ax half ys).map Z8:=(Vu (x:=y) (v:=0) (by omega)).trans (zf (List.map Z8) (Rz (by rw[z6 iB]) (fun z hz=>by simp[hz])));refine qn.calm ?_;refine CALL.aA [0,1,2,3,4,5,6,7,8] (hft) ?_;rintro r O nx ⟨rfl,rfl,rfl⟩;conv=>whnf
    refine IF.mk (fun hf=>?_) (fun hf=>?_)
    .repeat'(first|refine AU ?_|refine IW ?_ ?_<;>intro h<;>try omega)<;>conv=>whnf
     have BP:=ih (ys++ [y]) m (by simp;omega) (by omega) (hp.snoc iB lJ Qq);rw[show((ys++ [y]).length:Int)=IntKind.i64.wrap ((ys.length:Int)+1)by rw[Z4 (by omega) (by omega)];simp]at BP;have hinv:=BI (fits:=jt uy half bq ins) d (ys++ [y]) m (hp.snoc iB lJ Qq);rw[z8 hf]at cr;generalize XP half (cQ cl half) (jt uy half bq ins) d (ys++ [y]) m=Z at BP hinv cr;refine qn.aA [0,1,2,3,4,5,6,7,8] (BP) ?_ ?_
     .rintro r O nx ⟨rfl,hq⟩;cases Z with
      |found zs k=>
       obtain⟨rfl,rfl⟩:=hq;conv=>whnf
       repeat'(first|refine AU ?_|refine IW ?_ ?_<;>intro h<;>try omega)<;>conv=>whnf
       exact u9.aA h0 [] (.bool true) (lI half zs k ins) ⟨rfl,by rw[cr];exact⟨rfl,rfl⟩⟩
      |none k=>
       obtain⟨rfl,rfl⟩:=hq;rw[ZiA];conv=>whnf
       have hkm:=hinv.2 k rfl;repeat'(first|(show uK _ _ _ _ _ _ _;first|refine Zs 13 Rx ?_)|refine qW.mk (fun _ _=>?_)|refine AD ?_|refine w6.mk ?_ ?_|refine GET.at (row:=Z8 1) (by rw[zw,Int.toNat_natCast];exact Gy) ?_|refine GET.at (row:=Z8 (qR half (ys++ [y]))[ys.length]) (by rw[zw,Int.toNat_natCast];exact Gx) ?_|refine AU ?_|refine IW ?_ ?_<;>intro h<;>try omega)<;>conv=>whnf
       rw[RB,hb4];refine⟨(y+1,k),⟨by dsimp only;omega,by dsimp only;omega,cr.symm⟩,by dsimp only;omega,?_⟩;dsimp only;conv=>whnf
       exact vY.cA h0
      |over=>exact hq.elim
     .rintro r O nx ⟨rfl,rfl,rfl,rfl⟩;exact⟨⟨rfl,trivial⟩,u9.aA h0 [] (.gR 25 (.int .i64 4)) [] ⟨rfl,rfl,rfl,cr⟩⟩
    .rw[z6 (by rw[hf];simp)]at cr;repeat'(first|(show uK _ _ _ _ _ _ _;first|refine Zs 13 Rx ?_)|refine qW.mk (fun _ _=>?_)|refine AD ?_|refine w6.mk ?_ ?_|refine GET.at (row:=Z8 1) (by rw[zw,Int.toNat_natCast];exact Gy) ?_|refine GET.at (row:=Z8 (qR half (ys++ [y]))[ys.length]) (by rw[zw,Int.toNat_natCast];exact Gx) ?_|refine AU ?_|refine IW ?_ ?_<;>intro h<;>try omega)<;>conv=>whnf
     rw[RB,hb4];refine⟨(y+1,m),⟨by dsimp only;omega,by dsimp only;omega,cr.symm⟩,by dsimp only;omega,?_⟩;dsimp only;conv=>whnf
     exact vY.cA h0
  .have hRn:R= .none lf:=by rw[<-hg,List.drop_of_length_le (by rw[yw];omega)];rfl
   rw[hRn];exact u9.aA h0 [] (.bool false) (lI half ys lf ins) ⟨rfl,rfl,rfl⟩
end Go.Proofs.YtlcbipfmodcedaaGreatDoor
namespace Go.Proofs.YtlcbipfmodcedaaGreatDoor
open Go.Sx Go.Our
def wB(a b:List Qd):List (List Sd):=b.foldl (kL (wq (Z0 a).length (Z0 b))) (Vf a++List.replicate (Z0 b).length [])
theorem U1(a b:List Qd):(wB a b).length=(Z0 a).length+(Z0 b).length:=by
 unfold wB Vf;rw[Jh,ze,Jh,zT,zT]
theorem YB{l:List Qd}{q:Qd}{t:Tm}(hq:q∈l)(ht:t∈Zv q)(hk:t.k=2):t.t∈Z0 l:=by
 refine(Vc _ _).2 (xy.2 ⟨q,hq,?_⟩);have hb:t.t∈ZV t:=by unfold ZV;rw[z8 hk];exact vk _
 unfold Zv at ht;unfold ZB;simp only[zI,xh,or_false]at ht;simp only[zX];rcases ht with rfl|rfl|rfl|rfl
 exact .inl (.inl (.inl hb));exact .inl (.inl (.inr hb));exact .inl (.inr hb);exact .inr hb
theorem rW{c:Int}{A:List LB}{x:LB}(h:x∈A):wq c A x=c+(A.idxOf x:Nat):=by unfold wq;rw[z8 h]
theorem iD{c:Int}(hc:0<=c)(l:List Qd):∀q∈l,∀n∈wE (wq c (Z0 l)) q,c<=n/\n<c+((Z0 l).length:Int):=by
 intro q hq n hn;obtain⟨t,ht,hk,rfl⟩:=jJ.1 hn;have hm:=YB hq ht hk;have:=zy hm;rw[rW hm];omega
theorem J4(l:List Qd):(Vf l).length=(Z0 l).length:=by unfold Vf;rw[Jh,zT]
theorem E0{a b:List Qd}{x:Nat}(hx:x< (Z0 a).length):(wB a b).getD x []=(a.filter fun q=>decide ((x:Int)∈wE (wq 0 (Z0 a)) q)).map (gP (wq 0 (Z0 a))):=by
 have h1:x< (Vf a++List.replicate (Z0 b).length []).length:=by rw[ze,J4];omega
 have h2:x< (wB a b).length:=by rw[U1];omega
 have h3:x< (Vf a).length:=by rw[J4];exact hx
 rw[zi,z1 h2,Option.getD_some];have e1:=Uy (f:=wq (Z0 a).length (Z0 b)) (l:=b) h1 h2 fun q hq n hn=>by have:=iD (c:=(Z0 a).length) (by omega) b q hq n hn;omega
 have hb:b.filter (fun q=>decide ((x:Int)∈wE (wq (Z0 a).length (Z0 b)) q))=[]:=by
  rw[List.filter_eq_nil_iff];intro q hq;simp only[yN];intro hn;have:=iD (c:=(Z0 a).length) (by omega) b q hq _ hn;omega
 rw[hb,yX,zU,List.getElem_append_left h3]at e1;refine e1.trans ?_;have h4:x< (List.replicate (Z0 a).length ([]:List Sd)).length:=by rw[zT];exact hx
 have e2:=Uy (f:=wq 0 (Z0 a)) (l:=a) h4 h3 fun q hq n hn=>(iD (c:=0) (by omega) a q hq n hn).1;refine e2.trans ?_;rw[xw,List.nil_append]
def uG(A B:List LB)(zs:List Nat):List Pr:=List.zipWith (fun x y=>(x,B.getD y [])) A zs
theorem qt{A B:List LB}{zs:List Nat}(h:zs.length<=A.length):(uG A B zs).length=zs.length:=by unfold uG;rw[vj];omega
theorem BQ{p:Pr}{ps:List Pr}{s:LB}:uW (p::ps) s=if p.1=s then some p.2 else uW ps s:=by
 unfold uW;rw[List.find?_cons];by_cases h:p.1=s
 simp[h];simp[h]
theorem iE{A B:List LB}(hn:A.Nodup){zs:List Nat}{i:Nat}(hi:i<zs.length)(hA:i<A.length):uW (uG A B zs) A[i]=some (B.getD zs[i] []):=by
 induction A generalizing zs i with
 |nil=>simp at hA
 |cons a A ih=>
  cases zs with
  |nil=>simp at hi
  |cons z zs=>
   have hd:=xb.1 hn;simp only[uG,List.zipWith_cons_cons,BQ];cases i with
   |zero=>exact z8 rfl
   |succ i=>
    have rT:i<A.length:=by simpa using hA
    have hne:¬a=A[i]:=fun e=>hd.1 (e▸zq rT);simp only[List.getElem_cons_succ];rw[z6 hne];exact ih hd.2 (by simpa using hi) rT
theorem E1{A B:List LB}{zs:List Nat}{s:LB}(h:∀i (hi:i<A.length),i<zs.length->A[i]≠s):uW (uG A B zs) s=none:=by
 induction A generalizing zs with
 |nil=>simp[uG,uW]
 |cons a A ih=>
  cases zs with
  |nil=>simp[uG,uW]
  |cons z zs=>
   simp only[uG,List.zipWith_cons_cons,BQ];rw[z6 (show ¬a=s from h 0 (by simp) (by simp))];exact ih fun i hi hz=>h (i+1) (by simpa using hi) (by simpa using hz)
def qG(ps:List Pr)(t:Tm):Tm:=if t.k=2 then{t with t:=(uW ps t.t).getD []}else t
def jv(ps:List Pr)(q:Qd):Qd:=⟨qG ps q.s,qG ps q.p,qG ps q.o,qG ps q.g⟩
def rX(last:LB)(q:Qd):Bool:=(Zv q).any fun t=>decide (t.k=2)&&decide (t.t=last)
def dh(ps:List Pr)(q:Qd):Bool:=(Zv q).all fun t=>!decide (t.k=2)||(uW ps t.t).isSome
def Gz(ps:List Pr)(last:LB)(bq:List Qd)(q:Qd):Bool:=rX last q&&dh ps q&&!decide (jv ps q∈bq)
theorem RC{half:Nat}{zs:List Nat}{i:Nat}(hi:i<half)(hz:zs.length<=half):(qR half zs).getD i 0=if h:i<zs.length then(zs[i]:Int)else-1:=by
 unfold qR;rw[zi];by_cases h:i<zs.length
 rw[yx h,zu (by rw[zj];exact h),z7,z1 h];rfl;rw[yP h,zz (by rw[zj];omega),zj,xk,z8 (by omega)];rfl
section
variable {a b:List Qd}{zs:List Nat}(hAB:(Z0 b).length=(Z0 a).length)(hz:zs.length<=(Z0 a).length)
include hz in
theorem E2{q:Qd}(hq:q∈a){t:Tm}(ht:t∈Zv q):(decide (wm (wq 0 (Z0 a)) t<0)||decide (0<=(qR (Z0 a).length zs).getD (wm (wq 0 (Z0 a)) t).toNat 0))=(!decide (t.k=2)||(uW (uG (Z0 a) (Z0 b) zs) t.t).isSome):=by
 have hnd:(Z0 a).Nodup:=Yb kr (J7 kr _);unfold wm;by_cases hk:t.k=2
 .have hm:=YB hq ht hk;have hi:=zy hm;rw[z8 hk,rW hm,show(0+(((Z0 a).idxOf t.t:Nat):Int)).toNat=(Z0 a).idxOf t.t by omega,RC hi hz];simp only[hk,decide_true,xP,xQ];rw[yp (by omega),xQ];split
  .rename_i h;have:=iE (B:=Z0 b) hnd h hi;rw[zV hi]at this;rw[this];simp
  .rename_i h;rw[E1];simp
   .intro i hil bS e;rw[<-e,hnd.idxOf_getElem i hil]at h;omega
 rw[z6 hk];simp[hk]
include hz in
theorem Zgn{q:Qd}(hq:q∈a):lG (qR (Z0 a).length zs) (gP (wq 0 (Z0 a)) q)=dh (uG (Z0 a) (Z0 b) zs) q:=by
 unfold lG dh av gP Zv;simp only[List.all_cons,List.all_nil];rw[E2 (b:=b) hz hq (t:=q.s) (by simp[Zv]),E2 (b:=b) hz hq (t:=q.p) (by simp[Zv]),E2 (b:=b) hz hq (t:=q.o) (by simp[Zv]),E2 (b:=b) hz hq (t:=q.g) (by simp[Zv])]
include hz in
theorem E3{q:Qd}(hq:q∈a){t:Tm}(ht:t∈Zv q)(hw:t.k=2->(uW (uG (Z0 a) (Z0 b) zs) t.t).isSome=true):de (Z0 a++Z0 b) (Z0 a).length (qR (Z0 a).length zs) t (wm (wq 0 (Z0 a)) t)=qG (uG (Z0 a) (Z0 b) zs) t:=by
 have hnd:(Z0 a).Nodup:=Yb kr (J7 kr _);unfold de qG wm;by_cases hk:t.k=2
 .have hm:=YB hq ht hk;have hi:=zy hm;rw[z8 hk,z8 hk,rW hm,z6 (by omega),show(0+(((Z0 a).idxOf t.t:Nat):Int)).toNat=(Z0 a).idxOf t.t by omega,RC hi hz];split
  .rename_i h;have:=iE (B:=Z0 b) hnd h hi;rw[zV hi]at this;rw[this,Option.getD_some];congr 1;rw[show(((Z0 a).length:Int)+(zs[(Z0 a).idxOf t.t]:Nat)).toNat=(Z0 a).length+zs[(Z0 a).idxOf t.t]by omega];rw[zi,zz (by omega),vQ,<-zi]
  .rename_i h;have:=hw hk;rw[E1]at this;simp at this
   .intro i hil bS e;rw[<-e,hnd.idxOf_getElem i hil]at h;omega
 rw[z6 hk,z8 (by omega),z6 hk]
include hz in
theorem Zkn{q:Qd}(hq:q∈a)(hw:dh (uG (Z0 a) (Z0 b) zs) q=true):ew (Z0 a++Z0 b) (Z0 a).length (qR (Z0 a).length zs) (gP (wq 0 (Z0 a)) q)=jv (uG (Z0 a) (Z0 b) zs) q:=by
 unfold dh at hw;rw[zN]at hw;have h:∀t∈Zv q,t.k=2->(uW (uG (Z0 a) (Z0 b) zs) t.t).isSome=true:=fun t ht hk=>by simpa[hk]using hw t ht
 unfold ew jv gP;simp only;rw[E3 (b:=b) hz hq (t:=q.s) (by simp[Zv]) (h _ (by simp[Zv])),E3 (b:=b) hz hq (t:=q.p) (by simp[Zv]) (h _ (by simp[Zv])),E3 (b:=b) hz hq (t:=q.o) (by simp[Zv]) (h _ (by simp[Zv])),E3 (b:=b) hz hq (t:=q.g) (by simp[Zv]) (h _ (by simp[Zv]))]
theorem Zlc{q:Qd}(hq:q∈a){x:Nat}(hx:x< (Z0 a).length):decide ((x:Int)∈wE (wq 0 (Z0 a)) q)=rX (Z0 a)[x] q:=by
 have hnd:(Z0 a).Nodup:=Yb kr (J7 kr _);unfold rX;rw[yh,yt,jJ,xG];constructor
 .rintro⟨t,ht,hk,he⟩;have hm:=YB hq ht hk;have hi:=zy hm;rw[rW hm]at he;have hx':(Z0 a).idxOf t.t=x:=by omega
  subst hx';exact⟨t,ht,by simp[hk,zV hi]⟩
 .rintro⟨t,ht,he⟩;simp only[zk,yN]at he;refine⟨t,ht,he.1,?_⟩;rw[he.2,rW (zq hx),hnd.idxOf_getElem x hx];omega
include hz in
theorem RD{x:Nat}(hx:zs.length=x+1):jt (Z0 a++Z0 b) (Z0 a).length b (wB a b) zs=!(a.any (Gz (uG (Z0 a) (Z0 b) zs) ((Z0 a)[x]'(by omega)) b)):=by
 have hxl:x< (Z0 a).length:=by omega
 unfold jt;rw[hx,Nat.add_sub_cancel,E0 hxl];unfold mC;rw[List.all_map,List.all_filter,List.not_any_eq_all_not]
 have key:∀q∈a,(!decide ((x:Int)∈wE (wq 0 (Z0 a)) q)||((fun s=>!lG (qR (Z0 a).length zs) s||decide (ew (Z0 a++Z0 b) (Z0 a).length (qR (Z0 a).length zs) s∈b))∘gP (wq 0 (Z0 a))) q)=!Gz (uG (Z0 a) (Z0 b) zs) (Z0 a)[x] b q:=by
  intro q hq;unfold Gz;rw[Zlc hq hxl,Function.comp_apply,Zgn (b:=b) hz hq];cases hw:dh (uG (Z0 a) (Z0 b) zs) q with
  |false=>simp
  |true=>rw[Zkn hz hq hw];cases rX (Z0 a)[x] q<;>simp
 rw[yh,zN,zN];exact⟨fun h q hq=>by rw[<-key q hq];exact h q hq,fun h q hq=>by rw[key q hq];exact h q hq⟩
end
theorem E4{x:Tm}(h:uF x=0):jN 1048576 x:=by
 have h1:=ZdE h;have h2:=Zbf h;unfold jN eu;omega
theorem Zld{q:Qd}(h:XB q=0):jN 1048576 q.s/\jN 1048576 q.p/\jN 1048576 q.o/\jN 1048576 q.g:=by
 obtain⟨h1,h2,h3,h4,_⟩:=Z8R h;refine⟨E4 h1,E4 h2,E4 h3,?_⟩;rcases h4 with e|e
 rw[e];unfold jN eu ZF;decide;exact E4 e
structure j4(l:List Qd):Prop where
 cc:jr ZJ l
 few:l.length<=1048576
 ck:∀q∈l,XB q=0
theorem BR{l:List Qd}(h:(Yr l).2=0):j4 l:=⟨(W0 h).1,(W0 h).2,Z7x h⟩
theorem Vg{l:List Qd}(h:j4 l):(Z0 l).length<=4194304:=by
 have Qr:(Z0 l).length<=l.length*4:=zK (Cq _) (Hj _ WI _);have:=h.few;omega
theorem RE{a b:List Qd}{x:Nat}(hx:(Z0 a).length<=x)(hx2:x< (wB a b).length):(wB a b)[x]=(b.filter fun q=>decide ((x:Int)∈wE (wq (Z0 a).length (Z0 b)) q)).map (gP (wq (Z0 a).length (Z0 b))):=by
 have hl:=U1 a b;have h1:x< (Vf a++List.replicate (Z0 b).length []).length:=by rw[ze,J4,zT];omega
 have e1:=Uy (f:=wq (Z0 a).length (Z0 b)) (l:=b) h1 hx2 fun q hq n hn=>by have:=iD (c:=(Z0 a).length) (by omega) b q hq n hn;omega
 refine e1.trans ?_;rw[vH (by rw[J4];exact hx),xw,List.nil_append]
theorem RF{c:Int}(hc:0<=c){l:List Qd}{q:Qd}(hq:q∈l){t:Tm}(ht:t∈Zv q): -1<=wm (wq c (Z0 l)) t/\wm (wq c (Z0 l)) t<c+((Z0 l).length:Int):=by
 unfold wm;split
 .rename_i hk;have hm:=YB hq ht hk;have:=zy hm;rw[rW hm];omega
 omega
theorem RG{c:Int}(hc:0<=c){l:List Qd}(h:j4 l){n:Nat}(hn:c+((Z0 l).length:Int)<=n){q:Qd}(hq:q∈l):nK 1048576 n (gP (wq c (Z0 l)) q):=by
 obtain⟨t1,t2,t3,t4⟩:=Zld (h.ck q hq);have k:∀t∈Zv q,-1<=wm (wq c (Z0 l)) t/\wm (wq c (Z0 l)) t< (n:Int):=fun t ht=>by have:=RF hc hq ht;omega
 exact⟨t1,t2,t3,t4,k _ (by simp[Zv]),k _ (by simp[Zv]),k _ (by simp[Zv]),k _ (by simp[Zv])⟩
theorem GC{a b:List Qd}(ha:j4 a)(hb:j4 b):nM (List.replicate ((Z0 a).length+(Z0 b).length) 0) (wB a b):=by
 have hl:=U1 a b;have h1:=Vg ha;have h2:=Vg hb
 have hg:∀m∈wB a b,(∃p,m=(a.filter p).map (gP (wq 0 (Z0 a))))\/∃p,m=(b.filter p).map (gP (wq (Z0 a).length (Z0 b))):=by
  intro m hm;obtain⟨x,hx,rfl⟩:=yg.1 hm;by_cases hlo:x< (Z0 a).length
  .have:=E0 (a:=a) (b:=b) hlo;rw[zi,z1 hx,Option.getD_some]at this;exact .inl ⟨_,this⟩
  exact .inr ⟨_,RE (by omega) hx⟩
 refine⟨by rw[hl,zT],fun c hc=>by rw[xE hc];omega,fun m hm s hs=>?_,fun m hm=>?_,by rw[zT];omega⟩
 .rw[zT];rcases hg m hm with⟨p,rfl⟩|⟨p,rfl⟩
  .obtain⟨q,hq,rfl⟩:=zM.1 hs;exact RG (by omega) ha (by omega) (yY.1 hq).1
  .obtain⟨q,hq,rfl⟩:=zM.1 hs;exact RG (by omega) hb (by omega) (yY.1 hq).1
 .rcases hg m hm with⟨p,rfl⟩|⟨p,rfl⟩
  rw[zj];exact zK (zK (yK _ _) ha.few) (by omega);rw[zj];exact zK (zK (yK _ _) hb.few) (by omega)
def qw(l:List Qd):List Qd:=l.filter fun q=>(Zv q).all fun t=>!decide (t.k=2)
theorem RH(f:LB->Int)(l:List Qd):Ve f l=qw l:=by
 unfold Ve qw;congr 1;funext q;rw[yh,yt,zN];constructor
 .intro h t ht;refine yu fun hk=>?_;have hk:t.k=2:=by simpa using hk
  have:f t.t∈wE f q:=jJ.2 ⟨t,ht,hk,rfl⟩;rw[h]at this;cases this
 .intro h;refine vn.2 fun n hn=>?_;obtain⟨t,ht,hk,_⟩:=jJ.1 hn;have:=h t ht;simp[hk]at this
def Qs(F:List Int)(n:Nat):Prop:=∀k:Int,(F.take n).count k=(F.drop n).count k
def jG(uf:Int):Nat:=(max 0 (min uf 65536)).toNat
def E5(a b:List Qd):Prop:=a.length=b.length/\(Z0 a).length=(Z0 b).length/\qw a=qw b
open Classical in
noncomputable def iF (a b:List Qd)(F:List Int)(uf:Int):List Pr×Int:=
 if Qs F (Z0 a).length then
  match XP (Z0 a).length (cQ F (Z0 a).length) (jt (Z0 a++Z0 b) (Z0 a).length b (wB a b)) (Z0 a).length [] (jG uf)with
  | .found zs _=>(uG (Z0 a) (Z0 b) zs,0)
  | .none _=>([],140)
  | .over=>([],4)
 else([],140)
def GD(n:Nat):Int:=if(n:Int)<1 then(n:Int)else 1
def kC(a b:List Qd)(uf:Int)(ps:List Pr)(e:Int):Prop:=
 (Jf a b≠0/\ps=[]/\e=Jf a b)\/
 (Jf a b=0/\¬E5 a b/\ps=[]/\e=140)\/
 (Jf a b=0/\E5 a b/\∃F c,wR (wB a b) (List.replicate ((Z0 a).length+(Z0 b).length) 0) (GD ((Z0 a).length+(Z0 b).length)) F c/\(ps,e)=iF a b F uf)
theorem kC.HU{a b:List Qd}{uf:Int}{ps ps':List Pr}{e e':Int}(h:kC a b uf ps e)(h':kC a b uf ps' e'):ps'=ps/\e'=e:=by
 rcases h with⟨h1,rfl,rfl⟩|⟨h1,hn,rfl,rfl⟩|⟨h1,hs1,F,c,hs,he⟩
 .rcases h' with⟨_,rfl,rfl⟩|⟨h2,_⟩|⟨h2,_⟩
  exact⟨rfl,rfl⟩;exact(h1 h2).elim;exact(h1 h2).elim
 .rcases h' with⟨h2,_⟩|⟨_,_,rfl,rfl⟩|⟨_,h2,_⟩
  exact(h2 h1).elim;exact⟨rfl,rfl⟩;exact(hn h2).elim
 .rcases h' with⟨h2,_⟩|⟨_,h2,_⟩|⟨_,_,F',c',hs',he'⟩
  exact(h2 h1).elim;exact(h2 hs1).elim
  .obtain⟨rfl,rfl⟩:=hs.HU hs';rw[<-he]at he';injection he' with h3 h4;exact⟨h3,h4⟩
theorem Vv{a b:List Qd}(h:Jf a b=0):j4 a/\j4 b:=by
 unfold Jf at h;split at h
 rename_i h1;exact(h1 h).elim
 .rename_i h1;exact⟨BR (by simpa using h1),BR h⟩
def bE(F:List Int)(n x k:Nat):Int:=(((F.take x).take n).count (k:Int):Int)-(((F.take x).drop n).count (k:Int):Int)
def cu(F:List Int)(n c x:Nat):List Int:=(List.range c).map (bE F n x)
theorem RI(F:List Int)(n c x:Nat):(cu F n c x).length=c:=by simp[cu]
theorem Zgq(F:List Int)(n c:Nat):cu F n c 0=List.replicate c 0:=by
 unfold cu bE;rw[vB];simp
theorem RJ{F:List Int}{n x:Nat}(k:Nat)(h:x<F.length):bE F n (x+1) k=bE F n x k+(if F[x]=(k:Int)then(if x<n then 1 else-1)else 0):=by
 have hl:(F.take x).length=x:=by rw[zA];omega
 unfold bE;rw[zB h,List.take_append,List.drop_append,hl,List.count_append,List.count_append];by_cases hx:x<n
 .rw[z8 hx,show n-x=(n-x-1)+1 by omega,List.take_succ_cons,List.take_nil,vE,List.drop_nil,List.count_cons,List.count_nil];by_cases e:F[x]=(k:Int)
  simp[e];omega;simp[e]
 .rw[z6 hx,show n-x=0 by omega,List.take_zero,xA,List.count_nil,List.count_cons,List.count_nil];by_cases e:F[x]=(k:Int)
  simp[e];omega;simp[e]
theorem RK{F:List Int}{n c x:Nat}(h:x<F.length)(hf:0<=F[x]/\F[x]< (c:Int)){v:Int}(hv:v=bE F n x F[x].toNat+(if x<n then 1 else-1)):(cu F n c x).set F[x].toNat v=cu F n c (x+1):=by
 apply yj;intro i;rw[xl];unfold cu;simp only[zj,yw,z7];by_cases hi:F[x].toNat=i
 .subst hi;rw[z8 rfl,z8 (by omega),yz (by omega),Option.map_some,RJ _ h,z8 (by omega),hv]
 .rw[z6 hi];by_cases hic:i<c
  rw[yz hic,Option.map_some,Option.map_some,RJ _ h,z6 (by omega),Int.add_zero];rw[yd (by simp;omega)];rfl
theorem Zkp{F:List Int}{n c x k:Nat}(h:k<c):(cu F n c x)[k]?=some (bE F n x k):=by unfold cu;rw[z7,yz h];rfl
theorem Zgr(F:List Int)(n x k:Nat): -(F.length:Int)<=bE F n x k/\bE F n x k<=F.length:=by
 have h1:((F.take x).take n).count (k:Int)<=F.length:=zK List.count_le_length (by simp;omega);have h2:((F.take x).drop n).count (k:Int)<=F.length:=zK List.count_le_length (by simp;omega);unfold bE;omega
theorem Zgs{F:List Int}{n c:Nat}(hf:∀x∈F,0<=x/\x< (c:Int)):(∀d∈cu F n c F.length,d=0)<->Qs F n:=by
 unfold cu;constructor
 .intro h k;by_cases hk:0<=k/\k< (c:Int)
  .have:=h (bE F n F.length k.toNat) (zM.2 ⟨k.toNat,zY.2 (by omega),rfl⟩);unfold bE at this;rw[yb,show((k.toNat:Nat):Int)=k by omega]at this;omega
  rw[List.count_eq_zero_of_not_mem fun hm=>hk (hf k (List.mem_of_mem_take hm)),List.count_eq_zero_of_not_mem fun hm=>hk (hf k (vC hm))]
 .intro h d hd;obtain⟨k,_,rfl⟩:=zM.1 hd;unfold bE;rw[yb,h k];omega
open _root_.Go.Proofs.Tryz
theorem ZbD(n:Int):vW prog uv 100 0 [.int .i64 n] [] [] (wF (.bool (decide (n≠0)))):=by
 refine vW.enter Z3 call100 func100 rfl 5 rfl rfl [.tmp 2] rfl ?_;intro w0 F η0 h0;conv=>whnf
 repeat'(first|refine AU ?_|refine IW ?_ ?_<;>intro h<;>try omega)<;>conv=>whnf
 exact u9.value h0 rfl (zf SV.bool (by by_cases h:n=0<;>simp[h]))
theorem Z94(l:List Int)(hl:l.length<=67108864):vW prog uv 134 1 [.sl (.loc 0) 0 1 l.length none, .fn (.func 100) [] []] [] [(0, .rows 1 (l.map Z8))] (fun r O nx=>O=[]/\nx=1/\∃k:Int,r= .int .i64 k/\(0<=k<->∃d∈l,d≠0)):=by
 refine vW.enter Z3 call134 func134 rfl 19 rfl rfl [.tmp 4] rfl ?_;intro w0 F η0 h0;conv=>whnf
 repeat'(first|refine AU ?_|refine IW ?_ ?_<;>intro h<;>try omega)<;>conv=>whnf
 refine ua.go Z3 [0,1,7] (X:=Nat) (fun c=>c<=l.length/\∀d∈l.take c,d=0) (fun c=>[(8, .int .i64 (c:Int))]) (fun c=>[]) 1 (fun c=>l.length-c) 0 ⟨by omega,by simp⟩ ?_;conv=>whnf
 refine⟨by exact vY.cA h0,?_⟩;rintro c ⟨hc,hn⟩;conv=>whnf
 refine IF.mk (fun h=>?_) (fun h=>?_)
 .have hlt:c<l.length:=by simp at h;omega
  conv=>whnf
  repeat'(first|refine CALL.value (ZbD _) rfl rfl ?_|refine GET.at (row:=Z8 l[c]) (by rw[Int.toNat_natCast,zw];exact V6 hlt) ?_|refine AU ?_|refine IW ?_ ?_<;>intro h<;>try omega)<;>conv=>whnf
  .have hne:l[c]≠0:=by simpa using h
   exact u9.val h0 rfl ⟨rfl,rfl,_,rfl,⟨fun _=>⟨_,zq hlt,hne⟩,fun _=>by omega⟩⟩
  .have hez:l[c]=0:=by simpa using h
   refine⟨c+1,⟨by omega,fun d hd=>?_⟩,by omega,?_⟩
   .rw[zB hlt]at hd;rcases zX.1 hd with hd|hd
    exact hn d hd;rw[zJ.1 hd];exact hez
   conv=>whnf
   exact vY.cA h0
 .have h:c=l.length:=by simp at h;omega
  subst h;rw[yb]at hn;repeat'(first|refine AU ?_|refine IW ?_ ?_<;>intro h<;>try omega)<;>conv=>whnf
  exact u9.val h0 rfl ⟨rfl,rfl,_,rfl,⟨fun h=>by omega,fun⟨d,hd,hne⟩=>(hne (hn d hd)).elim⟩⟩
theorem Zeg(l:List Int)(hl:l.length<=67108864):vW prog uv 99 1 [.sl (.loc 0) 0 1 l.length none, .fn (.func 100) [] []] [] [(0, .rows 1 (l.map Z8))] (fun r O nx=>O=[]/\nx=1/\∃b,r= .bool b/\(b=true<->∃d∈l,d≠0)):=by
 have bU:=Z94 l hl;refine vW.enter Z3 call99 func99 rfl 9 rfl rfl [.tmp 4] rfl ?_;intro w0 F η0 h0;conv=>whnf
 repeat'(first|refine AU ?_|refine IW ?_ ?_<;>intro h<;>try omega)<;>conv=>whnf
 refine CALL.aA [0] (bU) ?_;rintro r O nx ⟨rfl,rfl,k,rfl,hk⟩;conv=>whnf
 repeat'(first|refine AU ?_|refine IW ?_ ?_<;>intro h<;>try omega)<;>conv=>whnf
 exact u9.val h0 rfl ⟨rfl,rfl,_,rfl,by simp only[yN];exact hk⟩
theorem Zeh(C:List Int)(half nl ni ng c:Nat)(hF:C.length=2*half)(hf:∀x∈C,0<=x/\x< (c:Int))(hl:C.length<=67108864)(hc:c<=67108864):
 vW prog uv 58 5 [.ptr (.loc 0) 0 0 0] [] [(0,lD 2 nl C.length ni ng c),(2, .rows 1 (C.map Z8))] (fun r O nx=>O=[]/\nx=5/\∃b,r= .bool b/\(b=true<->Qs C half)):=by
 refine vW.enter Z3 call58 func58 rfl 45 rfl rfl [.tmp 2] rfl ?_;intro w0 F η0 h0;conv=>whnf
 repeat'(first|refine ud.mk (Ux 8 rfl (by omega) (by omega) (by omega) (by omega)) ?_|refine AU ?_|refine IW ?_ ?_<;>intro h<;>try omega)<;>conv=>whnf
 have hq:IntKind.i64.wrap ((C.length:Int).tdiv 2)=(half:Int):=by rw[hF,Int.tdiv_eq_ediv_of_nonneg (by omega),Z4 (by omega) (by omega)];omega
 rw[show List.replicate (c:Int).toNat [SV.int .i64 0]=(cu C half c 0).map Z8 by rw[Zgq,x7];rfl];refine ua.j5 Z3 [0,3,14,15] [] (X:=Nat) (fun x=>x<=C.length) (fun x=>[(16, .int .i64 (x:Int))]) (fun x=>[(5, .rows 1 ((cu C half c x).map Z8))]) 6 (fun x=>C.length-x) 0 (by omega) ?_;conv=>whnf
 refine⟨by exact vY.cA h0,?_⟩;intro x hx;conv=>whnf
 refine IF.mk (fun h=>?_) (fun h=>?_)
 .have hlt:x<C.length:=by simp at h;omega
  have RQ:=hf _ (zq hlt);have hgC:=V6 hlt;have hgd:((cu C half c x).map Z8)[C[x].toNat]?=some (Z8 (bE C half x C[x].toNat)):=by rw[z7,Zkp (by omega)];rfl
  have hdb:=Zgr C half x C[x].toNat;conv=>whnf
  repeat'(first|refine GET.at (row:=Z8 C[x]) (by rw[Int.toNat_natCast,zw];exact hgC) ?_|refine GET.at (row:=Z8 (bE C half x C[x].toNat)) (by rw[zw];exact hgd) ?_|refine AU ?_|refine IW ?_ ?_<;>intro h<;>try omega)<;>conv=>whnf
  all_goals rw[hq]at h
  .have hst:((cu C half c x).map Z8).set (0+C[x].toNat) [SV.int .i64 (IntKind.i64.wrap (bE C half x C[x].toNat+1))]=(cu C half c (x+1)).map Z8:=by rw[Vu (x:=C[x].toNat) (by omega),RK hlt RQ (by rw[z8 (by omega),Z4 (by omega) (by omega)])]
   rw[hst];refine⟨x+1,by omega,by omega,?_⟩;conv=>whnf
   exact vY.cA h0
  .have hst:((cu C half c x).map Z8).set (0+C[x].toNat) [SV.int .i64 (IntKind.i64.wrap (bE C half x C[x].toNat-1))]=(cu C half c (x+1)).map Z8:=by rw[Vu (x:=C[x].toNat) (by omega),RK hlt RQ (by rw[z6 (by omega),Z4 (by omega) (by omega)];omega)]
   rw[hst];refine⟨x+1,by omega,by omega,?_⟩;conv=>whnf
   exact vY.cA h0
 .have mm:x=C.length:=by simp at h;omega
  subst mm;have pT:=Zeg (cu C half c C.length) (by rw[RI];omega);rw[RI]at pT;conv=>whnf
  repeat'(first|refine AU ?_|refine IW ?_ ?_<;>intro h<;>try omega)<;>conv=>whnf
  refine CALL.aA [5] (pT) ?_;rintro r O nx ⟨rfl,rfl,b,rfl,hb⟩;conv=>whnf
  repeat'(first|refine AU ?_|refine IW ?_ ?_<;>intro h<;>try omega)<;>conv=>whnf
  refine u9.val h0 rfl ⟨rfl,rfl,_,rfl,?_⟩;rw[<-Zgs hf];constructor
  .intro h1 d hd;refine yu fun hne=>?_;rw[hb.2 ⟨d,hd,hne⟩]at h1;cases h1
  .intro h1;cases b with
   |false=>rfl
   |true=>obtain⟨d,hd,hne⟩:=hb.1 rfl;exact(hne (h1 d hd)).elim
def eQ(f t:LB):Qd:=⟨⟨2,f,[],[]⟩,⟨1,[112,58],[],[]⟩,⟨2,t,[],[]⟩,ZF⟩
abbrev wA:List Qd:=[eQ [97] [98]]
abbrev wX:List Qd:=[eQ [120] [121]]
abbrev wL:List Qd:=[eQ [97] [98],eQ [98] [97]]
abbrev wY:List Qd:=[eQ [120] [120],eQ [121] [121]]
abbrev wC:List Qd:=[eQ [97] [98],eQ [98] [99]]
theorem Ay{l:List Qd}(h1:(l.zip l.tail).all (fun x=>decide (ZJ x.1 x.2<0))=true)(h2:(l.all fun q=>decide (XB q=0))=true)(h3:l.length<=1048576):(Yr l).2=0:=by
 rw[zN]at h2;have hr:=ZdF l h1;have hc:∀q∈l,XB q=0:=fun q hq=>by simpa using h2 q hq
 have b1:∀(n i:Nat),l.length-i<=n->gl l i=none:=by
  intro n
  induction n with
  |zero=>intro i hi;exact Qi (by omega)
  |succ n ih=>
   intro i hi;by_cases hl:i<l.length
   .rw[G7 hl,z6 (by rw[hc _ (zq hl)];simp)];exact ih _ (by omega)
   exact Qi (by omega)
 have b2:∀(n i:Nat),l.length-i<=n->1<=i->oB l i=none:=by
  intro n
  induction n with
  |zero=>intro i hi _;exact G8 (by omega)
  |succ n ih=>
   intro i hi h1;by_cases hl:i<l.length
   .have:=Mv hr (i:=i-1) (j:=i) (by omega) hl;rw[Hv hl,z6 (by omega)];exact ih _ (by omega) (by omega)
   exact G8 (by omega)
 unfold Yr;rw[z6 (by omega),b1 _ 0 (zn _),b2 _ 1 (zn _) (zn _)]
theorem w_l{l:List Qd}{m:List LB}(h1:m.Pairwise fun a b=>cmpL a b<0)(h2:(ZR l).all (fun x=>decide (x∈m))=true)(h3:m.all (fun x=>decide (x∈ZR l))=true):Z0 l=m:=by
 refine(Cp kr h1 fun x=>⟨fun h=>?_,fun h=>?_⟩).symm;rw[zN]at h3;simpa using h3 x h;rw[zN]at h2;simpa using h2 x h
def Az:Out->Nat×List Nat
 | .found zs _=>(0,zs)
 | .none _=>(1,[])
 | .over=>(2,[])
open _root_.Go.Proofs.Tryz
def EL(l:List Qd):List DC:=[.uC 16 (l.map Zd)]
def gD(gs:List (List Qd)):List (List DC):=gs.map EL
theorem TL:∀gs:List (List Qd),ZD (gD gs)=true
 | []=>rfl
 |l::gs=>by simp only[gD,zL,EL,ZD,Yi,Jl,Za,zS,xF];exact TL gs
instance {gs:List (List Qd)}:bQ (gD gs):=⟨TL gs⟩
theorem ZkH(gs:List (List Qd))(l:List Qd):gD gs++ [EL l]=gD (gs++ [l]):=by simp[gD]
theorem Z9k{a:List Qd}(ha:j4 a):∀m∈Vf a,m.length<=1048576:=by
 intro m hm;obtain⟨x,hx,rfl⟩:=yg.1 hm;have hx2:x< (List.replicate (Z0 a).length ([]:List Sd)).length:=by rw[zT,<-J4];exact hx
 have e:=Uy (f:=wq 0 (Z0 a)) (l:=a) hx2 hx fun q hq n hn=>(iD (c:=0) (by omega) a q hq n hn).1;rw[show(Vf a)[x]=_ from e,xw,List.nil_append,zj];exact zK (yK _ _) ha.few
def F5(k:Nat)(uy:List LB)(cls:List Int)(ins:List (List Sd))(gs:List (List Qd))(count:Int):u0:=
 [(k, .box [.sl (.loc (k+1)) 0 1 uy.length none, .sl (.loc (k+2)) 0 1 cls.length none, .sl (.loc (k+3)) 0 1 ins.length none, .sl (.loc (k+4)) 0 1 gs.length none, .int .i64 count]),(k+1, .rows 1 (uy.map Z9)),(k+2, .rows 1 (cls.map Z8)),(k+3, .deep false 1 (kV ins)),(k+4, .deep false 1 (gD gs))]
theorem TM(gs:List (List Qd)){n:Nat}{k:Nat}{T:qg}{e:TypeId}(hT:gq T e (.sl (.loc k) 0 16 n none)= .v (.sl (.loc k) 0 16 n none)):(gD gs).take gs.length++List.map (fun row=>row.map (gq T e)) (List.take 1 (List.drop 0 [[.sl (.loc k) 0 16 n none]]))=gD gs++ [[.v (.sl (.loc k) 0 16 n none)]]:=by
 rw[zo (by simp[gD])];simp only[zL,yX,xA,List.take_succ_cons,List.take_zero,hT]
theorem iW(gs:List (List Qd)){sv:SV}:(gD gs++ [[DC.v sv]])[gs.length]?=some [.v sv]:=by
 rw[zz (by simp[gD])];simp[gD]
theorem TN(gs:List (List Qd)){l:List Qd}{sv:SV}:uw (gD gs++ [[DC.v sv]]) gs.length 0 (.uC 16 ((l.map Zd).take l.length))=gD (gs++ [l]):=by
 rw[zo (by rw[zj];exact zn _)];apply yj;intro i;rw[Y1,<-ZkH];by_cases h:i=gs.length
 .subst h;rw[z8 rfl,iW,zz (by simp[gD])];simp[gD,EL]
 .rw[z6 h,List.getElem?_append,List.getElem?_append];have hl:(gD gs).length=gs.length:=by simp[gD]
  by_cases h2:i< (gD gs).length
  rw[z8 h2,z8 h2];rw[z6 h2,z6 h2,yd (by simp;omega),yd (by simp;omega)]
theorem Zc0(a za b zb:List Qd)(F6 F7:Option Nat)(ha:j4 a)(hb:j4 b)(QF:(a++za).length<=1152921504606846976)(QG:(b++zb).length<=1152921504606846976):
 vW prog uv 56 3 [.sl (.loc 0) 0 1 2 none] [] [(0, .rows 1 [[.sl (.loc 1) 0 16 a.length F6],[.sl (.loc 2) 0 16 b.length F7]]),(1, .rows 16 ((a++za).map Zd)),(2, .rows 16 ((b++zb).map Zd))]
 (fun r O nx=>r= .ptr (.loc 3) 0 0 0/\O=F5 3 (Z0 a++Z0 b) (List.replicate ((Z0 a).length+(Z0 b).length) 0) (wB a b) [qw a,qw b] (GD ((Z0 a).length+(Z0 b).length))/\nx=8):=by
 have EH:=ha.few;have bP:=hb.few;refine vW.enter Z3 call56 func56 rfl 106 rfl rfl [.tmp 2] rfl ?_;intro w0 F η0 h0;conv=>whnf
 repeat'(first|refine AU ?_|refine IW ?_ ?_<;>intro h<;>try omega)<;>conv=>whnf
 refine ua.w9 3 0 1 rfl rfl (ua.w9 3 2 1 rfl rfl (ua.w9 3 3 1 rfl rfl (uZ.loop (uZ.cg 5 [] rfl ⟨rfl,fun a r h=>by simp at h⟩) (uZ.loop (uZ.cg 6 [] rfl ⟨rfl,fun a r h=>by simp at h⟩) ?_))));obtain⟨LS,mF⟩:∃LS:Nat->List LB,LS=fun i=>if i=0 then []else if i=1 then Z0 a else Z0 a++Z0 b:=⟨_,rfl⟩
 obtain⟨IS,mG⟩:∃IS:Nat->List (List Sd),IS=fun i=>if i=0 then []else if i=1 then Vf a else wB a b:=⟨_,rfl⟩
 obtain⟨GS,sr⟩:∃GS:Nat->List (List Qd),GS=fun i=>if i=0 then []else if i=1 then [qw a]else [qw a,qw b]:=⟨_,rfl⟩
 refine ua.j5 Z3 [3,15,16] [] (X:=Nat) (fun i=>i<=2) (fun i=>[(17, .int .i64 (i:Int))])
  (fun i=>[(3, .box [.sl (.loc 4) 0 1 (LS i).length none, .val (.slice none 0 0), .sl (.loc 5) 0 1 (IS i).length none, .sl (.loc 6) 0 1 (GS i).length none, .int .i64 0]),(4, .rows 1 ((LS i).map Z9)),(5, .deep false 1 (kV (IS i))),(6, .deep false 1 (gD (GS i)))]) 7 (fun i=>2-i) 0 (by omega) ?_
 conv=>whnf
 refine⟨by subst mF mG sr;exact vY.cA h0,?_⟩;intro i hi;conv=>whnf
 refine IF.mk (fun h=>?_) (fun h=>?_)
 .have h:i<2:=by simp at h;omega
  rcases(by omega:i=0\/i=1)with rfl|rfl
  .as_aux_lemma=>
   obtain⟨L0,dn⟩:∃L0,L0=LS 0:=⟨_,rfl⟩;obtain⟨I0,hI0⟩:∃I0,I0=IS 0:=⟨_,rfl⟩;obtain⟨G0,lV⟩:∃G0,G0=GS 0:=⟨_,rfl⟩;rw[<-dn,<-hI0,<-lV];conv=>whnf
   repeat'(first|refine GET.at rfl ?_|refine AU ?_|refine IW ?_ ?_<;>intro h<;>try omega)<;>conv=>whnf
   have lS:LS 1=L0++Z0 a:=by rw[dn,mF];rfl
   have lK:IS 1=a.foldl (kL (wq (L0.length:Int) (Z0 a))) (I0++List.replicate (Z0 a).length []):=by rw[hI0,mG,dn,mF];rfl
   have AE:GS 1=G0++ [qw a]:=by rw[lV,sr];rfl
   have F8:I0.length=L0.length:=by rw[hI0,mG,dn,mF];rfl
   have AF:∀m∈I0,m.length<=1048576:=by rw[hI0,mG];intro m hm;cases hm
   have hLb:L0.length<=4194304:=by rw[dn,mF];simp
   have hGl:G0.length<=1:=by rw[lV,sr];simp
   clear dn hI0 lV mF mG sr;have nN:=ha.few;have jR:=VW a za F6 (by unfold VU;omega) QF;have hnd:(Z0 a).Nodup:=Yb kr (J7 kr _);have Qr:=Vg ha;have iC:=iD (c:=(L0.length:Int)) (by omega) a;have qo:wQ cmpL (ZR a)=Z0 a:=rfl;have hge:=RH (wq (L0.length:Int) (Z0 a)) a;refine CALL.aA [1] (jR) ?_;rintro r O nx ⟨jj,hjj,rfl,rfl,rfl⟩;have gh:Zk [1] (7+1) 1=8:=rfl;simp only[qF,uo,uD,kj,ZO _ (Zt _),List.cons_append,List.nil_append,gh];rw[qo]at hjj⊢;generalize Z0 a=A at hnd hjj Qr iC lS lK hge⊢;have hLA:(L0++A).length=L0.length+A.length:=ze;conv=>whnf
   repeat'(first|refine AU ?_|refine IW ?_ ?_<;>intro h<;>try omega)<;>conv=>whnf
   refine ua.j5 Z3 [3,5,6,7,15,16,17,28,29] [6,8] (X:=Nat) (fun i=>i<=A.length) (fun i=>[(30, .int .i64 (i:Int))])
    (fun i=>[(3, .box [.sl (.loc 4) 0 1 (L0.length+i) none, .val (.slice none 0 0), .sl (.loc 5) 0 1 (I0.length+i) none, .sl (.loc 6) 0 1 G0.length none, .int .i64 0]),(7, .mp (kz (X0 L0.length A i))),(4, .rows 1 (((L0++A).take (L0.length+i)).map Z9)),(5, .deep false 1 (kV (I0++List.replicate i [])))]) 9 (fun i=>A.length-i) 0 (by omega) ?_
   conv=>whnf
   refine⟨by simp only[Nat.add_zero,List.take_left,List.replicate_zero,zU];exact vY.cA h0,?_⟩;intro i hi;have aW:((L0++A).take (L0.length+i)).length=L0.length+i:=by rw[zA];omega
   have oJ:(I0++List.replicate i ([]:List Sd)).length=I0.length+i:=by rw[ze,zT]
   conv=>whnf
   refine IF.mk (fun h=>?_) (fun h=>?_)
   .as_aux_lemma=>
    have hlt:i<A.length:=by simp at h;omega
    have hs:=V7 (b:=(L0.length:Int)) hlt;have hw:IntKind.i64.wrap ((L0.length:Int)+(i:Int))=(L0.length:Int)+i:=Z4 (by omega) (by omega);have cr:(L0++A)[L0.length+i]'(by omega)=A[i]:=by rw[vH (by omega)];congr 1;omega
    have hap:=BA (L0++A) (i:=L0.length+i) (by omega);rw[cr]at hap;have oR:=R3 (I0++List.replicate i []) oJ.symm (T:=uv) (e:=200) rfl;rw[zR,<-List.replicate_succ']at oR;conv=>whnf
    repeat'(first|(refine GET.at (row:=Z9 A[i]) (Lz hlt (by omega)) ?_;conv=>whnf)|(refine ud.mk ⟨KT.ok _,YW KT _ _⟩ ?_;conv=>whnf)|(rw[hw];conv=>whnf)|(refine ud.mk (Ye 24 rfl rfl rfl (by rw[MA,oJ];exact zn _) (by omega)) ?_;conv=>whnf)|(refine ud.mk (Ye 16 rfl rfl rfl (by rw[zj,aW];exact zn _) (by omega)) ?_;conv=>whnf)|(refine AU ?_;conv=>whnf))
    rw[oR,hap]
    first|rw[Hz,<-hs]|rw[HA,<-hs]
    refine⟨i+1,by omega,by omega,?_⟩;conv=>whnf
    exact vY.kA h0 [3,10,12,6,7,8]
   .as_aux_lemma=>
    have hie:i=A.length:=by simp at h;omega
    subst hie;rw[zo (by omega)];conv=>whnf
    repeat'(first|refine AU ?_|refine IW ?_ ?_<;>intro h<;>try omega)<;>conv=>whnf
    refine ua.nil 10 16 rfl ?_;have nT:=Gp (b:=(L0.length:Int)) hnd;obtain⟨J,hJ⟩:∃J,J=I0++List.replicate A.length ([]:List Sd):=⟨_,rfl⟩
    have AG:∀m∈J,m.length<=1048576:=by
     rw[hJ];intro m hm;rcases zX.1 hm with h1|h1
     exact AF m h1;rw[xE h1];simp
    rw[<-hJ]at oJ lK⊢;rw[<-oJ];have hins:∀j,((a.take j).foldl (kL (wq (L0.length:Int) A)) J).length=J.length:=fun j=>Jh _ _ _
    refine ua.j5 Z3 [3,7,15,16,17,60,61] [4,6,7] (X:=Nat×List Qd) (fun x=>x.1<=a.length/\x.2=Ve (wq (L0.length:Int) A) (a.take x.1)) (fun x=>[(62, .int .i64 (x.1:Int)),(10, .sl (.loc 9) 0 16 x.2.length none)])
     (fun x=>[(3, .box [.sl (.loc 4) 0 1 (L0.length+A.length) none, .val (.slice none 0 0), .sl (.loc 5) 0 1 J.length none, .sl (.loc 6) 0 1 G0.length none, .int .i64 0]),(5, .deep false 1 (kV ((a.take x.1).foldl (kL (wq (L0.length:Int) A)) J))),(9, .rows 16 (x.2.map Zd))]) 10 (fun x=>a.length-x.1) (0,[]) ⟨by simp,rfl⟩ ?_
    conv=>whnf
    refine⟨by exact vY.cA h0,?_⟩;rintro⟨j,G⟩ ⟨hj,hG⟩;dsimp only at hj hG⊢
    have tE:G.length<=j:=by
     have:=yK (fun q=>decide (wE (wq (L0.length:Int) A) q=[])) (a.take j);rw[zA]at this;rw[hG];unfold Ve;omega
    conv=>whnf
    refine IF.mk (fun h=>?_) (fun h=>?_)
    .as_aux_lemma=>
     have hlt:j<a.length:=by simp at h;omega
     have hto:=UT (kL (wq (L0.length:Int) A)) J a hlt;have hgt:=R4 (wq (L0.length:Int) A) hlt;have hI:=hins j;have hbd:=WP (f:=wq (L0.length:Int) A) (l:=a.take j) AG;rw[zA]at hbd
     have hown:Ct J.length (wE (wq (L0.length:Int) A) a[j]):=fun n hn=>by
      have:=iC _ (zq hlt) n hn;omega
     generalize(a.take j).foldl (kL (wq (L0.length:Int) A)) J=I at hto hI hbd;rw[<-hG]at hgt;have hput:=LC a[j] (X0 L0.length A A.length) I (L0.length+A.length) G0.length J.length hI.symm (by rw[nT,hI];exact hown) (fun x hx=>by have:=hbd x hx;omega) (by omega);rw[nT]at hput;conv=>whnf
     repeat'(first|refine GET.at (row:=Zd a[j]) (BB hlt (by omega)) ?_|refine AU ?_|refine IW ?_ ?_<;>intro h<;>try omega)<;>conv=>whnf
     refine CALL.aA [3,5,7,4,6] (hput) ?_;rintro r O nx ⟨rfl,rfl,rfl⟩;conv=>whnf
     repeat'(first|refine AU ?_|refine IW ?_ ?_<;>intro h<;>try omega)<;>conv=>whnf
     .have he:wE (wq (L0.length:Int) A) a[j]=[]:=zO.1 (by omega);rw[z8 he]at hgt;rw[BD G a[j] rfl];refine⟨(j+1,G++ [a[j]]),⟨by dsimp only;omega,hgt.symm⟩,by dsimp only;omega,?_⟩;dsimp only;rw[hto];conv=>whnf
      exact vY.kA h0 [3,4,5,6,7,8,12]
     .have he:¬wE (wq (L0.length:Int) A) a[j]=[]:=fun e=>by rw[e]at h;simp at h
      rw[z6 he]at hgt;refine⟨(j+1,G),⟨by dsimp only;omega,hgt.symm⟩,by dsimp only;omega,?_⟩;dsimp only;rw[hto];conv=>whnf
      exact vY.cA h0
    .as_aux_lemma=>
     have oy:j=a.length:=by simp at h;omega
     subst oy;rw[yb]at hG⊢;conv=>whnf
     repeat'(first|refine ud.mk (Ye 24 rfl rfl rfl (by simp[gD]) (by omega)) ?_|refine AU ?_|refine IW ?_ ?_<;>intro h<;>try omega)<;>conv=>whnf
     rw[TM G0]
     rotate_left
     rfl
     have AH:G=qw a:=hG.trans hge;rw[oJ,F8];refine⟨1,by omega,by omega,?_⟩;rw[lS,lK,AE,Jh,oJ,F8,ze,ze];conv=>whnf
     refine vY.trans (uZ.goes (uZ.jL 11 G0.length 0 9 rfl (iW G0) rfl rfl (by rw[zj];exact zn _) (by decide))) ?_;rw[TN,AH];exact vY.kA h0 [3,4,5,11]
  .as_aux_lemma=>
   obtain⟨L0,dn⟩:∃L0,L0=LS 1:=⟨_,rfl⟩;obtain⟨I0,hI0⟩:∃I0,I0=IS 1:=⟨_,rfl⟩;obtain⟨G0,lV⟩:∃G0,G0=GS 1:=⟨_,rfl⟩;rw[<-dn,<-hI0,<-lV];conv=>whnf
   repeat'(first|refine GET.at rfl ?_|refine AU ?_|refine IW ?_ ?_<;>intro h<;>try omega)<;>conv=>whnf
   have kZ:LS 1=Z0 a:=by rw[mF];rfl
   have lS:LS 2=L0++Z0 b:=by rw[dn,mF];rfl
   have lK:IS 2=b.foldl (kL (wq (L0.length:Int) (Z0 b))) (I0++List.replicate (Z0 b).length []):=by rw[hI0,mG,dn,kZ];rfl
   have AE:GS 2=G0++ [qw b]:=by rw[lV,sr];rfl
   have F8:I0.length=L0.length:=by rw[hI0,mG,dn,kZ];exact J4 a
   have AF:∀m∈I0,m.length<=1048576:=by rw[hI0,mG];exact Z9k ha
   have hLb:L0.length<=4194304:=by rw[dn,kZ];exact Vg ha
   have hGl:G0.length<=1:=by rw[lV,sr];simp
   clear dn hI0 lV mF mG sr kZ;have nN:=hb.few;have jR:=VW b zb F7 (by unfold VU;omega) QG;have hnd:(Z0 b).Nodup:=Yb kr (J7 kr _);have Qr:=Vg hb;have iC:=iD (c:=(L0.length:Int)) (by omega) b;have qo:wQ cmpL (ZR b)=Z0 b:=rfl;have hge:=RH (wq (L0.length:Int) (Z0 b)) b;refine CALL.aA [2] (jR) ?_;rintro r O nx ⟨jj,hjj,rfl,rfl,rfl⟩;have gh:Zk [2] (7+1) 1=8:=rfl;simp only[qF,uo,uD,kj,ZO _ (Zt _),List.cons_append,List.nil_append,gh];rw[qo]at hjj⊢;generalize Z0 b=A at hnd hjj Qr iC lS lK hge⊢;have hLA:(L0++A).length=L0.length+A.length:=ze;conv=>whnf
   repeat'(first|refine AU ?_|refine IW ?_ ?_<;>intro h<;>try omega)<;>conv=>whnf
   refine ua.j5 Z3 [3,5,6,7,15,16,17,28,29] [6,8] (X:=Nat) (fun i=>i<=A.length) (fun i=>[(30, .int .i64 (i:Int))])
    (fun i=>[(3, .box [.sl (.loc 4) 0 1 (L0.length+i) none, .val (.slice none 0 0), .sl (.loc 5) 0 1 (I0.length+i) none, .sl (.loc 6) 0 1 G0.length none, .int .i64 0]),(7, .mp (kz (X0 L0.length A i))),(4, .rows 1 (((L0++A).take (L0.length+i)).map Z9)),(5, .deep false 1 (kV (I0++List.replicate i [])))]) 9 (fun i=>A.length-i) 0 (by omega) ?_
   conv=>whnf
   refine⟨by simp only[Nat.add_zero,List.take_left,List.replicate_zero,zU];exact vY.cA h0,?_⟩;intro i hi;have aW:((L0++A).take (L0.length+i)).length=L0.length+i:=by rw[zA];omega
   have oJ:(I0++List.replicate i ([]:List Sd)).length=I0.length+i:=by rw[ze,zT]
   conv=>whnf
   refine IF.mk (fun h=>?_) (fun h=>?_)
   .as_aux_lemma=>
    have hlt:i<A.length:=by simp at h;omega
    have hs:=V7 (b:=(L0.length:Int)) hlt;have hw:IntKind.i64.wrap ((L0.length:Int)+(i:Int))=(L0.length:Int)+i:=Z4 (by omega) (by omega);have cr:(L0++A)[L0.length+i]'(by omega)=A[i]:=by rw[vH (by omega)];congr 1;omega
    have hap:=BA (L0++A) (i:=L0.length+i) (by omega);rw[cr]at hap;have oR:=R3 (I0++List.replicate i []) oJ.symm (T:=uv) (e:=200) rfl;rw[zR,<-List.replicate_succ']at oR;conv=>whnf
    repeat'(first|(refine GET.at (row:=Z9 A[i]) (Lz hlt (by omega)) ?_;conv=>whnf)|(refine ud.mk ⟨KT.ok _,YW KT _ _⟩ ?_;conv=>whnf)|(rw[hw];conv=>whnf)|(refine ud.mk (Ye 24 rfl rfl rfl (by rw[MA,oJ];exact zn _) (by omega)) ?_;conv=>whnf)|(refine ud.mk (Ye 16 rfl rfl rfl (by rw[zj,aW];exact zn _) (by omega)) ?_;conv=>whnf)|(refine AU ?_;conv=>whnf))
    rw[oR,hap]
    first|rw[Hz,<-hs]|rw[HA,<-hs]
    refine⟨i+1,by omega,by omega,?_⟩;conv=>whnf
    exact vY.kA h0 [3,10,12,6,7,8]
   .as_aux_lemma=>
    have hie:i=A.length:=by simp at h;omega
    subst hie;rw[zo (by omega)];conv=>whnf
    repeat'(first|refine AU ?_|refine IW ?_ ?_<;>intro h<;>try omega)<;>conv=>whnf
    refine ua.nil 10 16 rfl ?_;have nT:=Gp (b:=(L0.length:Int)) hnd;obtain⟨J,hJ⟩:∃J,J=I0++List.replicate A.length ([]:List Sd):=⟨_,rfl⟩
    have AG:∀m∈J,m.length<=1048576:=by
     rw[hJ];intro m hm;rcases zX.1 hm with h1|h1
     exact AF m h1;rw[xE h1];simp
    rw[<-hJ]at oJ lK⊢;rw[<-oJ];have hins:∀j,((b.take j).foldl (kL (wq (L0.length:Int) A)) J).length=J.length:=fun j=>Jh _ _ _
    refine ua.j5 Z3 [3,7,15,16,17,60,61] [4,6,7] (X:=Nat×List Qd) (fun x=>x.1<=b.length/\x.2=Ve (wq (L0.length:Int) A) (b.take x.1)) (fun x=>[(62, .int .i64 (x.1:Int)),(10, .sl (.loc 9) 0 16 x.2.length none)])
     (fun x=>[(3, .box [.sl (.loc 4) 0 1 (L0.length+A.length) none, .val (.slice none 0 0), .sl (.loc 5) 0 1 J.length none, .sl (.loc 6) 0 1 G0.length none, .int .i64 0]),(5, .deep false 1 (kV ((b.take x.1).foldl (kL (wq (L0.length:Int) A)) J))),(9, .rows 16 (x.2.map Zd))]) 10 (fun x=>b.length-x.1) (0,[]) ⟨by simp,rfl⟩ ?_
    conv=>whnf
    refine⟨by exact vY.cA h0,?_⟩;rintro⟨j,G⟩ ⟨hj,hG⟩;dsimp only at hj hG⊢
    have tE:G.length<=j:=by
     have:=yK (fun q=>decide (wE (wq (L0.length:Int) A) q=[])) (b.take j);rw[zA]at this;rw[hG];unfold Ve;omega
    conv=>whnf
    refine IF.mk (fun h=>?_) (fun h=>?_)
    .as_aux_lemma=>
     have hlt:j<b.length:=by simp at h;omega
     have hto:=UT (kL (wq (L0.length:Int) A)) J b hlt;have hgt:=R4 (wq (L0.length:Int) A) hlt;have hI:=hins j;have hbd:=WP (f:=wq (L0.length:Int) A) (l:=b.take j) AG;rw[zA]at hbd
     have hown:Ct J.length (wE (wq (L0.length:Int) A) b[j]):=fun n hn=>by
      have:=iC _ (zq hlt) n hn;omega
     generalize(b.take j).foldl (kL (wq (L0.length:Int) A)) J=I at hto hI hbd;rw[<-hG]at hgt;have hput:=LC b[j] (X0 L0.length A A.length) I (L0.length+A.length) G0.length J.length hI.symm (by rw[nT,hI];exact hown) (fun x hx=>by have:=hbd x hx;omega) (by omega);rw[nT]at hput;conv=>whnf
     repeat'(first|refine GET.at (row:=Zd b[j]) (BB hlt (by omega)) ?_|refine AU ?_|refine IW ?_ ?_<;>intro h<;>try omega)<;>conv=>whnf
     refine CALL.aA [3,5,7,4,6] (hput) ?_;rintro r O nx ⟨rfl,rfl,rfl⟩;conv=>whnf
     repeat'(first|refine AU ?_|refine IW ?_ ?_<;>intro h<;>try omega)<;>conv=>whnf
     .have he:wE (wq (L0.length:Int) A) b[j]=[]:=zO.1 (by omega);rw[z8 he]at hgt;rw[BD G b[j] rfl];refine⟨(j+1,G++ [b[j]]),⟨by dsimp only;omega,hgt.symm⟩,by dsimp only;omega,?_⟩;dsimp only;rw[hto];conv=>whnf
      exact vY.kA h0 [3,4,5,6,7,8,12]
     .have he:¬wE (wq (L0.length:Int) A) b[j]=[]:=fun e=>by rw[e]at h;simp at h
      rw[z6 he]at hgt;refine⟨(j+1,G),⟨by dsimp only;omega,hgt.symm⟩,by dsimp only;omega,?_⟩;dsimp only;rw[hto];conv=>whnf
      exact vY.cA h0
    .as_aux_lemma=>
     have oy:j=b.length:=by simp at h;omega
     subst oy;rw[yb]at hG⊢;conv=>whnf
     repeat'(first|refine ud.mk (Ye 24 rfl rfl rfl (by simp[gD]) (by omega)) ?_|refine AU ?_|refine IW ?_ ?_<;>intro h<;>try omega)<;>conv=>whnf
     rw[TM G0]
     rotate_left
     rfl
     have AH:G=qw b:=hG.trans hge;rw[oJ,F8];refine⟨2,by omega,by omega,?_⟩;rw[lS,lK,AE,Jh,oJ,F8,ze,ze];conv=>whnf
     refine vY.trans (uZ.goes (uZ.jL 11 G0.length 0 9 rfl (iW G0) rfl rfl (by rw[zj];exact zn _) (by decide))) ?_;rw[TN,AH];exact vY.kA h0 [3,4,5,11]
 .have hie:i=2:=by simp at h;omega
  subst hie;have o9:LS 2=Z0 a++Z0 b:=by rw[mF];rfl
  have hi2:IS 2=wB a b:=by rw[mG];rfl
  have hg2:GS 2=[qw a,qw b]:=by rw[sr];rfl
  rw[o9,hi2,hg2];have h1:=Vg ha;have h2:=Vg hb;have hlen:(Z0 a++Z0 b).length=(Z0 a).length+(Z0 b).length:=ze;rw[hlen];conv=>whnf
  repeat'(first|refine ud.mk (Ux 8 rfl (by omega) (by omega) (by omega) (by omega)) ?_|refine AU ?_|refine IW ?_ ?_<;>intro h<;>try omega)<;>conv=>whnf
  generalize hn:(Z0 a).length+(Z0 b).length=n at h1 h2 hlen⊢;rw[show List.replicate (n:Int).toNat [SV.int .i64 0]=(List.replicate n 0).map Z8 by rw[x7];rfl];refine u9.aA h0 [3,4,7,5,6] (.ptr (.loc 3) 0 0 0) [(3, .box [.sl (.loc 4) 0 1 n none, .sl (.loc 5) 0 1 n none, .sl (.loc 6) 0 1 (wB a b).length none, .sl (.loc 7) 0 1 2 none, .int .i64 (GD n)]),(4, .rows 1 ((Z0 a++Z0 b).map Z9)),(5, .rows 1 ((List.replicate n 0).map Z8)),(6, .deep false 1 (kV (wB a b))),(7, .deep false 1 (gD [qw a,qw b]))] ⟨rfl,?_,rfl⟩;unfold F5;rw[hlen,zT]
  rfl
end Go.Proofs.YtlcbipfmodcedaaGreatDoor
