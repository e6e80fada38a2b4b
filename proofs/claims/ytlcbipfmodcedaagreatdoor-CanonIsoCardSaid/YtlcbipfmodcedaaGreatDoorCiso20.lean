/- Part 20: IsoFits. Conditions: as each part says. -/
import Derived.Test.YtlcbipfmodcedaaGreatDoorCiso18
import Derived.Test.YtlcbipfmodcedaaGreatDoorCiso19
set_option linter.unusedVariables false
set_option linter.unusedSimpArgs false
set_option maxRecDepth 20000
set_option maxHeartbeats 8000000
namespace Go.Proofs.YtlcbipfmodcedaaGreatDoor
open Go.Sx Go.Our
open _root_.Go.Proofs.Tryz
def W1:uJ:=(ZI [(0,1),(1,1),(2,1),(3,1),(4,1),(5,2),(6,2),(7,3),(8,1),(9,1)])
def Zbz:uJ:=(ZI [(0,1),(1,1),(2,1),(3,1),(8,1),(9,1),(10,1),(12,1),(13,1),(14,1),(16,1),(4,2),(5,1),(6,1),(7,2),(11,2),(15,2),(17,1),(18,2),(19,1),(20,1),(21,2),(22,1),(23,1),(24,0)])
def av(s:Sd):List Int:=[s.a,s.b,s.c,s.d]
def lG(ps:List Int)(s:Sd):Bool:=(av s).all fun n=>decide (n<0)||decide (0<=ps.getD n.toNat 0)
def de(uy:List LB)(half:Nat)(ps:List Int)(t:Tm)(n:Int):Tm:=if n<0 then t else{t with t:=uy.getD ((half:Int)+ps.getD n.toNat 0).toNat []}
def ew(uy:List LB)(half:Nat)(ps:List Int)(s:Sd):Qd:=⟨de uy half ps s.q.s s.a,de uy half ps s.q.p s.b,de uy half ps s.q.o s.c,de uy half ps s.q.g s.d⟩
def mC(uy:List LB)(half:Nat)(ps:List Int)(bq:List Qd)(l:List Sd):Bool:=l.all fun s=>!lG ps s||decide (ew uy half ps s∈bq)
def Rl(half:Nat)(left:Int):Hp:= .box [.ptr (.loc 1) 0 0 0, .int .i64 half, .mp (.loc 2), .sl (.loc 3) 0 1 half none, .sl (.loc 4) 0 1 half none, .int .i64 left]
def Rm(nl nc ni ng:Nat)(count:Int):Hp:= .box [.sl (.loc 5) 0 1 nl none, .sl (.loc 6) 0 1 nc none, .sl (.loc 7) 0 1 ni none, .sl (.loc 8) 0 1 ng none, .int .i64 count]
def lH(bq:List Qd):List (List SV):=VR KQ qj (bq.map fun q=>(q,(1:Int)))
instance {bq:List Qd}:Pl (lH bq):=⟨H9 KQ qj (fun _=>rfl) _⟩
def mD(s:Sd):List Tm:=[s.q.s,s.q.p,s.q.o,s.q.g]
def BJ(uy:List LB)(half:Nat)(ps:List Int)(s:Sd):List Tm:=List.zipWith (de uy half ps) (mD s) (av s)
def ez(uy:List LB)(half:Nat)(ps:List Int)(s:Sd)(k:Nat):List Tm:=(BJ uy half ps s).take k++(mD s).drop k
theorem Ze5(uy:List LB)(half:Nat)(ps:List Int)(s:Sd):ez uy half ps s 0=mD s:=rfl
theorem Rn{uy:List LB}{half:Nat}{ps:List Int}{s:Sd}{k:Nat}(hk:k<4):ez uy half ps s (k+1)=(ez uy half ps s k).set k (de uy half ps ((mD s)[k]'hk) ((av s)[k]'hk)):=by
 match k,hk with
 |0,_=>rfl
 |1,_=>rfl
 |2,_=>rfl
 |3,_=>rfl
theorem Ro{uy:List LB}{half:Nat}{ps:List Int}{s:Sd}{k:Nat}(hk:k<4):(ez uy half ps s k)[k]?=some ((mD s)[k]'hk):=by
 match k,hk with
 |0,_=>rfl
 |1,_=>rfl
 |2,_=>rfl
 |3,_=>rfl
theorem Zgk{uy:List LB}{half:Nat}{ps:List Int}{s:Sd}{k:Nat}(hk:k<4)(hn:(av s)[k]'hk<0):ez uy half ps s (k+1)=ez uy half ps s k:=by
 rw[Rn hk];have hg:=Ro (uy:=uy) (half:=half) (ps:=ps) (s:=s) hk;unfold de;rw[z8 hn];obtain⟨h1,h2⟩:=zg.1 hg;rw[<-h2];exact List.set_getElem_self h1
theorem Rp{uy:List LB}{half:Nat}{ps:List Int}{bq:List Qd}{l:List Sd}{j:Nat}(h:j<l.length):mC uy half ps bq (l.take (j+1))=(mC uy half ps bq (l.take j)&& (!lG ps l[j]||decide (ew uy half ps l[j]∈bq))):=by
 unfold mC;rw[zB h,vl];simp
theorem Rq{ins:List (List Sd)}{i k:Nat}{sv:SV}{l:List Sd}(h:i<ins.length)(hk:k=i)(hl:ins[i]=l):uw (uw (kV ins) k 0 (.v sv)) i 0 (.uC 20 ((l.map Us).take l.length))=kV ins:=by
 subst hl;exact Rk (es:=20) (f:=Us) h hk rfl
theorem Ziy{es:Nat}{rs:List (List SV)}(h:b9 (.agg rs.flatten)):b9 (.arr es rs):=by
 unfold b9 at h⊢;intro K u u' h1 h2;exact h K u u' (Den.jg h1) (Den.jg h2)
theorem Rr{a:Qd}:∀{l:List (Qd×Int)},js a l=none->a∉l.map Prod.fst
 | [],_,h=>by simp at h
 |(b,u)::l,hn,h=>by
  unfold js at hn;split at hn
  cases hn
  .rename_i hb;have h2:=xK.1 hn;rcases zI.1 h with e|e
   exact hb e;exact Rr h2 e
theorem Zkl{ss:List (List DC)}{i k:Nat}{d:DC}(hk:k=i):ss.modify k (fun row=>row.set 0 d)=uw ss i 0 d:=by subst hk;rfl
theorem Ze7(uy:List LB)(half:Nat)(ps:List Int)(bq:List Qd)(ins:List (List Sd))(nc ng x:Nat)(left count:Int)(hx:x<ins.length)(Gr:uy.length=2*half)(hps:ps.length=half)(hn:uy.length<=67108864)(nN:(ins[x]'hx).length<=67108864)(Rs:∀s∈(ins[x]'hx),∀n∈av s,-1<=n/\n< (half:Int))(bN:∀y∈ps,-1<=y/\y< (half:Int)):
 vW prog uv 101 9 [.ptr (.loc 0) 0 0 0, .int .i64 (x:Int)] [(7, .deep false 1 (kV ins))] [(0,Rl half left),(1,Rm uy.length nc ins.length ng count),(2, .mp (lH bq)),(3, .rows 1 (ps.map Z8)),(5, .rows 1 (uy.map Z9))]
 (fun r O nx=>r= .bool (mC uy half ps bq ins[x])/\O=[(7, .deep false 1 (kV ins))]/\nx=9):=by
 refine vW.enter Z3 call101 func101 rfl 80 rfl rfl [.tmp 4] rfl ?_;intro w0 F η0 h0;conv=>whnf
 repeat'(first|refine wZ.at (R7 hx (by omega)) ?_|refine AU ?_|refine IW ?_ ?_<;>intro h<;>try omega)<;>conv=>whnf
 rw[Zkl (i:=x) (by omega),zj];generalize hl:ins[x]=l at nN Rs⊢;refine ua.j5 Z3 [0,20,21] [7,9] (X:=Nat) (fun j=>j<=l.length/\mC uy half ps bq (l.take j)=true) (fun j=>[(22, .int .i64 (j:Int))]) (fun j=>[]) 10 (fun j=>l.length-j) 0 ⟨by omega,rfl⟩ ?_;conv=>whnf
 refine⟨by exact vY.cA h0,?_⟩;rintro j ⟨hj,HW⟩;conv=>whnf
 repeat'(first|refine AU ?_|refine IW ?_ ?_<;>intro h<;>try omega)<;>conv=>whnf
 .have hjl:j<l.length:=by omega
  have Rt:=ZfJ (l:=l) hjl;generalize hs:l[j]=s at Rt;repeat'(first|refine GET.at (row:=Us s) (by rw[Int.toNat_natCast,zw];exact Rt) ?_|refine AU ?_|refine IW ?_ ?_<;>intro h<;>try omega)<;>conv=>whnf
  refine ua.j5 Z3 [0,7,20,21,22,29] [7,9] (X:=Nat) (fun k=>k<=4/\∀n∈(av s).take k,n<0\/0<=ps.getD n.toNat 0) (fun k=>[(30, .int .i64 (k:Int)),(8, .bool true)]) (fun k=>[(11, .rows 4 ((ez uy half ps s k).map nw))]) 12 (fun k=>4-k) 0 ⟨by omega,fun n h=>by simp at h⟩ ?_;conv=>whnf
  refine⟨by rw[Ze5];exact vY.cA h0,?_⟩;rintro k ⟨hk,hw⟩;conv=>whnf
  repeat'(first|refine AU ?_|refine IW ?_ ?_<;>intro h<;>try omega)<;>conv=>whnf
  .have cq:k< (av s).length:=by show k<4;omega
   have Qa:[[SV.int .i64 s.a],[SV.int .i64 s.b],[SV.int .i64 s.c],[SV.int .i64 s.d]][(k:Int).toNat]?=some (Z8 (av s)[k]):=by
    rw[Int.toNat_natCast];show((av s).map Z8)[k]?=_
    rw[z7,z1 cq];rfl
   have hnr:=Rs s (by rw[<-hs];exact zq hjl) _ (zq cq);generalize hnk:(av s)[k]=n at Qa hnr
   have rV:(n<0\/0<=ps.getD n.toNat 0)->∀m∈(av s).take (k+1),m<0\/0<=ps.getD m.toNat 0:=fun hn' m hm=>by
    rw[zB cq,hnk]at hm;rcases zX.1 hm with h1|h1
    exact hw m h1;rw[zJ.1 h1];exact hn'
   refine GET.at Qa ?_;conv=>whnf
   repeat'(first|refine AU ?_|refine IW ?_ ?_<;>intro h<;>try omega)<;>conv=>whnf
   .refine⟨k+1,⟨by omega,rV (.inl h)⟩,by omega,?_⟩;rw[Zgk cq (by rw[hnk];exact h)];conv=>whnf
    exact vY.cA h0
   .have hn0:n.toNat<ps.length:=by omega
    have Gt:=YT (f:=Z8) hn0 rfl;have HX:=bN _ (zq hn0);have mL:ps.getD n.toNat 0=ps[n.toNat]:=by rw[zi,z1 hn0];rfl
    generalize ps[n.toNat]'hn0=y at Gt HX mL;repeat'(first|refine GET.at (row:=Z8 y) (by rw[zw];exact Gt) ?_|refine AU ?_|refine IW ?_ ?_<;>intro h<;>try omega)<;>conv=>whnf
    .have hfalse:lG ps s=false:=by
      unfold lG;rw[List.all_eq_false];refine⟨n,by rw[<-hnk];exact zq cq,?_⟩;rw[mL];simp;omega
     repeat'(first|(show uK _ _ _ _ _ _ _;first|refine Zs 13 W1 ?_)|refine qW.mk (fun _ _=>?_)|refine AD ?_|refine w6.mk ?_ ?_|refine AU ?_|refine IW ?_ ?_<;>intro h<;>try omega)<;>conv=>whnf
     refine⟨j+1,⟨by omega,by rw[Rp hjl,HW,hs];simp[hfalse]⟩,by omega,?_⟩;conv=>whnf
     exact vY.cA h0
    .have hlb:((half:Int)+y).toNat<uy.length:=by omega
     have tE:=YT (f:=Z9) hlb rfl;have BK:IntKind.i64.wrap ((half:Int)+y)=(half:Int)+y:=Z4 (by omega) (by omega);have hgt:((ez uy half ps s k).map nw)[k]?=some (nw ((mD s)[k]'cq)):=by rw[z7,Ro cq];rfl
     repeat'(first|(show uK _ _ _ _ _ _ _;first|refine Zs 11 Zbz ?_)|refine qW.mk (fun _ _=>?_)|refine AD ?_|refine w6.mk ?_ ?_|refine GET.at (row:=Z9 (uy[((half:Int)+y).toNat]'hlb)) (by rw[zw,BK];exact tE) ?_|refine GET.at (row:=Z8 y) (by rw[zw];exact Gt) ?_|refine GET.at (row:=nw ((mD s)[k]'cq)) (by rw[Int.toNat_natCast];exact hgt) ?_|refine AU ?_|refine IW ?_ ?_<;>intro h<;>try omega)<;>conv=>whnf
     have hst:((ez uy half ps s k).map nw).set (k:Int).toNat [.int .i64 ((mD s)[k]'cq).k, .str (uy[((half:Int)+y).toNat]'hlb), .str ((mD s)[k]'cq).y, .str ((mD s)[k]'cq).l]=(ez uy half ps s (k+1)).map nw:=by
      rw[Rn cq,xZ,Int.toNat_natCast];congr 1;unfold de;rw[z6 (by rw[hnk];omega),hnk,mL,zi,z1 hlb];rfl
     rw[hst];refine⟨k+1,⟨by omega,rV (.inr (by rw[mL];exact h))⟩,by omega,?_⟩;conv=>whnf
     exact vY.cA h0
  .have cq:k=4:=by omega
   subst cq
   have hwt:lG ps s=true:=by
    unfold lG;rw[zN];intro n hn;rcases hw n hn with h1|h1
    simp[h1];simp only[xD,yN];exact .inr h1
   have hky:SV.agg ((ez uy half ps s 4).map nw).flatten=KQ.enc (ew uy half ps s):=rfl;repeat'(first|(show uK _ _ _ _ _ _ _;first|refine Zs 13 W1 ?_)|refine qW.mk (fun _ _=>?_)|refine AD ?_|refine w6.mk ?_ ?_|refine ud.mk ⟨rfl,rfl,rfl⟩ ?_|refine ud.mk (Ziy (b9.of rfl)) ?_|refine ud.mk ⟨KQ.ok (ew uy half ps s),YW KQ qj _⟩ ?_|refine AU ?_|refine IW ?_ ?_<;>intro h<;>try omega)<;>conv=>whnf
   refine jx.mk (fun i v hf=>?_) (fun hf=>?_)
   .obtain⟨⟨m,z⟩,hm,he⟩:=zH.1 ((Qb KQ qj (ew uy half ps s) (bq.map fun q=>(q,(1:Int))) 0).symm.trans hf);obtain⟨q,hq,e⟩:=zM.1 (y8 (KN hm));injection e with e1 e2;subst e2;have hin:ew uy half ps s∈bq:=e1▸hq;cases he
    clear hf;conv=>whnf
    repeat'(first|(show uK _ _ _ _ _ _ _;first|refine Zs 13 W1 ?_)|refine qW.mk (fun _ _=>?_)|refine AD ?_|refine w6.mk ?_ ?_|refine AU ?_|refine IW ?_ ?_<;>intro h<;>try omega)<;>conv=>whnf
    refine⟨j+1,⟨by omega,by rw[Rp hjl,HW,hs];simp[hin]⟩,by omega,?_⟩;conv=>whnf
    exact vY.cA h0
   .have hm:=xK.1 ((Qb KQ qj (ew uy half ps s) (bq.map fun q=>(q,(1:Int))) 0).symm.trans hf);have hin:¬ew uy half ps s∈bq:=fun h=>Rr hm (zM.2 ⟨_,xu h,rfl⟩)
    have hno:mC uy half ps bq l=false:=by
     unfold mC;rw[List.all_eq_false];exact⟨s,by rw[<-hs];exact zq hjl,by simp[hwt,hin]⟩
    clear hf;conv=>whnf
    repeat'(first|(show uK _ _ _ _ _ _ _;first|refine Zs 13 W1 ?_)|refine qW.mk (fun _ _=>?_)|refine AD ?_|refine w6.mk ?_ ?_|refine AU ?_|refine IW ?_ ?_<;>intro h<;>try omega)<;>conv=>whnf
    rw[hno];refine uZ.fin (uZ.jL 7 x 0 9 rfl (HV (es:=20) (f:=Us) hx rfl) rfl rfl (by rw[zj];exact zn _) (by decide)) ?_;rw[Rq hx rfl hl];exact u9.aA h0 [] (.bool false) [(7, .deep false 1 (kV ins))] ⟨rfl,rfl,rfl⟩
 .have oy:j=l.length:=by omega
  subst oy;rw[yb]at HW;rw[HW];refine uZ.fin (uZ.jL 7 x 0 9 rfl (HV (es:=20) (f:=Us) hx rfl) rfl rfl (by rw[zj];exact zn _) (by decide)) ?_;rw[Rq hx rfl hl];exact u9.aA h0 [] (.bool true) [(7, .deep false 1 (kV ins))] ⟨rfl,rfl,rfl⟩
end Go.Proofs.YtlcbipfmodcedaaGreatDoor
