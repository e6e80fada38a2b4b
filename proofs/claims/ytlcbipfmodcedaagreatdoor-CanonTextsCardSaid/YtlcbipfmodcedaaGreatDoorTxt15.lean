import Derived.Test.YtlcbipfmodcedaaGreatDoorTxt14
set_option linter.unusedVariables false
set_option linter.unusedSimpArgs false
set_option maxRecDepth 20000
set_option maxHeartbeats 8000000
namespace Go.Proofs.YtlcbipfmodcedaaGreatDoor
open Go.Sx Go.Our
open _root_.Go.Proofs.Tryz
def ZjY:wP:=(Zr [(0,1),(1,1),(2,1),(3,1),(5,1),(4,2),(6,2),(7,1)])
def ZjZ:wP:=(Zr [(0,1),(1,1),(2,1),(3,1),(4,1),(6,1),(8,1),(9,1),(10,1),(11,1),(13,1),(15,1),(16,1),(17,1),(18,1),(20,1),(22,1),(23,1),(24,1),(25,1),(27,1),(5,2),(12,2),(19,2),(26,2),(7,3),(14,3),(21,3),(28,3),(29,1),(30,3),(31,0),(32,1)])
theorem Zg5{ps:List Pr}{s:List UInt8}{i:Nat}(h:i<ps.length):jX (ps.drop i) s=if ps[i].1=s then some ps[i].2 else jX (ps.drop (i+1)) s:=by
 unfold jX;rw[zq h,List.find?_cons];by_cases e:ps[i].1=s
 rw[yu e,zh e];rfl;rw[ye e,z7 e]
theorem WZ(t:Tm)(ps zp:List Pr)(lim:Option Nat)(hp:(ps++zp).length<=1152921504606846976):uX prog wD 81 1 [.agg (ZD t), .sl (.loc 0) 0 2 ps.length lim] [] [(0, .rows 2 ((ps++zp).map XX))] (qE 1 (.agg (ZD (X7 ps t)))):=by
 have hp1:(ps++zp).length=ps.length+zp.length:=zg;refine uX.enter Z0 call81 func81 rfl 32 rfl rfl [.cell 4 65] rfl ?_;intro w0 F η0 h0;conv=>whnf
 repeat'(first|refine IW ?_ ?_<;>intro h<;>try omega)<;>conv=>whnf
 .refine wh.wC h0 rfl ?_;unfold X7;rw[z7 (by omega)];rfl
 .have hk:t.k=2:=by omega
  refine wj.go Z0 [1,2,4] (X:=Nat) (fun i=>i<=ps.length/\jX ps t.t=jX (ps.drop i) t.t) (fun i=>[(5, .int .i64 (i:Int))]) (fun i=>[(1, .box (ZD t)),(2, .box (ZD YN))]) 3 (fun i=>ps.length-i) 0 ⟨by omega,rfl⟩ ?_;conv=>whnf
  refine⟨by exact w5.cA h0,?_⟩;rintro i ⟨hi,ht⟩;conv=>whnf
  by_cases hil:i<ps.length
  .rw[Zg5 hil]at ht;repeat'(first|refine Z3 6 ZjY ?_|refine GET.at (row:=XX (ps[i]'(by omega))) (ZlO (by omega) (by omega)) ?_|refine AU ?_|refine IW ?_ ?_<;>intro h<;>try omega)<;>conv=>whnf
   .refine wh.wC h0 rfl ?_;unfold X7;rw[zh hk,ht,zh h];rfl
   .refine⟨i+1,⟨by omega,by rw[ht,z7 h]⟩,by omega,?_⟩;conv=>whnf
    exact w5.cA h0
  .have hie:i=ps.length:=by omega
   have ht2:jX ps t.t=none:=by rw[ht,hie,vI];rfl
   repeat'(first|refine IW ?_ ?_<;>intro h<;>try omega)<;>conv=>whnf
   refine wh.wC h0 rfl ?_;unfold X7;rw[zh hk,ht2];rfl
theorem ZhL{J:Type}(f:Qd->J){l:List Qd}{i:Nat}(h:i<l.length):(l.take (i+1)).map f=(l.take i).map f++ [f l[i]]:=by
 rw[zH h,yj];rfl
theorem ZaR(A:List Qd)(hA:A.length*224<=140737488351232):uX prog wD 82 1 [.sl (.loc 0) 0 16 A.length none] [] [(0, .rows 16 (A.map Z4))] (Qz Z4 16 1 (qI ZM A)):=by
 have h:=AJ A hA A.length A.length 0 (zo _) (by omega);rwa [yD,zX,Ee jP _ A (zo _)]at h
theorem Z9t(l z:List Qd)(lim:Option Nat)(ps zp:List Pr)(lG:Option Nat)(hl:Xs l)(hz:(l++z).length<=1152921504606846976)(hp:(ps++zp).length<=1152921504606846976):uX prog wD 41 2 [.sl (.loc 0) 0 16 l.length lim, .sl (.loc 1) 0 2 ps.length lG] [] [(0, .rows 16 ((l++z).map Z4)),(1, .rows 2 ((ps++zp).map XX))]
 (Qz Z4 16 2 (qI ZM (l.map (Vm ps)))):=by
 unfold Xs at hl;refine uX.enter Z0 call41 func41 rfl 47 rfl rfl [.tmp 4] rfl ?_;intro w0 F η0 h0;conv=>whnf
 refine wj.nil 5 16 rfl ?_;refine wj.go Z0 [0,1] (X:=Nat) (fun i=>i<=l.length) (fun i=>[(6, .int .i64 (i:Int)),(5, .sl (.loc 2) 0 16 ((l.take i).map (Vm ps)).length none)]) (fun i=>[(2, .rows 16 (((l.take i).map (Vm ps)).map Z4))]) 3 (fun i=>l.length-i) 0 (by omega) ?_;conv=>whnf
 refine⟨by exact w5.cA h0,?_⟩;intro i hi;have sw:((l.take i).map (Vm ps)).length=i:=by simp;omega
 conv=>whnf
 by_cases hil:i<l.length
 .have hs:=ZhL (Vm ps) hil;generalize(l.take i).map (Vm ps)=out at*;repeat'(first|refine Z3 5 ZjZ ?_|refine qJ.mk (fun _ _=>?_)|refine GET.at (row:=Z4 (l[i]'(by omega))) (AK (by omega) (by omega)) ?_|refine CALL.looks [1] (WZ l[i].s ps zp lG hp) rfl rfl rfl rfl ⟨⟨rfl,ze some (Zu _ (h:= .rows _ _) (VS _)).symm,Yr (VS _)⟩,trivial⟩ ?_|refine CALL.looks [1] (WZ l[i].p ps zp lG hp) rfl rfl rfl rfl ⟨⟨rfl,ze some (Zu _ (h:= .rows _ _) (VS _)).symm,Yr (VS _)⟩,trivial⟩ ?_|refine CALL.looks [1] (WZ l[i].o ps zp lG hp) rfl rfl rfl rfl ⟨⟨rfl,ze some (Zu _ (h:= .rows _ _) (VS _)).symm,Yr (VS _)⟩,trivial⟩ ?_|refine CALL.looks [1] (WZ l[i].g ps zp lG hp) rfl rfl rfl rfl ⟨⟨rfl,ze some (Zu _ (h:= .rows _ _) (VS _)).symm,Yr (VS _)⟩,trivial⟩ ?_|refine wm.mk (Zm 224 rfl rfl (by simp) (by simp) (by omega)) ?_|refine AU ?_|refine IW ?_ ?_<;>intro h<;>try omega)<;>conv=>whnf
  refine⟨i+1,by omega,by omega,?_⟩;rw[hs];conv=>whnf
  (refine w5.wV h0 [4] rfl rfl rfl (by first|rfl|(simp only[Zj,Zi,Z2 _ (Zy _),zD,zG]<;>rfl)) ?_ ?_<;>(repeat'(first|(with_reducible rfl)|(exact Zl (Zy _) (Zb _ (Zy _)))|(exact Zl (Zy _) (by(simp[zi,Yy,Z4,Vm])))|(exact Ya rfl (by first|(simp;done)|omega|(simp;omega)))|(exact ze (SV.int _) (by first|omega|(simp(disch:=omega) only[qL,Z5,Zn]<;>omega)|(simp;done)|(simp<;>omega)))|((conv=>whnf);refine⟨?_,?_⟩)|exact trivial|(simp only[wR,qo];done)|rfl)))
 .have hie:i=l.length:=by omega
  subst hie;rw[zX]at sw⊢;generalize l.map (Vm ps)=out at*;repeat'(first|refine IW ?_ ?_<;>intro h<;>try omega)<;>conv=>whnf
  refine CALL.aA [2] (ZaR out (by omega)) ?_;rintro r O nx ⟨rfl,rfl,rfl⟩;conv=>whnf
  refine wh.aA h0 [3] (.sl (.loc 2) 0 16 (qI ZM out).length none) [(2, .rows 16 ((qI ZM out).map Z4))] ?_;exact⟨rfl,rfl,rfl⟩
end Go.Proofs.YtlcbipfmodcedaaGreatDoor

namespace Go.Proofs.YtlcbipfmodcedaaGreatDoor
open Go.Sx Go.Our
theorem EX(l:List Qd):(ZA l).Nodup:=YZ jO (YY jO _)
def wH(a b:List Qd)(ps:List Pr):Int:=if Tj a b≠0 then Tj a b else if BP (ZA a) (ZA b) ps=true/\qI ZM (a.map (Vm ps))=b then 0 else 140
end Go.Proofs.YtlcbipfmodcedaaGreatDoor

namespace Go.Proofs.YtlcbipfmodcedaaGreatDoor
open Go.Sx Go.Our
theorem Tq{l:List Qd}(h:bZ l):(ZK l).2=0:=by
 have h1:∀(n i:Nat),l.length-i<=n->fG l i=none:=by
  intro n
  induction n with
  |zero=>intro i hi;exact Fi (by omega)
  |succ n ih=>
   intro i hi;by_cases hl:i<l.length
   .rw[Fj hl,z7 (by rw[h.ck _ (zm hl)];simp)];exact ih _ (by omega)
   exact Fi (by omega)
 have h2:∀(n i:Nat),l.length-i<=n->1<=i->pP l i=none:=by
  intro n
  induction n with
  |zero=>intro i hi _;exact EE (by omega)
  |succ n ih=>
   intro i hi h1;by_cases hl:i<l.length
   .have:=Zhq h.QD (i:=i-1) (j:=i) (by omega) hl;rw[EF hl,z7 (by omega)];exact ih _ (by omega) (by omega)
   exact EE (by omega)
 unfold ZK;rw[z7 (by have:=h.few;omega),h1 _ 0 (zo _),h2 _ 1 (zo _) (zo _)]
theorem AR{K:Type}[DecidableEq K]:∀{x l:List K},x.Nodup->l.Nodup->(∀z,z∈x<->z∈l)->x.Perm l
 | [],l,_,_,h=>by
   have:l=[]:=ur.2 fun z hz=>by simpa using(h z).2 hz
   rw[this]
 |z::x,l,hn,hl,h=>by
  have hn':=vq.1 hn;have hz:z∈l:=(h z).1 (y5 ..);refine .trans (.cons z (AR hn'.2 (hl.erase z) fun w=>?_)) (List.perm_cons_erase hz).symm;rw[hl.mem_erase_iff,<-h w,zK];constructor
  exact fun hw=>⟨fun e=>hn'.1 (e▸hw), .inr hw⟩
  .rintro⟨h1,h2⟩;exact h2.resolve_left h1
theorem ZlT{K J:Type}{f:K->J}{l:List K}(hl:l.Nodup)(hf:∀x∈l,∀y∈l,f x=f y->x=y):(l.map f).Nodup:=by
 unfold List.Nodup at*;rw[vY];exact hl.imp_of_mem fun hx hy hne e=>hne (hf _ hx _ hy e)
theorem AV{ps:List Pr}{s u:LB}(hn:(ps.map Prod.fst).Nodup)(h:(s,u)∈ps):jX ps s=some u:=by
 induction ps with
 |nil=>cases h
 |cons p ps ih=>
  rw[zI]at hn;have hn':=vq.1 hn;rw[Zg4];rcases zK.1 h with e|e
  subst e;rw[zh rfl]
  .rw[z7 (fun e2=>hn'.1 (by rw[e2];exact zY.2 ⟨_,e,rfl⟩))];exact ih hn'.2 e
structure Tr(a b:List Qd)(ps:List Pr):Prop where
 va:bZ a
 vb:bZ b
 fs:(ps.map Prod.fst).Perm (ZA a)
 sn:(ps.map Prod.snd).Perm (ZA b)
 img:b.Perm (a.map (Vm ps))
def Kw(ps:List Pr):List Pr:=ps.map fun p=>(p.2,p.1)
theorem ZhM(ps:List Pr):(Kw ps).map Prod.fst=ps.map Prod.snd:=by unfold Kw;rw[xF];rfl
theorem FA{ps:List Pr}{t:Tm}(h:¬t.k=2):X7 ps t=t:=z7 h
theorem FB{ps:List Pr}{t:Tm}{u:LB}(h:t.k=2)(hu:jX ps t.t=some u):X7 ps t={t with t:=u}:=by unfold X7;rw[zh h,hu]
theorem Ts(ps:List Pr)(q:Qd):XW (Vm ps q)=(XW q).map (X7 ps):=rfl
theorem ZhN{f g:Tm->Tm}{q:Qd}(h:∀t∈XW q,f t=g t):(⟨f q.s,f q.p,f q.o,f q.g⟩:Qd)=⟨g q.s,g q.p,g q.o,g q.g⟩:=by
 rw[h q.s (by simp[XW]),h q.p (by simp[XW]),h q.o (by simp[XW]),h q.g (by simp[XW])]
section
variable {a b c:List Qd}{ps:List Pr}
theorem Tv(h:(ps.map Prod.fst).Perm (ZA a)){s:LB}(hs:s∈ZA a):∃u,(s,u)∈ps/\jX ps s=some u:=by
 obtain⟨p,hp,rfl⟩:=zY.1 (h.mem_iff.2 hs);exact⟨p.2,hp,AV (h.symm.nodup (EX a)) hp⟩
theorem Tw(h:(ps.map Prod.fst).Perm (ZA a))(hn:(ps.map Prod.snd).Nodup){q:Qd}(hq:q∈a):Vm (Kw ps) (Vm ps q)=q:=by
 have:∀t∈XW q,X7 (Kw ps) (X7 ps t)=t:=fun t ht=>by
  by_cases hk:t.k=2
  .obtain⟨u,hu,e⟩:=Tv h (AQ hq ht hk);have e2:jX (Kw ps) u=some t.t:=AV (by rw[ZhM];exact hn) (zY.2 ⟨_,hu,rfl⟩);rw[FB hk e,FB (by exact hk) e2]
  rw[FA hk,FA hk]
 exact ZhN (f:=fun t=>X7 (Kw ps) (X7 ps t)) (g:=id) this
theorem Zk0(hr:a.Nodup)(h:(ps.map Prod.fst).Perm (ZA a))(hn:(ps.map Prod.snd).Nodup):(a.map (Vm ps)).Nodup:=
 ZlT hr fun x hx y hy e=>by rw[<-Tw h hn hx,e,Tw h hn hy]
end
def Kx(u:LB):Prop:=u.length<=65536/\UT u=0
theorem ZlU{t:Tm}(hk:t.k=2)(h:Go.Our.wH t=0):(t.y=[]/\t.l=[])/\Kx t.t:=by
 unfold Go.Our.wH at h;rw[zh (.inr hk)]at h;split at h
 cases h
 .rename_i h1;rw[z7 (by rw[hk];decide)]at h;split at h
  cases h
  .rename_i h2;refine⟨⟨yE fun e=>h1 (.inl e),yE fun e=>h1 (.inr e)⟩,by omega,h⟩
theorem ZlV{t:Tm}(hk:t.k=2)(hy:t.y=[])(hl:t.l=[])(h:Kx t.t):Go.Our.wH t=0:=by
 unfold Go.Our.wH;rw[zh (.inr hk),z7 (by rw[hy,hl];simp),z7 (by rw[hk];decide),z7 (by have:=h.1;omega)];exact h.2
theorem Qg{l:List Qd}{u:LB}(hu:u∈ZA l):∃q∈l,∃t∈XW q,t.k=2/\t.t=u:=by
 obtain⟨q,hq,h⟩:=xB.1 ((X4 _ _).1 hu);unfold Zx at h
 have key:∀{t:Tm},u∈ZS t->t.k=2/\t.t=u:=fun{t} h=>by
  unfold ZS at h;split at h
  exact⟨‹_›,(zL.1 h).symm⟩;cases h
 simp only[zW]at h;rcases h with((h|h)|h)|h
 exact⟨q,hq,q.s,by simp[XW],key h⟩;exact⟨q,hq,q.p,by simp[XW],key h⟩;exact⟨q,hq,q.o,by simp[XW],key h⟩;exact⟨q,hq,q.g,by simp[XW],key h⟩
theorem EY{ps:List Pr}{t:Tm}(h:Go.Our.wH t=0)(hu:t.k=2->∃u,jX ps t.t=some u/\Kx u):Go.Our.wH (X7 ps t)=0:=by
 by_cases hk:t.k=2
 .obtain⟨u,e,hl⟩:=hu hk;rw[FB hk e];have:=(ZlU hk h).1;exact ZlV hk this.1 this.2 hl
 rw[FA hk];exact h
theorem EZ(ps:List Pr)(t:Tm):(X7 ps t).k=t.k:=by
 unfold X7;split
 split<;>rfl
 rfl
theorem ZdD{ps:List Pr}{q:Qd}(h:Xv q=0)(hu:∀t∈XW q,t.k=2->∃u,jX ps t.t=some u/\Kx u):Xv (Vm ps q)=0:=by
 have hg:(X7 ps q.g=YN)<->q.g=YN:=by
  constructor
  .intro e;by_cases hk:q.g.k=2
   .have:=EZ ps q.g;rw[e,hk]at this;cases this
   rwa [FA hk]at e
  .intro e;rw[e];exact FA (by decide)
 unfold Xv at h⊢
 show(if ¬((X7 ps q.s).k=1\/(X7 ps q.s).k=2)then 70 else if Go.Our.wH (X7 ps q.s)≠0 then Go.Our.wH (X7 ps q.s)else
 if ¬(X7 ps q.p).k=1 then 70 else if Go.Our.wH (X7 ps q.p)≠0 then Go.Our.wH (X7 ps q.p)else
 if Go.Our.wH (X7 ps q.o)≠0 then Go.Our.wH (X7 ps q.o)else
 if X7 ps q.g=YN then 0 else if ¬((X7 ps q.g).k=1\/(X7 ps q.g).k=2)then 70 else Go.Our.wH (X7 ps q.g))=0
 simp only[EZ,hg];split at h
 cases h
 rename_i h1;rw[z7 h1];split at h
 exact absurd h ‹_›;rename_i h2;rw[z7 (fun e=>e (EY (yE h2) (hu _ (by simp[XW]))))];split at h
 cases h
 rename_i h3;rw[z7 h3];split at h
 exact absurd h ‹_›;rename_i h4;rw[z7 (fun e=>e (EY (yE h4) (hu _ (by simp[XW]))))];split at h
 exact absurd h ‹_›;rename_i h5;rw[z7 (fun e=>e (EY (yE h5) (hu _ (by simp[XW]))))];split at h
 rw[zh ‹_›];rename_i h6;rw[z7 h6];split at h
 cases h
 rename_i h7;rw[z7 h7];exact EY h (hu _ (by simp[XW]))
theorem Zk1{l:List Qd}{ps:List Pr}(d:bZ l)(fs:(ps.map Prod.fst).Perm (ZA l))(nd:(ps.map Prod.snd).Nodup)(ok:∀u∈ps.map Prod.snd,Kx u):Tr l (qI ZM (l.map (Vm ps))) ps:=by
 have hu:∀q∈l,∀t∈XW q,t.k=2->∃u,(t.t,u)∈ps/\jX ps t.t=some u/\Kx u:=fun q hq t ht hk=>by
  obtain⟨u,h1,h2⟩:=Tv fs (AQ hq ht hk);exact⟨u,h1,h2,ok u (zY.2 ⟨_,h1,rfl⟩)⟩
 have hr:=YY jP (l.map (Vm ps));have hl:=Kk (c:=ZM) (l.map (Vm ps));rw[zA]at hl;refine⟨d,⟨hr,zP hl d.few,fun q hq=>?_⟩,fs,AR nd (EX _) fun u=>?_,AR (YZ jP hr) (Zk0 (YZ jP d.QD) fs nd) fun z=>X4 _ _⟩
 .obtain⟨q0,D0,rfl⟩:=zY.1 ((X4 _ _).1 hq);refine ZdD (d.ck q0 D0) fun t ht hk=>?_;obtain⟨u,_,h2,h3⟩:=hu q0 D0 t ht hk;exact⟨u,h2,h3⟩
 .constructor
  .intro hm;obtain⟨p,hp,rfl⟩:=zY.1 hm;have h1:p.1∈ZA l:=fs.mem_iff.1 (zY.2 ⟨p,hp,rfl⟩);obtain⟨q,hq,t,ht,hk,he⟩:=Qg h1;have e:jX ps t.t=some p.2:=by rw[he];exact AV (fs.symm.nodup (EX l)) hp
   have:=AQ (l:=qI ZM (l.map (Vm ps))) ((X4 _ _).2 (zY.2 ⟨q,hq,rfl⟩)) (t:=X7 ps t) (by rw[Ts];exact vj ht) (by rw[EZ];exact hk);rw[FB hk e]at this;exact this
  .intro hm;obtain⟨q,hq,t,ht,hk,rfl⟩:=Qg hm;obtain⟨q0,D0,rfl⟩:=zY.1 ((X4 _ _).1 hq);rw[Ts]at ht;obtain⟨t0,ht0,rfl⟩:=zY.1 ht;rw[EZ]at hk;obtain⟨u,h1,h2,_⟩:=hu q0 D0 t0 ht0 hk;rw[FB hk h2];exact zY.2 ⟨_,h1,rfl⟩
