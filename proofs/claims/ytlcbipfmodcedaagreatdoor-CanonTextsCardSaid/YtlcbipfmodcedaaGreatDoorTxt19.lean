import Derived.Test.YtlcbipfmodcedaaGreatDoorTxt5
set_option linter.unusedVariables false
set_option linter.unusedSimpArgs false
namespace Go.Sx
open Go
section
variable {M:Mx}{K:Env}{w:World}{O:w9}{nx:Nat}
theorem uY.QV(H:uY M K w O nx){i es:Nat}{D D':List (List DC)}{R':List (List SV)}{w':World}{x:kM}{pS:Nat->Nat}
 (hi:wu i O=some (.deep false es D)) (hf:jS w w' fun _=>False) (hx:w.heap.size<=x.g) (hN:uZ (K++ [some x]) w' true (.loc nx) (.rows es R')) (hl:D'.length=R'.length)
 (hrow:∀(r:Nat) (row:List DC),D'[r]?=some row->D[pS r]?=some row) (hinj:∀r r',r<D'.length->r'<D'.length->pS r=pS r'->r=r')
 (hv:∀(r c:Nat) (row:List DC) (sv:SV),D'[r]?=some row->row[c]?=some (.v sv)->∃rw:List SV,R'[r]?=some rw/\rw[c]?=some sv)
 (hk:∀(r c:Nat) (row:List DC) (es':Nat) (rows:List (List SV)),D'[r]?=some row->row[c]?=some (.wZ es' rows)->∃(rw:List SV) (v:Value) (e:kM) (o:Obj),R'[r]?=some rw/\rw[c]?=some (.val v)/\K.get (.loc i)=some (some e)/\w.heap[e.g]?=some o/\ZJ o es (pS r) c=some v)
 (hlen:∀(r:Nat) (row:List DC) (rw:List SV),D'[r]?=some row->R'[r]?=some rw->rw.length=row.length):
 uY M (K++ [some x]) w' ((nx, .deep false es D')::qy i O) (nx+1):=by
 have H2:uY M K w' O nx:=H.aV hf;have hpre:K<+:K++ [some x]:=zC _ _
 have hnew:(K++ [some x]).get (.loc nx)=some (some x):=by
  show(K++ [some x])[nx]?=_
  rw[zx (by rw[H.len];omega),H.len];simp
 obtain⟨wA,hF⟩:=H.own.1 i _ hi;obtain⟨_,hD,_⟩:=wA.qZ;have lK:=(H2.own.1 i _ hi).1;have hsize:M.w0.heap.size<=w.heap.size:=H.fr.size
 have kg:∀(r c:Nat) (es':Nat) (rows:List (List SV)),Yl D' r c=some (es',rows)->∃(rw:List SV) (v:Value) (e:kM) (o:Obj),R'[r]?=some rw/\rw[c]?=some (.val v)/\K.get (.loc i)=some (some e)/\w.heap[e.g]?=some o/\ZJ o es (pS r) c=some v/\Yl D (pS r) c=some (es',rows)/\qz K w v es' rows:=fun r c es' rows h=>by
  obtain⟨row,h1,h2⟩:=wN.1 h;obtain⟨fC,v,e,o,k1,k2,k3,k4,k5⟩:=hk r c row es' rows h1 h2;have h3:Yl D (pS r) c=some (es',rows):=wN.2 ⟨row,hrow r row h1,h2⟩;obtain⟨v',k6,k7,_⟩:=((hD e k3).2 o k4).sat (pS r) c es' rows h3;rw[k5]at k6;injection k6 with k6;subst k6
  exact⟨fC,v,e,o,k1,k2,k3,k4,k5,h3,k7⟩
 have i7:∀{r c es' rows v k} {e:kM} {o:Obj},K.get (.loc i)=some (some e)->w.heap[e.g]?=some o->ZJ o es (pS r) c=some v->Yl D (pS r) c=some (es',rows)->v.ownBlock=some k->wq K w (.loc i) (.deep false es D) k:=fun{r c es' rows v k e o} h1 h2 h3 h4 h5=>⟨e,h1, .inr (by simp only[wZ];exact⟨o,pS r,c,_,v,h2,h4,h3,h5⟩)⟩;simp only[uZ]at hN;rcases hN with⟨h1,_⟩|⟨x',arr,T,fz,h1,h2,h3,h4⟩
 rw[hnew]at h1;cases h1;rw[hnew]at h1;injection h1 with h1;injection h1 with h1;subst h1
 obtain⟨h5,h6,h7,h8⟩:=h3 trivial
 have hcell:∀{r c:Nat} {fC:List SV} {v:Value},R'[r]?=some fC->fC[c]?=some (.val v)->ZJ (.cells arr T fz) es r c=some v:=fun{r c fC v} k1 k2=>by
  obtain⟨_,k3⟩:=h4 r fC k1;obtain⟨u,k4,_,k5⟩:=k3 c _ k2;simp only[Den]at k5;rw[h8,zy]at k4;simp only[ZJ];rw[k4,k5.1]
 have H6:uZ (K++ [some x]) w' true (.loc nx) (.deep false es D'):=by
  refine uZ.jF (mp:=false) ?_ (fun h=>by cases h) fun e he=>?_
  .refine .inr ⟨x,arr,T,fz,hnew,h2,fun _=>⟨h5,h6,by rw[show(ZB D').length=R'.length by simp[ZB,hl]];exact h7,h8⟩,fun r row hr=>?_⟩;rw[Yb]at hr;obtain⟨QW,k1,rfl⟩:=zB.1 hr;have hrl:r<R'.length:=by rw[<-hl];exact(zf.1 k1).1
   obtain⟨k3,k4⟩:=h4 r _ (z1 hrl);refine⟨by rw[zA,<-k3];exact(hlen r QW _ k1 (z1 hrl)).symm,fun c sv hc=>?_⟩;rw[z6]at hc;obtain⟨d,k5,rfl⟩:=zB.1 hc;cases d with
   |v s=>
    obtain⟨fC,k6,k7⟩:=hv r c QW s k1 k5;rw[z1 hrl]at k6;injection k6 with k6;subst k6
    exact k4 c s k7
   |wZ es' rows=>
    obtain⟨fC,v,_,_,k6,k7,_⟩:=hk r c QW es' rows k1 k5;rw[z1 hrl]at k6;injection k6 with k6;subst k6
    obtain⟨u,q1,q2,_⟩:=k4 c _ k7;exact⟨u,q1,q2,by simp only[ZT,Den]⟩
  .rw[hnew]at he;injection he with he;injection he with he;subst he
   refine⟨h8,fun o ho=>?_⟩;rw[h2]at ho;injection ho with ho;subst ho
   refine⟨fun r c es' rows dA=>?_,fun r c r' c' y y' v v' k q1 q2 q3 q4 q5 q6=>?_⟩
   .obtain⟨fC,v,e,o,k1,k2,k3,k4,k5,k6,k7⟩:=kg r c es' rows dA;have hlt:∀k,v.ownBlock=some k->k<w.heap.size:=fun k hkk=>wA.wY (i7 k3 k4 k5 k6 hkk);refine⟨v,hcell k1 k2,(k7.keep fun k hkk=>hf.block k (hlt k hkk) (fun h=>h)).mono hpre,fun hkk=>?_⟩;have:=hlt _ hkk;omega
   .obtain⟨ya,yb⟩:=y;obtain⟨za,zb⟩:=y';obtain⟨fC,v1,e,o,k1,k2,k3,k4,k5,k6,k7⟩:=kg r c ya yb q1;obtain⟨rw2,v2,e2,o2,j1,j2,j3,j4,j5,j6,j7⟩:=kg r' c' za zb q2;rw[hcell k1 k2]at q3;injection q3 with q3;subst q3
    rw[hcell j1 j2]at q4;injection q4 with q4;subst q4
    rw[k3]at j3;injection j3 with j3;injection j3 with j3;subst j3
    rw[k4]at j4;injection j4 with j4;subst j4
    obtain⟨s1,s2⟩:=((hD e k3).2 o k4).ne (pS r) c (pS r') c' _ _ _ _ k k6 j6 k5 j5 q5 q6;obtain⟨ra,t1,_⟩:=wN.1 q1;obtain⟨rb,t2,_⟩:=wN.1 q2;exact⟨hinj r r' (zf.1 t1).1 (zf.1 t2).1 s1,s2⟩
 have hfn:∀k,wq (K++ [some x]) w' (.loc nx) (.deep false es D') k->k=x.g\/wq K w (.loc i) (.deep false es D) k:=fun k f=>by
  rcases f.of hnew with rfl|f
  exact .inl rfl
  .simp only[wZ]at f;obtain⟨o,r,c,y,v,f1,f2,f3,f4⟩:=f;rw[h2]at f1;injection f1 with f1;subst f1
   obtain⟨ya,yb⟩:=y;obtain⟨fC,v1,e,o,k1,k2,k3,k4,k5,k6,k7⟩:=kg r c ya yb f2;rw[hcell k1 k2]at f3;injection f3 with f3;subst f3
   exact .inr (i7 k3 k4 k5 k6 f4)
 have hold:∀{j h k},wu j O=some h->wq (K++ [some x]) w' (.loc j) h k->wq K w (.loc j) h k:=fun{j h k} hj f=>H.stands hpre hj (fun k f=>hf.block k ((H.own.1 j h hj).1.wY f) (fun h=>h)) f
 have hlk:∀{j h},wu j ((nx,Hp.deep false es D')::qy i O)=some h->(j=nx/\h= .deep false es D')\/(j≠nx/\j≠i/\wu j O=some h):=fun{j h} hj=>by
  rw[Za]at hj;split at hj
  rename_i e;injection hj with hj;exact .inl ⟨e,hj.symm⟩
  .rename_i e;by_cases e2:j=i
   subst e2;rw[Yh]at hj;cases hj;rw[XZ _ _ _ e2]at hj;exact .inr ⟨e,e2,hj⟩
 refine⟨H.pre.trans hpre,by simp[H.len],⟨fun j h hj=>?_,fun j j' h h' k hj hj' hne f f'=>?_⟩,H2.fr,H.qN⟩
 .rcases hlk hj with⟨rfl,rfl⟩|⟨_,_,hj⟩
  .refine⟨H6,fun k f=>?_⟩;rcases hfn k f with rfl|f
   exact .inr (by omega);exact hF k f
  exact⟨(H2.own.1 j h hj).1.mono hpre,fun k f=>(H.own.1 j h hj).2 k (hold hj f)⟩
 .rcases hlk hj with⟨e1,e2⟩|⟨n1,n2,g1⟩<;>rcases hlk hj' with⟨e3,e4⟩|⟨n3,n4,g2⟩
  exact hne (e1.trans e3.symm)
  .subst e1 e2;have f':=hold g2 f';rcases hfn k f with rfl|f
   have:=(H.own.1 _ _ g2).1.wY f';omega;exact H.own.2 i j' _ _ k hi g2 (yX n4) f f'
  .subst e3 e4;have f:=hold g1 f;rcases hfn k f' with rfl|f'
   have:=(H.own.1 _ _ g1).1.wY f;omega;exact H.own.2 j i _ _ k g1 hi n2 f f'
  exact H.own.2 j j' _ _ k g1 g2 hne (hold g1 f) (hold g2 f')
end
