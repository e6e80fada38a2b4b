/- Part 36: Dull. Conditions: as each part says. -/
import Derived.Test.YtlcbipfmodcedaaGreatDoorCiso7
set_option linter.unusedVariables false
set_option linter.unusedSimpArgs false
namespace Go.Sx
open Go Go.Our
inductive qI:List DC->List DC->Prop
 |nil:qI [] []
 |keep {d:DC} {r r':List DC} (h:qI r r'):qI (d::r) (d::r')
 |cD {d:DC} {r r':List DC} (h:qI r r'):qI (d::r) (.v .any::r')
structure kF(rs rs':List (List DC)):Prop where
 len:rs'.length=rs.length
 row:∀(r:Nat) (row':List DC),rs'[r]?=some row'->∃row:List DC,rs[r]?=some row/\qI row row'
theorem qI.len{r r':List DC}(h:qI r r'):r'.length=r.length:=by
 induction h with
 |nil=>rfl
 |keep _ ih=>simp[ih]
 |cD _ ih=>simp[ih]
theorem qI.refl:∀r:List DC,qI r r
 | []=> .nil
 |d::r=> .keep (qI.refl r)
theorem qI.get{r r':List DC}(h:qI r r'):∀{c:Nat} {d':DC},r'[c]?=some d'->∃d,r[c]?=some d/\(d'=d\/d'= .v .any):=by
 induction h with
 |nil=>intro c d' h;simp at h
 | @keep d r r' h ih=>
   intro c d' hc;cases c with
   |zero=>simp only[List.getElem?_cons_zero,zh]at hc;exact⟨d,rfl, .inl hc.symm⟩
   |succ c=>exact ih (by simpa using hc)
 | @cD d r r' h ih=>
   intro c d' hc;cases c with
   |zero=>simp only[List.getElem?_cons_zero,zh]at hc;exact⟨d,rfl, .inr hc.symm⟩
   |succ c=>exact ih (by simpa using hc)
theorem qI.den{r r':List DC}(h:qI r r'){X:Env}:∀{vs:List Value},vX X (r.map Y0) vs->vX X (r'.map Y0) vs:=by
 induction h with
 |nil=>exact fun h=>h
 | @keep d r r' h ih=>
   intro vs hd;simp only[zL,vX]at hd⊢;obtain⟨u,us,h1,h2,h3⟩:=hd;exact⟨u,us,h1,h2,ih h3⟩
 | @cD d r r' h ih=>
   intro vs hd;simp only[zL,vX]at hd⊢;obtain⟨u,us,h1,h2,h3⟩:=hd;exact⟨u,us,h1,by simp only[Y0,Den],ih h3⟩
theorem kF.uC{rs rs':List (List DC)}(h:kF rs rs'){i j:Nat}{x:Nat×List (List SV)}(hk:Yy rs' i j=some x):Yy rs i j=some x:=by
 obtain⟨es,rows⟩:=x;obtain⟨row',h1,h2⟩:=uB.1 hk;obtain⟨row,h3,h4⟩:=h.row i row' h1;obtain⟨d,h5,h6|h6⟩:=h4.get h2;subst h6;exact uB.2 ⟨row,h3,h5⟩;cases h6
theorem kF.flat{rs rs':List (List DC)}(h:kF rs rs'){r:Nat}{row:List SV}(hr:(ZA rs')[r]?=some row):∃r1 r2,rs[r]?=some r1/\qI r1 r2/\row=r2.map Y0/\(ZA rs)[r]?=some (r1.map Y0):=by
 unfold ZA at hr⊢;rw[z7]at hr;obtain⟨r2,h1,rfl⟩:=zH.1 hr;obtain⟨r1,h2,h3⟩:=h.row r r2 h1;exact⟨r1,r2,h2,h3,rfl,by rw[z7,h2];rfl⟩
theorem kF.refl(rs:List (List DC)):kF rs rs:=⟨rfl,fun r row h=>⟨row,h,qI.refl row⟩⟩
theorem vV.cD{X:Env}{w:World}{own:Bool}{b:wG}{mp:Bool}{es:Nat}{rs rs':List (List DC)}(d:vV X w own b (.deep mp es rs))(h:kF rs rs'):vV X w own b (.deep mp es rs'):=by
 have hK:uS X w b es rs->uS X w b es rs':=fun hD e he=>by
  obtain⟨h1,h2⟩:=hD e he;exact⟨h1,fun o ho=>⟨fun i j es' rows hk=>(h2 o ho).sat i j es' rows (h.uC hk),fun i j i' j' x x' v v' k k1 k2=>(h2 o ho).ne i j i' j' x x' v v' k (h.uC k1) (h.uC k2)⟩⟩
 have hl:(ZA rs').length=(ZA rs).length:=by simp[ZA,h.len]
 cases mp
 .simp only[vV,uQ]at d⊢;refine⟨?_,hK d.2⟩;rcases d.1 with⟨h1,h2⟩|⟨e,arr,T,fz,h1,h2,h3,h4⟩
  refine .inl ⟨h1,zO.1 (by rw[hl,h2];rfl)⟩
  .refine .inr ⟨e,arr,T,fz,h1,h2,(by rw[hl];exact h3),fun i row hr=>?_⟩;obtain⟨r1,r2,k1,k2,rfl,k4⟩:=h.flat hr;obtain⟨k5,k6⟩:=h4 i _ k4;refine⟨by rw[zj,k2.len,<-k5,zj],fun j sv hj=>?_⟩;rw[z7]at hj;obtain⟨d',k7,rfl⟩:=zH.1 hj;obtain⟨d0,k8,k9⟩:=k2.get k7;obtain⟨v,g1,g2,g3⟩:=k6 j (Y0 d0) (by rw[z7,k8];rfl);rcases k9 with rfl|rfl
   exact⟨v,g1,g2,g3⟩;exact⟨v,g1,g2,by simp only[Y0,Den]⟩
 .simp only[vV,gu]at d⊢;obtain⟨⟨⟨e,uN,h1,h2,h3,h4,h5⟩,h6⟩,h7⟩:=d;refine⟨⟨⟨e,uN,h1,h2,h3,by rw[hl];exact h4,fun i row hr=>?_⟩,h6⟩,hK h7⟩;obtain⟨r1,r2,k1,k2,rfl,k4⟩:=h.flat hr;obtain⟨en,g1,g2,g3⟩:=h5 i _ k4;exact⟨en,g1,g2,k2.den g3⟩
theorem wZ.no{J:Type}{r:Option (Nat×DC)}{A:Nat->DC->J->Prop}{B:J->Prop}{j:J}(h:r=none)(k:B j):wZ r A B j:=⟨(fun a d e=>by rw[h]at e;cases e),fun _=>k⟩
section
variable {M:Mx}{X:Env}{w:World}{O O1:u0}{nx n1 n2:Nat}{fr qh fK:Fr}{O2:u0}
theorem uZ.cD(i:Nat){mp:Bool}{es:Nat}{rs rs':List (List DC)}(hi:u6 i O=some (.deep mp es rs))(hd:kF rs rs'):uZ M O nx (uO i (.deep mp es rs') O) nx:=by
 refine⟨fun X w H=>⟨X,zx,H.tV hi ((H.own.1 i _ hi).1.cD hd) fun n f=>?_⟩⟩;obtain⟨e,he,f⟩:=f;rcases f with rfl|f
 exact u5.own he
 .obtain⟨o,a,b,x,v,h1,h2,h3,h4⟩:=f;exact⟨e,he, .inr ⟨o,a,b,x,v,h1,hd.uC h2,h3,h4⟩⟩
end
end Go.Sx
namespace Go.Our
open Go.Sx
section
variable {Y Z:Type}[DecidableEq Y](K:ah Y)
def YH(h:Y->Z->DC)(l:List (Y×Z)):List (List DC):=l.map fun p=>[.v (K.enc p.1),h p.1 p.2]
theorem SR(es:Nat)(f:Z->List (List SV))(l:List (Y×Z)):YG K es f l=YH K (fun _ v=> .uC es (f v)) l:=rfl
theorem Et(h:Y->Z->DC)(a:Y):∀(l:List (Y×Z)) (i:Nat),findD K.ks (K.enc a) i (YH K h l)=(js a l).map fun p=>(i+p.1,h a p.2)
 | [],i=>rfl
 |(k,v)::r,i=>by
  have ih:=Et h a r (i+1);simp only[YH,zL,findD,Y0,K.is,js]at ih⊢;by_cases e:a=k
  subst e;simp
  .simp only[e,decide_false,xm,ih,vP];congr 1;funext p;simp only[Function.comp,yF,vp];omega
theorem Ai(h:Y->Z->DC)(l:List (Y×Z)):Jn K.ks (ZA (YH K h l)):=by
 intro r hr;unfold ZA YH at hr;rw[yq]at hr;obtain⟨p,_,rfl⟩:=zM.1 hr;exact⟨_,_,rfl,K.ok _⟩
theorem Aj(h:Y->Z->DC)(d:DC){a:Y}{l:List (Y×Z)}{i:Nat}{u:Z}(hn:(l.map Prod.fst).Nodup)(hi:js a l=some (i,u)):(YH K h l).modify i (jU d)=YH K (fun k v=>if k=a then d else h k v) l:=by
 unfold YH;have hr:=KN hi;apply yj;intro j;rw[ym,z7,z7];by_cases e:i=j
 .subst e;rw[hr];simp[jU]
 .cases hj:l[j]? with
  |none=>simp
  |some p=>
   have hp:¬p.1=a:=fun e1=>by
    obtain⟨h1,h2⟩:=zg.1 hr;obtain⟨h3,h4⟩:=zg.1 hj;have:=(yZ (h₀:=by simpa using h1) (h₁:=by simpa using h3) hn).1 (by rw[y9,y9,h2,h4,e1]);exact e this
   simp[e,hp]
theorem SU{h h':Y->Z->DC}{l:List (Y×Z)}(hd:∀k v,h' k v=h k v\/h' k v= .v .any):kF (YH K h l) (YH K h' l):=by
 refine⟨by simp[YH],fun r row' hr=>?_⟩;unfold YH at hr⊢;rw[z7]at hr;obtain⟨p,h1,rfl⟩:=zH.1 hr;refine⟨_,by rw[z7,h1];rfl, .keep ?_⟩;rcases hd p.1 p.2 with e|e
 rw[e];exact .keep .nil;rw[e];exact .cD .nil
theorem GU{h:Y->Z->DC}(hp:∀k v,Jl (h k v)=true):∀l:List (Y×Z),ZD (YH K h l)=true
 | []=>rfl
 |p::l=>by
  have:=GU hp l;have h2:=hp p.1 p.2;unfold YH at this⊢;rw[zL,ZD,this,Yi,Yi,Yi,h2];simp[Jl,K.pl]
end
end Go.Our
