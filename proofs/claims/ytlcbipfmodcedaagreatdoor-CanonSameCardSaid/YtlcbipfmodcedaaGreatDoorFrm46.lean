/- Part 46: TreeM, PosM, FormM. Conditions: as each part says. -/
import Derived.Test.YtlcbipfmodcedaaGreatDoorFrm24
import Derived.Test.YtlcbipfmodcedaaGreatDoorFrm43
set_option linter.unusedVariables false
set_option linter.unusedSimpArgs false
namespace Go.Our
open Go.Sx Go.Lib
def w9(cl:List Int)(c:Int):List Nat:=(List.range cl.length).filter fun x=>decide (cl.getD x 0=c)
def J5(cl:List Int):Option Nat:=(List.range cl.length).find? fun c=>decide (1< (w9 cl (c:Int)).length)
def XO(cl:List Int)(c:Int)(x:Nat):List Int:=(List.range cl.length).map fun y=>if y≠x/\cl.getD y 0=c then c+1 else cl.getD y 0
theorem HO(cl:List Int)(c:Int)(x:Nat):(XO cl c x).length=cl.length:=by simp[XO]
open Classical in
noncomputable def fG (A:List LB)(l:List Qd)(cl:List Int):List Int:=if h:∃F,Refs A l cl F then h.choose else []
theorem HP{A:List LB}{l:List Qd}{cl F:List Int}(h:Refs A l cl F):fG A l cl=F:=by
 have hx:∃F,Refs A l cl F:=⟨F,h⟩;unfold fG;rw[yp hx];exact h.Mq hx.choose_spec
noncomputable def Vr (A:List LB)(l:List Qd)(B:Nat):Nat->List Int->Nat×List (List Int)->Nat×List (List Int)
 |0,_,s=>s
 |k+1,cl,s=>if B<s.1+1 then(s.1+1,s.2)else match J5 cl with
  |none=>(s.1+1,s.2++ [cl])
  |some c=>(w9 cl (c:Int)).foldl (fun s x=>if B<s.1 then s else Vr A l B k (fG A l (XO cl (c:Int) x)) s) (s.1+1,s.2)
noncomputable def UI (A:List LB)(l:List Qd)(B k:Nat)(cl:List Int)(c:Int)(xs:List Nat)(s:Nat×List (List Int)):Nat×List (List Int):=
 xs.foldl (fun s x=>if B<s.1 then s else Vr A l B k (fG A l (XO cl c x)) s) s
section
variable {A:List LB}{l:List Qd}{B:Nat}
theorem W8{k:Nat}{cl:List Int}{s:Nat×List (List Int)}(h:B<s.1+1):Vr A l B (k+1) cl s=(s.1+1,s.2):=by
 unfold Vr;rw[zf h]
theorem W9{k:Nat}{cl:List Int}{s:Nat×List (List Int)}(h:¬B<s.1+1)(hs:J5 cl=none):Vr A l B (k+1) cl s=(s.1+1,s.2++ [cl]):=by
 unfold Vr;rw[z7 h,hs]
theorem Wa{k c:Nat}{cl:List Int}{s:Nat×List (List Int)}(h:¬B<s.1+1)(hs:J5 cl=some c):Vr A l B (k+1) cl s=UI A l B k cl (c:Int) (w9 cl (c:Int)) (s.1+1,s.2):=by
 unfold Vr;rw[z7 h,hs];rfl
theorem Vs{k:Nat}{cl:List Int}{c:Int}:∀{xs:List Nat} {s:Nat×List (List Int)},B<s.1->UI A l B k cl c xs s=s
 | [],s,_=>rfl
 |x::xs,s,h=>by
  unfold UI;rw[List.foldl_cons,zf h];exact Vs (xs:=xs) h
theorem Wb{k:Nat}{cl:List Int}{c:Int}{x:Nat}{xs:List Nat}{s:Nat×List (List Int)}(h:¬B<s.1):UI A l B k cl c (x::xs) s=UI A l B k cl c xs (Vr A l B k (fG A l (XO cl c x)) s):=by
 unfold UI;rw[List.foldl_cons,z7 h]
theorem Zf1{k:Nat}{cl:List Int}{c:Int}{xs:List Nat}{i:Nat}{s:Nat×List (List Int)}(hi:i<xs.length)(h:¬B<s.1):UI A l B k cl c (xs.drop i) s=UI A l B k cl c (xs.drop (i+1)) (Vr A l B k (fG A l (XO cl c xs[i])) s):=by
 rw[zm hi,Wb h]
theorem HQ:∀(k:Nat) (cl:List Int) (s:Nat×List (List Int)),s.1<=(Vr A l B k cl s).1
 |0,_,_=>zo _
 |k+1,cl,s=>by
  have go:∀(c:Int) (xs:List Nat) (s:Nat×List (List Int)),s.1<=(UI A l B k cl c xs s).1:=fun c xs=>by
   induction xs with
   |nil=>exact fun s=>zo _
   |cons x xs ih=>
    intro s;by_cases h:B<s.1
    rw[Vs h];exact zo _
    .rw[Wb h];exact zO (HQ k _ s) (ih _)
  by_cases h:B<s.1+1
  rw[W8 h];show s.1<=s.1+1;omega
  .cases hs:J5 cl with
   |none=>rw[W9 h hs];show s.1<=s.1+1;omega
   |some c=>
    rw[Wa h hs];have:=go (c:Int) (w9 cl (c:Int)) (s.1+1,s.2);dsimp only at this;omega
theorem RU:∀(k:Nat) (cl:List Int) (s:Nat×List (List Int)),s.1<=B->(Vr A l B k cl s).1<=B+1
 |0,_,s,h=>by show s.1<=B+1;omega
 |k+1,cl,s,h0=>by
  have go:∀(c:Int) (xs:List Nat) (s:Nat×List (List Int)),s.1<=B+1->(UI A l B k cl c xs s).1<=B+1:=fun c xs=>by
   induction xs with
   |nil=>exact fun s h=>h
   |cons x xs ih=>
    intro s hb;by_cases h:B<s.1
    rw[Vs h];exact hb
    .rw[Wb h];exact ih _ (RU k _ s (by omega))
  by_cases h:B<s.1+1
  rw[W8 h];show s.1+1<=B+1;omega
  .cases hs:J5 cl with
   |none=>rw[W9 h hs];show s.1+1<=B+1;omega
   |some c=>rw[Wa h hs];exact go _ _ _ (by show s.1+1<=B+1;omega)
end
def YQ(fm:List Int->List Qd):Option (List Qd×List Int)->List Int->Option (List Qd×List Int)
 |none,cl=>some (fm cl,cl)
 |some p,cl=>if Y6 (fm cl) p.1<0 then some (fm cl,cl)else some p
def JV(fm:List Int->List Qd)(Ls:List (List Int)):Option (List Qd×List Int):=Ls.foldl (YQ fm) none
theorem RV(fm:List Int->List Qd)(Ls:List (List Int))(cl:List Int):JV fm (Ls++ [cl])=YQ fm (JV fm Ls) cl:=by
 unfold JV;rw[vh];rfl
theorem HR(fm:List Int->List Qd):JV fm []=none:=rfl
theorem HS(fm:List Int->List Qd){Ls:List (List Int)}(h:Ls≠ []):∃cl∈Ls,JV fm Ls=some (fm cl,cl):=by
 have go:∀(Ls:List (List Int)) (o:Option (List Qd×List Int)),Ls≠ []->(∃cl∈Ls,Ls.foldl (YQ fm) o=some (fm cl,cl))\/(o≠none/\Ls.foldl (YQ fm) o=o):=by
  intro Ls
  induction Ls with
  |nil=>exact fun o h=>(h rfl).elim
  |cons x Ls ih=>
   intro o _;rw[List.foldl_cons]
   have step:YQ fm o x=some (fm x,x)\/(o≠none/\YQ fm o x=o):=by
    cases o with
    |none=>exact .inl rfl
    |some p=>
     have e:YQ fm (some p) x=if Y6 (fm x) p.1<0 then some (fm x,x)else some p:=rfl
     rw[e];by_cases h:Y6 (fm x) p.1<0
     rw[zf h];exact .inl rfl;rw[z7 h];exact .inr ⟨by simp,rfl⟩
   by_cases hL:Ls=[]
   .subst hL;rcases step with h|h
    exact .inl ⟨x,vO _,h⟩;exact .inr h
   .rcases ih (YQ fm o x) hL with⟨cl,h1,h2⟩|⟨h1,h2⟩
    exact .inl ⟨cl,zK _ h1,h2⟩
    .rcases step with h|⟨h3,h4⟩
     exact .inl ⟨x,zJ ..,by rw[h2,h]⟩;exact .inr ⟨h3,by rw[h2,h4]⟩
 rcases go Ls none h with h1|⟨h1,_⟩
 exact h1;exact(h1 rfl).elim
end Go.Our
namespace Go.Our
open Go.Sx Go.Lib
def cW(m:List (Int×List Nat))(p:Int×Nat):List (Int×List Nat):=wM p.1 ((wL p.1 m).getD []++ [p.2]) m
def Qc(cl:List Int)(i:Nat):List (Int×Nat):=(List.range i).map fun x=>(cl.getD x 0,x)
def oq(cl:List Int)(i:Nat):List (Int×List Nat):=(Qc cl i).foldl cW []
theorem Zgx(m:List (Int×List Nat))(p:Int×Nat)(c:Int):(wL c (cW m p)).getD []=(wL c m).getD []++if p.1=c then [p.2]else []:=by
 unfold cW;rw[Kr];by_cases e:c=p.1
 subst e;simp;rw[z7 e,z7 (yY e),zP]
theorem RW(c:Int):∀(ps:List (Int×Nat)) (m:List (Int×List Nat)),(wL c (ps.foldl cW m)).getD []=(wL c m).getD []++(ps.filter fun p=>decide (p.1=c)).map Prod.snd
 | [],m=>by simp
 |p::ps,m=>by
  rw[List.foldl_cons,RW c ps,Zgx,vz];by_cases e:p.1=c
  simp[e];simp[e]
theorem RX(cl:List Int)(i:Nat)(c:Int):(wL c (oq cl i)).getD []=(List.range i).filter fun x=>decide (cl.getD x 0=c):=by
 unfold oq;rw[RW];unfold Qc;rw[List.filter_map,xo];show []++_=_
 rw[List.nil_append];conv=>rhs;rw[<-List.map_id (List.filter _ _)]
 rfl
theorem ZiN(cl:List Int)(c:Int):(wL c (oq cl cl.length)).getD []=w9 cl c:=RX cl cl.length c
theorem Zkk(cl:List Int)(i:Nat)(c:Int):((wL c (oq cl i)).getD []).length<=i:=by
 rw[RX];exact zO (vo ..) (by simp)
theorem Zf4(cl:List Int)(i:Nat):((oq cl i).map Prod.fst).Nodup:=by
 have go:∀(ps:List (Int×Nat)) (m:List (Int×List Nat)),(m.map Prod.fst).Nodup->((ps.foldl cW m).map Prod.fst).Nodup:=by
  intro ps
  induction ps with
  |nil=>exact fun m h=>h
  |cons p ps ih=>exact fun m h=>ih _ (ZcD h)
 exact go _ [] (by simp)
theorem Zgy(cl:List Int)(i:Nat):oq cl (i+1)=wM (cl.getD i 0) ((wL (cl.getD i 0) (oq cl i)).getD []++ [i]) (oq cl i):=by
 unfold oq Qc;rw[List.range_succ,yz,vh];rfl
theorem ZiO(cl:List Int)(i:Nat):(oq cl i).length<=i:=by
 have go:∀(ps:List (Int×Nat)) (m:List (Int×List Nat)),(ps.foldl cW m).length<=m.length+ps.length:=by
  intro ps
  induction ps with
  |nil=>exact fun m=>zo _
  |cons p ps ih=>
   intro m;refine zO (ih _) ?_
   have:(cW m p).length<=m.length+1:=by
    unfold cW;rw[<-zy (f:=Prod.fst),BT];split<;>simp
   rw[List.length_cons];omega
 have h:=go (Qc cl i) [];have e:(Qc cl i).length=i:=by simp[Qc]
 rw[e,List.length_nil,zx]at h;exact h
theorem BW(cl:List Int)(c:Int):(w9 cl c).length<=cl.length:=by
 unfold w9;exact zO (vo ..) (by simp)
theorem RY{K:Type}{p:K->Bool}:∀{l:List K} {i:Nat} (h:i<l.length),p l[i]=true->(∀j (hj:j<i),p (l[j]'(by omega))=false)->l.find? p=some l[i]
 |x::l,0,h,h1,_=>by rw[List.find?_cons];simp only[List.getElem_cons_zero]at h1;rw[h1];rfl
 |x::l,i+1,h,h1,h2=>by
  have h0:=h2 0 (by omega);simp only[List.getElem_cons_zero]at h0;rw[List.find?_cons,h0];simp only[List.getElem_cons_succ]at h1⊢;exact RY (by simpa using h) h1 fun j hj=>by have:=h2 (j+1) (by omega);simpa using this
theorem ZcE{p:Nat->Bool}{n c:Nat}(hc:c<n)(h:p c=true)(hb:∀d,d<c->p d=false):(List.range n).find? p=some c:=by
 have hl:c< (List.range n).length:=by simpa using hc
 have:=RY (p:=p) hl (by simpa using h) (fun j hj=>by simpa using hb j hj);simpa using this
theorem jT{cl:List Int}{c:Int}{x:Nat}:x∈w9 cl c<->x<cl.length/\cl.getD x 0=c:=by
 unfold w9;rw[List.mem_filter,yj,yx]
def jF(cl:List Int)(x:Nat)(T:List Nat):List Int:=(List.range cl.length).map fun z=>if z≠x/\z∈T then cl.getD z 0+1 else cl.getD z 0
theorem Qe(cl:List Int)(x:Nat)(T:List Nat):(jF cl x T).length=cl.length:=by simp[jF]
theorem Qf{cl:List Int}{x:Nat}{T:List Nat}{z:Nat}(h:z< (jF cl x T).length):(jF cl x T)[z]=if z≠x/\z∈T then cl.getD z 0+1 else cl.getD z 0:=by
 simp only[jF,yg,yS]
theorem Zgz(cl:List Int)(x:Nat):jF cl x []=cl:=by
 apply yV (Qe _ _ _);intro z h1 h2;rw[Qf,z7 (by simp),zl,z1 h2];rfl
theorem ZgA(cl:List Int)(x:Nat)(T:List Nat):jF cl x (T++ [x])=jF cl x T:=by
 apply yV (by rw[Qe,Qe]);intro z h1 h2;rw[Qf,Qf];by_cases e:z=x
 rw[z7 (fun h=>h.1 e),z7 (fun h=>h.1 e)];simp[e]
theorem ZiP{cl:List Int}{x t:Nat}{T:List Nat}(hx:t≠x)(ht:t<cl.length):(jF cl x T).set t (cl.getD t 0+1)=jF cl x (T++ [t]):=by
 apply yV (by rw[xO,Qe,Qe]);intro z h1 h2;rw[vA,Qf,Qf];by_cases e:t=z
 .subst e;rw[zf rfl,zf ⟨hx,by simp⟩]
 .rw[z7 e];have:z∈T++ [t]<->z∈T:=by simp[yY e]
  simp only[this]
theorem ZiQ{cl:List Int}{x t:Nat}{T:List Nat}(hT:t∉T)(ht:t<cl.length):(jF cl x T)[t]?=some (cl.getD t 0):=by
 rw[z1 (by rw[Qe];exact ht),Qf,z7 (fun h=>hT h.2)]
theorem ZiR(cl:List Int)(c:Int)(x:Nat):jF cl x (w9 cl c)=XO cl c x:=by
 unfold jF XO;refine yy fun z hz=>?_;have hzl:=yj.1 hz;by_cases h:z≠x/\cl.getD z 0=c
 rw[zf ⟨h.1,jT.2 ⟨hzl,h.2⟩⟩,zf h,h.2];rw[z7 (fun h2=>h ⟨h2.1,(jT.1 h2.2).2⟩),z7 h]
theorem ZcF(cl:List Int)(c:Int):(w9 cl c).Nodup:=xJ.filter _
theorem RZ{cl:List Int}{c:Nat}(h:J5 cl=some c):c<cl.length:=by
 unfold J5 at h;exact yj.1 (List.mem_of_find?_eq_some h)
theorem ZgB{cl:List Int}{c:Nat}(hc:c<cl.length)(h:1< (w9 cl (c:Int)).length)(hb:∀d,d<c->¬1< (w9 cl (d:Int)).length):J5 cl=some c:=by
 unfold J5;have:=ZcE (n:=cl.length) (p:=fun c:Nat=>decide (1< (w9 cl (c:Int)).length)) hc (by simpa using h) (fun d hd=>by simpa using hb d hd);exact this
theorem ZgC{cl:List Int}(hb:∀d,d<cl.length->¬1< (w9 cl (d:Int)).length):J5 cl=none:=by
 unfold J5;rw[List.find?_eq_none];intro d hd;simpa using hb d (yj.1 hd)
theorem S0{A:List LB}{l:List Qd}{B:Nat}:∀(k:Nat) (cl:List Int) (s:Nat×List (List Int)),B<s.1+k->(Vr A l B k cl s).1<=B->s.2.length< (Vr A l B k cl s).2.length
 |0,cl,s,h1,h2=>by have h3:s.1<=B:=h2;omega
 |k+1,cl,s,h1,h2=>by
  have go:∀(c:Int) (xs:List Nat) (s:Nat×List (List Int)),B<s.1+k->(UI A l B k cl c xs s).1<=B->s.2.length<=(UI A l B k cl c xs s).2.length/\(xs≠ []->s.2.length< (UI A l B k cl c xs s).2.length):=fun c xs=>by
   induction xs with
   |nil=>exact fun s _ _=>⟨zo _,fun h=>(h rfl).elim⟩
   |cons x xs ih=>
    intro s h3 h4;by_cases h:B<s.1
    rw[Vs h]at h4;omega
    .rw[Wb h]at h4⊢;have hg:=HQ (A:=A) (l:=l) (B:=B) k (fG A l (XO cl c x)) s;by_cases h5:B< (Vr A l B k (fG A l (XO cl c x)) s).1
     rw[Vs h5]at h4;omega
     .have h6:=S0 k (fG A l (XO cl c x)) s h3 (Nat.le_of_not_lt h5);have h7:=ih (Vr A l B k (fG A l (XO cl c x)) s) (by omega) h4;exact⟨by omega,fun _=>by omega⟩
  by_cases h:B<s.1+1
  rw[W8 h]at h2;dsimp only at h2;omega
  .cases hs:J5 cl with
   |none=>rw[W9 h hs];simp
   |some c=>
    rw[Wa h hs]at h2⊢;have h8:=go (c:Int) (w9 cl (c:Int)) (s.1+1,s.2) (by dsimp only;omega) h2;refine h8.2 fun e=>?_;unfold J5 at hs;have:=List.find?_some hs;simp[e]at this
def jG(cl:List Int)(i:Nat):List Int:=(List.range cl.length).map fun c:Nat=>(((List.range i).filter fun x=>decide (cl.getD x 0=(c:Int))).length:Int)
theorem BX(cl:List Int)(i:Nat):(jG cl i).length=cl.length:=by simp[jG]
theorem BZ{cl:List Int}{i c:Nat}(h:c< (jG cl i).length):(jG cl i)[c]=(((List.range i).filter fun x=>decide (cl.getD x 0=(c:Int))).length:Int):=by simp only[jG,yg,yS]
theorem ZgD(cl:List Int):jG cl 0=List.replicate cl.length 0:=by
 unfold jG;rw[vp];simp
theorem S1{cl:List Int}{i c:Nat}(h:c<cl.length):(jG cl i)[c]?=some (((List.range i).filter fun x=>decide (cl.getD x 0=(c:Int))).length:Int):=by
 rw[z1 (by rw[BX];exact h),BZ]
theorem ZiS{cl:List Int}{c:Nat}(h:c<cl.length):(jG cl cl.length)[c]?=some ((w9 cl (c:Int)).length:Int):=S1 h
theorem ZgE{cl:List Int}{i c:Nat}(hi:i<cl.length)(hc:cl.getD i 0=(c:Int))(kg:c<cl.length):(jG cl i).set c ((((List.range i).filter fun x=>decide (cl.getD x 0=(c:Int))).length:Int)+1)=jG cl (i+1):=by
 apply yV (by rw[xO,BX,BX]);intro d h1 h2;rw[vA,BZ,BZ,List.range_succ,List.filter_append,zh];by_cases e:c=d
 .subst e;rw[zf rfl,vz,zf (by simpa using hc)];simp
 .rw[z7 e,vz,z7 (by rw[yx,hc];omega)];simp
def ia(cl:List Int)(k:Nat):Int:=match((List.range cl.length).drop k).find? fun c:Nat=>decide (1< (w9 cl (c:Int)).length)with|some c=>(c:Int)|none=> -1
theorem ZgF(cl:List Int):ia cl cl.length= -1:=by
 unfold ia;rw[List.drop_of_length_le (by simp)];rfl
theorem Zf8{cl:List Int}{k:Nat}(h:k<cl.length):ia cl k=if 1< (w9 cl (k:Int)).length then(k:Int)else ia cl (k+1):=by
 unfold ia;rw[zm (by simpa using h),List.find?_cons];simp only[yS];by_cases e:1< (w9 cl (k:Int)).length
 rw[yq e,zf e];rw[y5 e,z7 e]
theorem Zf9(cl:List Int):ia cl 0=match J5 cl with|some c=>(c:Int)|none=> -1:=rfl
def lD(cl:List Int)(c:Int)(x:Nat):List Nat:=((List.range cl.length).drop x).filter fun y=>decide (cl.getD y 0=c)
theorem Zfa(cl:List Int)(c:Int):lD cl c 0=w9 cl c:=rfl
theorem ZgG(cl:List Int)(c:Int):lD cl c cl.length=[]:=by
 unfold lD;rw[List.drop_of_length_le (by simp)];rfl
theorem Zfb{cl:List Int}{c:Int}{x:Nat}(h:x<cl.length):lD cl c x=if cl.getD x 0=c then x::lD cl c (x+1)else lD cl c (x+1):=by
 unfold lD;rw[zm (by simpa using h),vz];simp only[yS,yx]
def cZ(cl:List Int)(c:Int)(x y:Nat):List Int:=(List.range cl.length).map fun z=>if z<y/\z≠x/\cl.getD z 0=c then c+1 else cl.getD z 0
theorem HT(cl:List Int)(c:Int)(x y:Nat):(cZ cl c x y).length=cl.length:=by simp[cZ]
theorem HU{cl:List Int}{c:Int}{x y z:Nat}(h:z< (cZ cl c x y).length):(cZ cl c x y)[z]=if z<y/\z≠x/\cl.getD z 0=c then c+1 else cl.getD z 0:=by simp only[cZ,yg,yS]
theorem ZiT(cl:List Int)(c:Int)(x:Nat):cZ cl c x 0=cl:=by
 apply yV (HT _ _ _ _);intro z h1 h2;rw[HU,z7 (fun h=>absurd h.1 (by omega)),zl,z1 h2];rfl
theorem Zkl(cl:List Int)(c:Int)(x:Nat):cZ cl c x cl.length=XO cl c x:=by
 unfold cZ XO;refine yy fun z hz=>?_;have hzl:=yj.1 hz;by_cases h:z≠x/\cl.getD z 0=c
 rw[zf ⟨hzl,h⟩,zf h];rw[z7 (fun h2=>h h2.2),z7 h]
theorem ZiU{cl:List Int}{c:Int}{x y:Nat}(h:¬(y≠x/\cl.getD y 0=c)):cZ cl c x (y+1)=cZ cl c x y:=by
 unfold cZ;refine yy fun z hz=>?_;by_cases e:z<y/\z≠x/\cl.getD z 0=c
 rw[zf ⟨by omega,e.2⟩,zf e]
 .rw[z7 (fun h2=>?_),z7 e];rcases zY z y with h3|h3
  exact e ⟨h3,h2.2⟩
  .have:z=y:=by omega
   subst this;exact h h2.2
theorem Zkm{cl:List Int}{c:Int}{x y:Nat}(hy:y<cl.length)(h:y≠x/\cl.getD y 0=c):(cZ cl c x y).set y (c+1)=cZ cl c x (y+1):=by
 apply yV (by rw[xO,HT,HT]);intro z h1 h2;rw[vA,HU,HU];by_cases e:y=z
 .subst e;rw[zf rfl,zf ⟨by omega,h⟩]
 .rw[z7 e];by_cases e2:z<y/\z≠x/\cl.getD z 0=c
  rw[zf e2,zf ⟨by omega,e2.2⟩];rw[z7 e2,z7 (fun h3=>e2 ⟨by omega,h3.2⟩)]
theorem Zkn{cl:List Int}{c:Int}{x y:Nat}(hy:y<cl.length):(cZ cl c x y)[y]?=some (cl.getD y 0):=by
 rw[z1 (by rw[HT];exact hy),HU,z7 (fun h=>absurd h.1 (by omega))]
noncomputable def JM (A:List LB)(l:List Qd)(B:Nat):Nat×List (List Int):=Vr A l B (B+1) (fG A l (List.replicate A.length 0)) (0,[])
theorem S2{A:List LB}{l:List Qd}{B:Nat}(h:(JM A l B).1<=B):(JM A l B).2≠ []:=fun e=>by
 have:=S0 (A:=A) (l:=l) (B:=B) (B+1) (fG A l (List.replicate A.length 0)) (0,[]) (by dsimp only;omega) h;unfold JM at e;rw[e]at this;simp at this
def gG(c:Int):LB:=99::decDigits c.toNat
def JW(A:List LB)(cl:List Int)(t:Tm):Tm:=if t.k=2 then{t with t:=gG (cl.getD (A.idxOf t.t) 0)}else t
def UA(A:List LB)(cl:List Int)(q:Qd):Qd:=⟨JW A cl q.s,JW A cl q.p,JW A cl q.o,JW A cl q.g⟩
def ZA(A:List LB)(l:List Qd)(cl:List Int):List Qd:=(l.map (UA A cl)).mergeSort (q9 ZP)
theorem JX(A:List LB)(l:List Qd)(cl:List Int):(ZA A l cl).length=l.length:=by simp[ZA,yt]
def wC(A:List LB)(cl:List Int):List Pr:=(List.range A.length).map fun x=>(A.getD x [],gG (cl.getD x 0))
theorem XD(A:List LB)(cl:List Int):(wC A cl).length=A.length:=by simp[wC]
theorem Qg{A:List LB}{cl:List Int}{x:Nat}(h:x<A.length)(h':x< (wC A cl).length):(wC A cl)[x]=(A[x],gG (cl.getD x 0)):=by
 simp only[wC,yg,yS];rw[zl,z1 h,Option.getD_some]
theorem S6{K:Type}{p:K->Bool}:∀{l:List K} {i:Nat} (h:i<l.length),p l[i]=true->(∀j (hj:j<i),p (l[j]'(by omega))=false)->l.find? p=some l[i]
 |x::l,0,h,h1,_=>by rw[List.find?_cons];simp only[List.getElem_cons_zero]at h1;rw[h1];rfl
 |x::l,i+1,h,h1,h2=>by
  have h0:=h2 0 (by omega);simp only[List.getElem_cons_zero]at h0;rw[List.find?_cons,h0];simp only[List.getElem_cons_succ]at h1⊢;exact S6 (by simpa using h) h1 fun j hj=>by have:=h2 (j+1) (by omega);simpa using this
theorem Zko{A:List LB}{cl:List Int}(hn:A.Nodup){s:LB}(hs:s∈A):dM (wC A cl) s=some (gG (cl.getD (A.idxOf s) 0)):=by
 have hi:=y7 hs;have hA:A[A.idxOf s]=s:=yI hi;have hp:A.idxOf s< (wC A cl).length:=by rw[XD];exact hi
 unfold dM
 rw[S6 (p:=fun p:Pr=>decide (p.1=s)) hp (by rw[Qg hi];simp[hA]) (fun j hj=>by
  rw[Qg (by omega),yl];intro e;have:=(x9 hn).1 (e.trans hA.symm)
  omega)]
 rw[Option.map_some,Qg hi]
theorem HW{A:List LB}{cl:List Int}(hn:A.Nodup){t:Tm}(ht:t.k=2->t.t∈A):nX (wC A cl) t=JW A cl t:=by
 unfold nX JW;by_cases h:t.k=2
 rw[zf h,zf h,Zko hn (ht h)];rw[z7 h,z7 h]
theorem HX{q:Qd}{A:List LB}(h:∀s∈Zw q,s∈A):(q.s.k=2->q.s.t∈A)/\(q.p.k=2->q.p.t∈A)/\(q.o.k=2->q.o.t∈A)/\(q.g.k=2->q.g.t∈A):=by
 refine⟨fun e=>h _ ?_,fun e=>h _ ?_,fun e=>h _ ?_,fun e=>h _ ?_⟩<;>simp[Zw,Y0,e]
theorem ZcJ{A:List LB}{cl:List Int}(hn:A.Nodup){q:Qd}(h:∀s∈Zw q,s∈A):oE (wC A cl) q=UA A cl q:=by
 obtain⟨h1,h2,h3,h4⟩:=HX h;unfold oE UA;rw[HW hn h1,HW hn h2,HW hn h3,HW hn h4]
structure wH(A:List LB)(cl:List Int):Prop where
 cn:cl.length=A.length
 cs:∀c∈cl,0<=c/\c< (cl.length:Int)
 one:J5 cl=none
theorem ZiX{K:Type}{l:List K}{x y:K}(hn:l.Nodup)(hx:x∈l)(hy:y∈l)(h:x≠y):1<l.length:=by
 match l,hx,hy with
 | [a],hx,hy=>simp at hx hy;exact(h (hx.trans hy.symm)).elim
 |a::b::l,_,_=>simp
theorem aK{cl:List Int}{c:Int}{x:Nat}:x∈w9 cl c<->x<cl.length/\cl.getD x 0=c:=by
 unfold w9;rw[List.mem_filter,yj,yx]
theorem Zfe(cl:List Int)(c:Int):(w9 cl c).Nodup:=xJ.filter _
theorem S7{A:List LB}{cl:List Int}(h:wH A cl){x y:Nat}(hx:x<cl.length)(hy:y<cl.length)(e:cl.getD x 0=cl.getD y 0):x=y:=by
 by_cases hxy:x=y
 exact hxy;exfalso;have hc:cl.getD x 0∈cl:=by rw[zl,z1 hx];exact zk hx
 obtain⟨h1,h2⟩:=h.cs _ hc;have h3:=ZiX (Zfe cl (cl.getD x 0)) (aK.2 ⟨hx,rfl⟩) (aK.2 ⟨hy,e.symm⟩) hxy;have h4:=List.find?_eq_none.1 h.one (cl.getD x 0).toNat (yj.2 (by omega));rw[yx,vE h1]at h4;exact h4 h3
theorem HY{A:List LB}{cl:List Int}(h:wH A cl){t u:Tm}(ht:t.k=2->t.t∈A)(hu:u.k=2->u.t∈A)(e:JW A cl t=JW A cl u):t=u:=by
 unfold JW at e;by_cases h1:t.k=2
 .by_cases h2:u.k=2
  .rw[zf h1,zf h2]at e;have i1:=y7 (ht h1);have i2:=y7 (hu h2);have a1:A[A.idxOf t.t]=t.t:=yI i1;have a2:A[A.idxOf u.t]=u.t:=yI i2;obtain⟨k1,t1,y1,l1⟩:=t;obtain⟨k2,t2,y2,l2⟩:=u;simp only[Tm.mk.injEq]at e a1 a2 i1 i2⊢;obtain⟨e1,e2,e3,e4⟩:=e;refine⟨e1,?_,e3,e4⟩;unfold gG at e2;injection e2 with _ e2;have e5:=FC e2;have b1:cl.getD (A.idxOf t1) 0∈cl:=by rw[zl,z1 (by rw[h.cn];exact i1)];exact zk _
   have b2:cl.getD (A.idxOf t2) 0∈cl:=by rw[zl,z1 (by rw[h.cn];exact i2)];exact zk _
   have c1:=(h.cs _ b1).1;have c2:=(h.cs _ b2).1;have e6:=S7 h (by rw[h.cn];exact i1) (by rw[h.cn];exact i2) (show cl.getD (A.idxOf t1) 0=cl.getD (A.idxOf t2) 0 by omega);rw[<-a1,<-a2];simp only[e6]
  .rw[zf h1,z7 h2]at e;exact(h2 (by rw[<-e];exact h1)).elim
 .by_cases h2:u.k=2
  .rw[z7 h1,zf h2]at e;exact(h1 (by rw[e];exact h2)).elim
  .rw[z7 h1,z7 h2]at e;exact e
theorem Zff{A:List LB}{cl:List Int}(h:wH A cl){q r:Qd}(hq:∀s∈Zw q,s∈A)(hr:∀s∈Zw r,s∈A)(e:UA A cl q=UA A cl r):q=r:=by
 obtain⟨a1,a2,a3,a4⟩:=HX hq;obtain⟨b1,b2,b3,b4⟩:=HX hr;unfold UA at e;injection e with e1 e2 e3 e4;have f1:=HY h a1 b1 e1;have f2:=HY h a2 b2 e2;have f3:=HY h a3 b3 e3;have f4:=HY h a4 b4 e4;cases q;cases r
 simp only at f1 f2 f3 f4;subst f1 f2 f3 f4
 rfl
theorem S8{A:List LB}{l:List Qd}{cl:List Int}(h:wH A cl)(hA:A.Nodup)(hl:wQ ZP l)(hm:∀s∈Zz l,s∈A):wj ZP (l.map (oE (wC A cl)))=ZA A l cl:=by
 have hq:∀q∈l,∀s∈Zw q,s∈A:=fun q hq s hs=>hm s (xV.2 ⟨q,hq,hs⟩);have he:l.map (oE (wC A cl))=l.map (UA A cl):=yy fun q hq1=>ZcJ hA (hq q hq1);rw[he];symm
 have hn:(l.map (UA A cl)).Nodup:=by
  have h1:=XB kH hl;rw[List.nodup_iff_pairwise_ne]at h1⊢;rw[List.pairwise_map];refine List.Pairwise.imp_of_mem (fun{a b} ha hb hne e=>hne (Zff h (hq a ha) (hq b hb) e)) h1
 refine DL kH ?_ fun x=>by unfold ZA;rw[List.mem_mergeSort]
 have h1:=Xa kH (l.map (UA A cl));have h2:((l.map (UA A cl)).mergeSort (q9 ZP)).Nodup:=(x6 _ _).nodup_iff.2 hn;unfold ZA wQ;rw[List.nodup_iff_pairwise_ne]at h2;refine(h1.and h2).imp fun{a b} hab=>?_;have h3:=kH.zero a b;have h4:ZP a b≠0:=fun e=>hab.2 (h3.1 e);have h5:=hab.1;omega
end Go.Our
