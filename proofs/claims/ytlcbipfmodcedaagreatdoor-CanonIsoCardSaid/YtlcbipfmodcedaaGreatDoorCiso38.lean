/- Part 38: FreshB. Conditions: as each part says. -/
import Derived.Test.YtlcbipfmodcedaaGreatDoorCiso7
set_option linter.unusedVariables false
set_option linter.unusedSimpArgs false
namespace Go.Sx
open Go
section
variable {M:Mx}{fr fr':Fr}{O O':u0}{nx n':Nat}
theorem kg.goes{f:Operand}{ps:Array Tmp}{eD body:Code}{Q:Post}(h:vY M fr O nx fr' O' n')(k:kg M f ps eD body fr' O' n' Q):kg M f ps eD body fr O nx Q:=
 ⟨fun K a w hm=>let⟨η1,h1⟩:=h.out K a w hm;k.out η1 a w h1⟩
theorem uZ.GY(es:Nat):uZ M O nx ((nx, .rows es [])::O) (nx+1):=by
 refine⟨fun K w H=>⟨K++ [Option.none],zD _ _,?_⟩⟩
 have hg:(K++ [Option.none]).get (.loc nx)=some Option.none:=by
  show(K++ [Option.none])[nx]?=_
  rw[zz (by rw[H.len];omega),H.len,v8];rfl
 have hf:∀k, ¬u5 (K++ [Option.none]) w (.loc nx) (.rows es []) k:=fun k ⟨e,he,_⟩=>by rw[hg]at he;cases he
 refine H.push Option.none (w':=w) (fun _ _=>rfl) (zn _) rfl rfl rfl (zn _) ?_ (fun k f=>(hf k f).elim) fun k f=>(hf k f).elim;simp only[vV];exact .inl ⟨hg,trivial⟩
theorem vU.fresh{K:Env}{w:World}(H:vU M K w O nx){i es:Nat}{rs:List (List SV)}(hi:u6 i O=some (.rows es rs)):
 ∃y,(K++ [y]).get (.loc nx)=some y/\(K++ [y]).get (.loc i)=some y/\vU M (K++ [y]) w ((nx, .rows es rs)::wh i O) (nx+1):=by
 have hs:=(H.own.1 i _ hi).1;obtain⟨y,hy,_⟩:=hs.lt;have hpre:K<+:K++ [y]:=zD _ _
 have hn:(K++ [y]).get (.loc nx)=some y:=by
  show(K++ [y])[nx]?=_
  rw[zz (by rw[H.len];omega),H.len,v8];rfl
 have ho:(K++ [y]).get (.loc i)=some y:=Env.ug hpre hy
 have hd:∀j h,u6 j (wh i O)=some h->j≠i/\u6 j O=some h:=fun j h hj=>by
  by_cases e:j=i
  subst e;rw[Ym]at hj;cases hj;exact⟨e,by rwa [Jq i O j e]at hj⟩
 have hft:∀k,u5 (K++ [y]) w (.loc nx) (.rows es rs) k->u5 K w (.loc i) (.rows es rs) k:=fun k ⟨e,he,f⟩=>by
  rw[hn]at he;injection he with he
  exact⟨e,by rw[hy,he],f⟩
 have eC:∀{j h},u6 j O=some h->∀k,u5 (K++ [y]) w (.loc j) h k->u5 K w (.loc j) h k:=fun hj k f=>H.stands hpre hj (fun _ _=>rfl) f;refine⟨y,hn,ho,H.pre.trans hpre,by simp[H.len],⟨fun j h hj=>?_,fun j j' h h' k hj hj' hne f f'=>?_⟩,H.fr,H.wH⟩
 .rw[Z6]at hj;split at hj
  .rename_i e;subst e;injection hj with hj;subst hj;refine⟨?_,fun k f=>(H.own.1 i _ hi).2 k (hft k f)⟩;simp only[vV]at hs⊢;rcases hs with⟨h1,h2⟩|⟨e,arr,T,fz,h1,h2,h3,h4⟩
   exact .inl ⟨by rw[hn,<-hy,h1],h2⟩;exact .inr ⟨e,arr,T,fz,by rw[hn,<-hy,h1],h2,h3,fun a row ha=>⟨(h4 a row ha).1,(h4 a row ha).2.mono hpre⟩⟩
  .obtain⟨h1,h2⟩:=hd j h hj;exact⟨(H.own.1 j h h2).1.mono hpre,fun k f=>(H.own.1 j h h2).2 k (eC h2 k f)⟩
 .rw[Z6]at hj hj';split at hj
  .rename_i e;subst e;injection hj with hj;subst hj;rw[z6 (fun e=>hne e.symm)]at hj';obtain⟨h1,h2⟩:=hd j' h' hj';exact H.own.2 i j' _ h' k hi h2 (yO h1) (hft k f) (eC h2 k f')
  .obtain⟨h1,h2⟩:=hd j h hj;split at hj'
   .rename_i e;subst e;injection hj' with hj';subst hj';exact H.own.2 j i h _ k h2 hi h1 (eC h2 k f) (hft k f')
   .obtain⟨h3,h4⟩:=hd j' h' hj';exact H.own.2 j j' h h' k h2 h4 hne (eC h2 k f) (eC h4 k f')
theorem uZ.nV(i:Nat){es:Nat}{rs:List (List SV)}(hi:u6 i O=some (.rows es rs)):uZ M O nx ((nx, .rows es rs)::wh i O) (nx+1):=
 ⟨fun K w H=>let⟨y,_,_,h⟩:=H.fresh hi;⟨_,zD _ _,h⟩⟩
theorem uZ.fresh(i j:Nat){es ec n:Nat}{rs:List (List SV)}(hi:u6 i O=some (.rows es rs))(hj:u6 j O=some (.box [.sl (.loc i) 0 ec n none]))(hij:j≠i):
 uZ M O nx (uO j (.box [.sl (.loc nx) 0 ec n none]) ((nx, .rows es rs)::wh i O)) (nx+1):=by
 refine⟨fun K w H=>?_⟩;obtain⟨y,h1,h2,h3⟩:=H.fresh hi;have hjn:j≠nx:=fun e=>by have:=H.lt hj;omega
 have hj2:u6 j ((nx, .rows es rs)::wh i O)=some (.box [.sl (.loc i) 0 ec n Option.none]):=by
  rw[Z6,z6 hjn,Jq i O j hij];exact hj
 refine⟨_,zD _ _,h3.tV hj2 ?_ fun k f=>f⟩;have hs:=(h3.own.1 j _ hj2).1;simp only[vV]at hs⊢;obtain⟨e,arr,T,fz,a1,a2,a3,a4⟩:=hs;refine⟨e,arr,T,fz,a1,a2,a3,fun c sv hc=>?_⟩
 match c,hc with
 |0,hc=>
  simp only[List.getElem?_cons_zero,zh]at hc;subst hc;obtain⟨v,b1,b2,b3⟩:=a4 0 _ rfl;refine⟨v,b1,b2,?_⟩;simp only[Den]at b3⊢;rw[h2]at b3;rw[h1];exact b3
 |c+1,hc=>simp at hc
end
end Go.Sx
