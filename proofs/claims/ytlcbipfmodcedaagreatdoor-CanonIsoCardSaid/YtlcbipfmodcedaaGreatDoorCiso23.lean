/- Part 23: IsoLeastM. Conditions: as each part says. -/
import Derived.Test.YtlcbipfmodcedaaGreatDoorCiso7
set_option linter.unusedVariables false
set_option linter.unusedSimpArgs false
namespace Go.Our
open Go Go.Sx
theorem E6{ok:Nat->Bool}{fits:List Nat->Bool}{next:List Nat->Nat->Out}{ys:List Nat}{r:List Nat}{m:Nat}:∀{l:List Nat} {left:Nat},eZ ok fits next ys l left= .found r m->
 ∃l1 y l2,l=l1++y::l2/\y∉ys/\ok y=true/\fits (ys++ [y])=true/\(∃k,next (ys++ [y]) k= .found r m)/\∀z∈l1,z∉ys->ok z=true->fits (ys++ [z])=true->∃k k',next (ys++ [z]) k= .none k'
 | [],left,h=>by simp[eZ]at h
 |y::l,left,h=>by
  have go:∀{k:Nat},eZ ok fits next ys l k= .found r m->(y∉ys->ok y=true->fits (ys++ [y])=true->∃k k',next (ys++ [y]) k= .none k')->∃l1 z l2,y::l=l1++z::l2/\z∉ys/\ok z=true/\fits (ys++ [z])=true/\(∃k,next (ys++ [z]) k= .found r m)/\∀w∈l1,w∉ys->ok w=true->fits (ys++ [w])=true->∃k k',next (ys++ [w]) k= .none k':=fun{k} hk hy=>by
   obtain⟨l1,z,l2,rfl,h1,h2,h3,h4,h5⟩:=E6 hk;refine⟨y::l1,z,l2,rfl,h1,h2,h3,h4,fun w hw=>?_⟩;rcases zI.1 hw with rfl|hw
   exact hy;exact h5 w hw
  unfold eZ at h;split at h
  .rename_i hy
   exact go h fun h1 h2=>by rcases hy with hy|hy
                            exact(h1 hy).elim;rw[hy]at h2;cases h2
  .rename_i hy;have hy1:y∉ys:=fun h=>hy (.inl h)
   have hy2:ok y=true:=by cases h:ok y with
    |true=>rfl
    |false=>exact(hy (.inr h)).elim
   cases left with
   |zero=>cases h
   |succ left=>
    dsimp only at h;split at h
    .rename_i hf;split at h
     .rename_i k hk;exact go h fun _ _ _=>⟨_,_,hk⟩
     .rename_i ho;exact⟨[],y,l,rfl,hy1,hy2,hf,⟨_,h⟩,fun _ hz=>by cases hz⟩
    .rename_i hf;exact go h fun _ _ h3=>(hf h3).elim
theorem RL{ok:Nat->Bool}{fits:List Nat->Bool}{next:List Nat->Nat->Out}{ys:List Nat}{m:Nat}:∀{l:List Nat} {left:Nat},eZ ok fits next ys l left= .none m->
 ∀z∈l,z∉ys->ok z=true->fits (ys++ [z])=true->∃k k',next (ys++ [z]) k= .none k'
 | [],left,h=>fun z hz=>by cases hz
 |y::l,left,h=>by
  have go:∀{k:Nat},eZ ok fits next ys l k= .none m->(y∉ys->ok y=true->fits (ys++ [y])=true->∃k k',next (ys++ [y]) k= .none k')->∀z∈y::l,z∉ys->ok z=true->fits (ys++ [z])=true->∃k k',next (ys++ [z]) k= .none k':=fun{k} hk hy z hz=>by
   rcases zI.1 hz with rfl|hz
   exact hy;exact RL hk z hz
  unfold eZ at h;split at h
  .rename_i hy
   exact go h fun h1 h2=>by rcases hy with hy|hy
                            exact(h1 hy).elim;rw[hy]at h2;cases h2
  .cases left with
   |zero=>cases h
   |succ left=>
    dsimp only at h;split at h
    .split at h
     .rename_i k hk;exact go h fun _ _ _=>⟨_,_,hk⟩
     .rename_i ho;exact(ho m h).elim
    .rename_i hf;exact go h fun _ _ h3=>(hf h3).elim
structure Path(n:Nat)(ok:Nat->Nat->Bool)(fits:List Nat->Bool)(ys zs:List Nat)(d:Nat):Prop where
 pre:ys<+:zs
 len:zs.length=ys.length+d
 nd:zs.Nodup
 lt:∀z∈zs,z<n
 ok:∀i (h:i<zs.length),ys.length<=i->ok i zs[i]=true
 fit:∀k,ys.length<k->k<=zs.length->fits (zs.take k)=true
theorem Path.step{n:Nat}{ok:Nat->Nat->Bool}{fits:List Nat->Bool}{ys zs:List Nat}{d:Nat}(h:Path n ok fits ys zs (d+1)):∃z,z<n/\z∉ys/\ok ys.length z=true/\fits (ys++ [z])=true/\Path n ok fits (ys++ [z]) zs d/\zs[ys.length]?=some z:=by
 obtain⟨w,hw⟩:=h.pre;have hl:=h.len;cases w with
 |nil=>rw[<-hw]at hl;simp at hl
 |cons z w=>
  subst hw;have hg:(ys++z::w)[ys.length]?=some z:=by rw[zz (zn _)];simp
  have hlt:ys.length< (ys++z::w).length:=by simp
  have hge:(ys++z::w)[ys.length]'hlt=z:=by rw[z1 hlt]at hg;injection hg
  have GF:(ys++z::w).take (ys.length+1)=ys++ [z]:=by rw[List.take_append,zo (by omega),show ys.length+1-ys.length=1 by omega];rfl
  refine⟨z,h.lt z (by simp),?_,?_,?_,⟨⟨w,by simp⟩,by simp at hl⊢;omega,h.nd,h.lt,fun i hi hy=>h.ok i hi (by simp at hy;omega),fun k hk hk2=>h.fit k (by simp at hk;omega) hk2⟩,hg⟩
  .intro hm;have:=(xU.1 h.nd).2.2 z hm z (by simp);exact this rfl
  .have:=h.ok ys.length hlt (zn _);rwa [hge]at this
  .have:=h.fit (ys.length+1) (by omega) hlt;rwa [GF]at this
theorem BS{n:Nat}{ok:Nat->Nat->Bool}{fits:List Nat->Bool}:∀(d:Nat) (ys:List Nat) (left:Nat) {r:List Nat} {m:Nat},ys.Nodup->(∀y∈ys,y<n)->XP n ok fits d ys left= .found r m->Path n ok fits ys r d
 |0,ys,left,r,m,hn,hl,h=>by
  simp only[XP]at h;injection h with h1 _;subst h1;exact⟨zx,rfl,hn,hl,fun i hi hy=>by omega,fun k h1 h2=>by omega⟩
 |d+1,ys,left,r,m,hn,hl,h=>by
  unfold XP at h;obtain⟨l1,y,l2,hr,h1,h2,h3,⟨k,h4⟩,_⟩:=E6 h;have hy:y<n:=zY.1 (by rw[hr];simp)
  have ih:=BS d (ys++ [y]) k (xU.2 ⟨hn,by simp,fun a ha b hb e=>by rw[zJ]at hb;subst hb e;exact h1 ha⟩) (fun z hz=>by
   rcases zX.1 hz with hz|hz
   exact hl z hz
   rw[zJ.1 hz];exact hy) h4
  have hpre:ys++ [y]<+:r:=ih.pre;have hlen:r.length=ys.length+(d+1):=by rw[ih.len];simp;omega
  obtain⟨w,hw⟩:=hpre;have hat:∀(h:ys.length<r.length),r[ys.length]=y:=fun h=>by subst hw;simp
  have GF:r.take (ys.length+1)=ys++ [y]:=by subst hw;rw[vq (by simp),zo (by simp)]
  refine⟨⟨y::w,by rw[<-hw];simp⟩,hlen,ih.nd,ih.lt,fun i hi hyi=>?_,fun k hk hk2=>?_⟩
  .rcases xM hyi with hlt|rfl
   exact ih.ok i hi (by simp;omega);rw[hat hi];exact h2
  .rcases xM (Nat.succ_le_of_lt hk)with hlt|he
   exact ih.fit k (by simp;omega) hk2;rw[<-he];show fits (r.take (ys.length+1))=true;rw[GF];exact h3
theorem WQ{n:Nat}{ok:Nat->Nat->Bool}{fits:List Nat->Bool}:∀(d:Nat) (ys:List Nat) (left:Nat) {m:Nat},XP n ok fits d ys left= .none m->∀zs, ¬Path n ok fits ys zs d
 |0,ys,left,m,h=>fun zs _=>by simp[XP]at h
 |d+1,ys,left,m,h=>fun zs hz=>by
  unfold XP at h;obtain⟨z,h1,h2,h3,h4,h5,_⟩:=hz.step;obtain⟨k,k',hk⟩:=RL h z (zY.2 h1) h2 h3 h4;exact WQ d (ys++ [z]) k hk zs h5
theorem Z93{n:Nat}{l1 l2:List Nat}{y z:Nat}(h:List.range n=l1++y::l2)(hz:z<n)(hl:z∉l1):y<=z:=by
 have hs:(List.range n).Pairwise (· < ·):=List.pairwise_lt_range;rw[h]at hs;have hm:z∈l1++y::l2:=by rw[<-h];exact zY.2 hz
 rcases zX.1 hm with h1|h1
 exact(hl h1).elim
 .rcases zI.1 h1 with rfl|h1
  exact zn _;exact Nat.le_of_lt ((xg.1 (List.pairwise_append.1 hs).2.1).1 z h1)
theorem RM{n:Nat}{ok:Nat->Nat->Bool}{fits:List Nat->Bool}:∀(d:Nat) (ys:List Nat) (left:Nat) {r:List Nat} {m:Nat},XP n ok fits d ys left= .found r m->∀zs,Path n ok fits ys zs d->∀(i x y:Nat),(∀j:Nat,j<i->r[j]?=zs[j]?)->r[i]?=some x->zs[i]?=some y->x<=y
 |0,ys,left,r,m,h=>fun zs hz i x y hj hx hy=>by
  simp only[XP]at h;injection h with h1 _;subst h1;obtain⟨w,hw⟩:=hz.pre;have hl:=hz.len;have:w=[]:=by rw[<-hw,ze]at hl;exact zO.1 (by omega)
  subst this;rw[zU]at hw;subst hw;rw[hx]at hy;injection hy with hy;omega
 |d+1,ys,left,r,m,h=>fun zs hz i x y hj hx hy=>by
  unfold XP at h;obtain⟨l1,w,l2,hr,h1,h2,h3,⟨k,h4⟩,h5⟩:=E6 h;obtain⟨z,Bp,Bq,hz3,hz4,BT,RN⟩:=hz.step
  have RO:w<=z:=Z93 hr Bp fun hm=>by
   obtain⟨k,k',hk⟩:=h5 z hm Bq hz3 hz4;exact WQ d (ys++ [z]) k hk zs BT
  have bN:ys++ [w]<+:r:=bF d (ys++ [w]) k h4;obtain⟨u,hu⟩:=bN;obtain⟨v,hv⟩:=BT.pre;have hrw:r[ys.length]?=some w:=by rw[<-hu];simp
  rcases Nat.lt_trichotomy i ys.length with hi|hi|hi
  .rw[<-hu,zR,zu hi]at hx;rw[<-hv,zR,zu hi,hx]at hy;injection hy with hy;omega
  .subst hi;rw[hrw]at hx;rw[RN]at hy;injection hx with hx;injection hy with hy;omega
  .have he:=hj ys.length hi;rw[hrw,RN]at he;injection he with he;subst he;exact RM d (ys++ [w]) k h4 zs BT i x y hj hx hy
 where
 bF {n:Nat} {ok:Nat->Nat->Bool} {fits:List Nat->Bool}:∀(d:Nat) (ys:List Nat) (left:Nat) {r:List Nat} {m:Nat},XP n ok fits d ys left= .found r m->ys<+:r
 |0,ys,left,r,m,h=>by
  simp only[XP]at h;injection h with h1 _;subst h1;exact zx
 |d+1,ys,left,r,m,h=>by
  unfold XP at h;obtain⟨l1,y,l2,_,_,_,_,⟨k,h4⟩,_⟩:=E6 h;exact(zD ys [y]).trans (bF d (ys++ [y]) k h4)
end Go.Our
