/- Part 26: FindY. Conditions: as each part says. -/
import Derived.Test.YtbfbokdccdagkaaGreatDoorUnm24
import Derived.Test.YtbfbokdccdagkaaGreatDoorUnm25
set_option linter.unusedVariables false
set_option linter.unusedSimpArgs false
set_option maxRecDepth 20000
set_option maxHeartbeats 8000000
namespace Go.Proofs.YtbfbokdccdagkaaGreatDoor
open Go.Sx Go.Our
def XA(A B:List LB):List LB:=B.filter fun x=>!decide (x∈A)
def dupP(l:List LB):List Pr:=l.map fun s=>(s,s)
theorem ZfB(l:List LB):(dupP l).map Prod.fst=l:=by unfold dupP;rw[List.map_map];exact List.map_id _
theorem Zck(l:List LB):(dupP l).map Prod.snd=l:=by unfold dupP;rw[List.map_map];exact List.map_id _
theorem ZdS{a b:List Qd}{ps:List Pr}(dA:DsOK a)(dB:DsOK b)(h:Z5F (Z0 a) (Z0 b)=some ps):
 ps.map Prod.fst=ownB (Z0 a) (Z0 b)/\Bij b (setL ZH (b.map (XB ps))) (ps++dupP (XA (Z0 a) (Z0 b)))/\∀s∈Z0 (setL ZH (b.map (XB ps))),s∉Z0 a:=by
 obtain⟨fr,h1,h2,h3,h4,h5⟩:=Z6y h;rw[List.nil_append]at h2;have hfs:ps.map Prod.fst=ownB (Z0 a) (Z0 b):=by rw[h2];exact Zfy h1
 have hsn:ps.map Prod.snd=fr:=by rw[h2];exact Zfz h1
 have afs:(ps++dupP (XA (Z0 a) (Z0 b))).map Prod.fst=ownB (Z0 a) (Z0 b)++XA (Z0 a) (Z0 b):=by rw[List.map_append,hfs,ZfB]
 have asn:(ps++dupP (XA (Z0 a) (Z0 b))).map Prod.snd=fr++XA (Z0 a) (Z0 b):=by rw[List.map_append,hsn,Zck]
 have hperm:((ps++dupP (XA (Z0 a) (Z0 b))).map Prod.fst).Perm (Z0 b):=by
  rw[afs];exact List.filter_append_perm _ _
 have hrest:∀s∈XA (Z0 a) (Z0 b),s∈Z0 b/\s∉Z0 a:=fun s hs=>by
  obtain⟨k1,k2⟩:=List.mem_filter.1 hs;exact⟨k1,by simpa using k2⟩
 have hnd:((ps++dupP (XA (Z0 a) (Z0 b))).map Prod.snd).Nodup:=by
  rw[asn];refine List.nodup_append.2 ⟨h3,(X8 b).filter _,fun x hx y hy e=>?_⟩;subst e;exact h4 x hx (List.mem_append_right _ (hrest x hy).1)
 have hok:∀u∈(ps++dupP (XA (Z0 a) (Z0 b))).map Prod.snd,Z6x u:=by
  rw[List.map_append,Zck];intro u hu;rcases List.mem_append.1 hu with hu|hu
  ·obtain⟨p,hp,rfl⟩:=List.mem_map.1 hu
   have hp1:p.1∈Z0 b:=by
    have:p.1∈ownB (Z0 a) (Z0 b):=by rw[<-hfs];exact List.mem_map.2 ⟨p,hp,rfl⟩
    exact(List.mem_filter.1 this).1
   obtain⟨k1,j,k2⟩:=h5 p (by rw[<-h2];exact hp);exact⟨k1,by rw[k2];exact Z8B (Zex dB hp1).2 _⟩
  ·exact Zex dB (hrest u hu).1
 have hb:=Zfx dB hperm hnd hok
 have hsame:b.map (XB (ps++dupP (XA (Z0 a) (Z0 b))))=b.map (XB ps):=by
  refine List.map_congr_left fun q hq=>Z1l (f:=ZO _) (g:=ZO _) fun t ht=>?_;by_cases hk:t.k=2
  ·have hm:=X4 hq ht hk;have nd1:=hperm.symm.nodup (X8 b);by_cases hA:t.t∈Z0 a
   ·have:t.t∈ps.map Prod.fst:=by rw[hfs];exact List.mem_filter.2 ⟨hm,by simpa using hA⟩
    obtain⟨p,hp,e⟩:=List.mem_map.1 this;have e1:toOf ps t.t=some p.2:=XV (by rw[hfs];exact(X8 b).filter _) (by rw[<-e];exact hp);have e2:toOf (ps++dupP (XA (Z0 a) (Z0 b))) t.t=some p.2:=XV nd1 (List.mem_append_left _ (by rw[<-e];exact hp));rw[Jb hk e1,Jb hk e2]
   ·have e1:toOf ps t.t=none:=by
     cases e:toOf ps t.t with
     |none=>rfl
     |some u=>
      have:t.t∈ps.map Prod.fst:=List.mem_map.2 ⟨_,Zcg e,rfl⟩;rw[hfs]at this;exact(hA (by simpa using(List.mem_filter.1 this).2)).elim
    have e2:toOf (ps++dupP (XA (Z0 a) (Z0 b))) t.t=some t.t:=XV nd1 (List.mem_append_right _ (List.mem_map.2 ⟨t.t,List.mem_filter.2 ⟨hm,by simpa using hA⟩,rfl⟩));rw[Jb hk e2];unfold ZO;rw[if_pos hk,e1]
  ·rw[U6 hk,U6 hk]
 rw[hsame]at hb;refine⟨hfs,hb,fun s hs hA=>?_⟩;have:=hb.sn.mem_iff.2 hs;rw[asn]at this;rcases List.mem_append.1 this with k|k
 ·exact h4 s k (List.mem_append_left _ hA)
 ·exact(hrest s k).2 hA
end Go.Proofs.YtbfbokdccdagkaaGreatDoor
