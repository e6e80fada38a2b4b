/- 2. Conditions: none. -/
import Derived.Laws.StructEq
import Derived.ChangeKeysEq
import Derived.Test.YtlcbipfmodcedaaGreatDoorTxt0
set_option linter.unusedVariables false
set_option linter.unusedSimpArgs false
namespace Go.Sx
open Go
def iV(P:Program)(go:TypeId->Option (List CK)):Nat->List Field->Option (List CK)
 |_,[]=>some []
 |off,f::fs=>match f.name != "_" &&Nat.beq f.offset off with
  |false=>none
  |true=>match go f.type,P.info? f.type with
   |some eC,some i=>match Nat.beq i.size eC.length,iV P go (off+eC.length) fs with
    |true,some ks=>some (eC++ks)
    |_,_=>none
   |_,_=>none
def oH:Nat->List CK->List CK
 |0,_=>[]
 |n+1,ks=>ks++oH n ks
def VY(P:Program):Nat->TypeId->Option (List CK)
 |0,_=>none
 |n+1,t=>match P.underlying t with
  |some (.int k)=>some [.int k]
  |some .string=>some [.str]
  |some .bool=>some [.bool]
  |some (.struct fs)=>match P.stoodInHeld t with
   |false=>iV P (VY P n) 0 fs.toList
   |true=>none
  |some (.array m e)=>match VY P n e,P.info? e with
   |some ks,some i=>match Nat.beq i.size ks.length with
    |true=>some (oH m ks)
    |false=>none
   |_,_=>none
  |_=>none
theorem J0:∀{k1 k2:List CK} {xs ys:List SV} {r:Bool},Zk (k1++k2) xs ys=some r->
 ∃a b,Zk k1 (xs.take k1.length) (ys.take k1.length)=some a/\Zk k2 (xs.drop k1.length) (ys.drop k1.length)=some b/\r=(a&&b)
 | [],k2,xs,ys,r,h=>⟨true,r,by simp[Zk],by simpa using h,rfl⟩
 |k::k1,k2,xs,ys,r,h=>by
  rw[List.cons_append]at h;generalize hkk:k::(k1++k2)=kk at h;unfold Zk at h;split at h
  cases hkk
  .rename_i q ks q1 a xs' q2 b ys';injection hkk with e1 e2;subst e1 e2;split at h
   case h_2=>cases h
   rename_i r' hk hr;injection h with h;subst h;obtain⟨x,y,h1,h2,h3⟩:=J0 hr;subst h3;exact⟨(a==b&&x),y,by simp only[List.length_cons,List.take_succ_cons,Zk,hk,h1],by simpa using h2,by rw[vU]⟩
  .rename_i ks a xs' b ys';injection hkk with e1 e2;subst e1 e2;split at h
   case h_2=>cases h
   rename_i r' hr;injection h with h;subst h;obtain⟨x,y,h1,h2,h3⟩:=J0 hr;subst h3;exact⟨(a==b&&x),y,by simp only[List.length_cons,List.take_succ_cons,Zk,h1],by simpa using h2,by rw[vU]⟩
  .rename_i ks a xs' b ys';injection hkk with e1 e2;subst e1 e2;split at h
   case h_2=>cases h
   rename_i r' hr;injection h with h;subst h;obtain⟨x,y,h1,h2,h3⟩:=J0 hr;subst h3;exact⟨(a==b&&x),y,by simp only[List.length_cons,List.take_succ_cons,Zk,h1],by simpa using h2,by rw[vU]⟩
  cases h
theorem MB{k:IntKind}{x y:SV}{a:Bool}(h:Zk [.int k] [x] [y]=some a):∃m n,x= .int k m/\y= .int k n/\a=(m==n):=by
 cases x<;>cases y<;>first|(simp[Zk]at h;done)|skip
 rename_i k1 m k2 n;simp only[Zk]at h;split at h
 .rename_i r' hk hr;simp only[zj]at hr h;subst hr;simp only[zk]at hk;have g1:=kf.1 hk.1;have g2:=kf.1 hk.2;subst g1 g2;exact⟨m,n,rfl,rfl,by rw[<-h,zG]⟩
 cases h
theorem MC{x y:SV}{a:Bool}(h:Zk [.str] [x] [y]=some a):∃m n,x= .str m/\y= .str n/\a=(m==n):=by
 cases x<;>cases y<;>first|(simp[Zk]at h;done)|skip
 rename_i m n;simp only[Zk,zG,zj]at h;exact⟨m,n,rfl,rfl,h.symm⟩
theorem MD{x y:SV}{a:Bool}(h:Zk [.bool] [x] [y]=some a):∃m n,x= .bool m/\y= .bool n/\a=(m==n):=by
 cases x<;>cases y<;>first|(simp[Zk]at h;done)|skip
 rename_i m n;simp only[Zk,zG,zj]at h;exact⟨m,n,rfl,rfl,h.symm⟩
theorem ME{xs ys:List SV}{r:Bool}(h:Zk [] xs ys=some r):xs=[]/\ys=[]/\r=true:=by
 cases xs<;>cases ys<;>simp[Zk]at h
 exact⟨rfl,rfl,h⟩
theorem Uy:∀{ks:List CK} {xs ys:List SV} {r:Bool},Zk ks xs ys=some r->xs.length=ks.length/\ys.length=ks.length
 | [],xs,ys,r,h=>by
   obtain⟨rfl,rfl,_⟩:=ME h;exact⟨rfl,rfl⟩
 |k::ks,xs,ys,r,h=>by
  obtain⟨a,b,h1,h2,h3⟩:=J0 (k1:=[k]) (k2:=ks) h;have h4:=Uy (ks:=ks) h2
  have:xs.length≠0/\ys.length≠0:=by
   constructor<;>intro e<;>(have e:=zJ.1 e;subst e;cases k<;>simp[Zk]at h1)
  simp only[zF,List.length_singleton,List.length_cons,List.length_nil]at h4⊢;omega
def ZZ(P:Program)(t:TypeId):Bool:=match P.underlying t with
 |some (.struct _)=>true
 |some (.array _ _)=>true
 |_=>false
def J1(P:Program)(t:TypeId)(us:List Value)(v:Value):Prop:=match ZZ P t with
 |true=>v= .agg ⟨us⟩
 |false=>us=[v]
theorem Jh{P:Program}{w:World}{n:Nat}{t:TypeId}{ks:List CK}{i:TypeInfo}(h:VY P n t=some ks)(hi:P.info? t=some i)(hs:i.size=ks.length){us:List Value}{off:Nat}(hl:off+ks.length<=us.length):
 ∃v,(part t ⟨us⟩ off).run P w= .ok v w/\J1 P t ((us.drop off).take ks.length) v:=by
 cases n with
 |zero=>simp[VY]at h
 |succ n=>
  have agg:∀d,P.underlying t=some d->ZZ P t=true->((∃fs,d= .struct fs)\/∃m e,d= .array m e)->∃v,(part t ⟨us⟩ off).run P w= .ok v w/\J1 P t ((us.drop off).take ks.length) v:=by
   intro d hd ha hh;refine⟨.agg ⟨(us.drop off).take ks.length⟩,?_,by simp[J1,ha]⟩;have ag:(isAgg t).run P w= .ok true w:=by rcases hh with⟨fs,rfl⟩|⟨m,e,rfl⟩<;>simp[isAgg,Z8 hd]
   simp[part,ag,Zv hi,hs,List.extract_eq_take_drop]
  have one:∀d,P.underlying t=some d->ZZ P t=false->((∃k,d= .int k)\/d= .string\/d= .bool)->ks.length=1->∃v,(part t ⟨us⟩ off).run P w= .ok v w/\J1 P t ((us.drop off).take ks.length) v:=by
   intro d hd ha hh h1;have hlt:off<us.length:=by omega
   refine⟨us[off],?_,?_⟩
   .have ag:(isAgg t).run P w= .ok false w:=by rcases hh with⟨k,rfl⟩|rfl|rfl<;>simp[isAgg,Z8 hd]
    simp[part,ag,z1 hlt]
   .simp only[J1,ha,h1];rw[zq hlt];rfl
  simp only[VY]at h;split at h
  rename_i k hd;exact one _ hd (by simp[ZZ,hd]) (.inl ⟨k,rfl⟩) (by injection h with h;subst h;rfl);rename_i hd;exact one _ hd (by simp[ZZ,hd]) (.inr (.inl rfl)) (by injection h with h;subst h;rfl);rename_i hd;exact one _ hd (by simp[ZZ,hd]) (.inr (.inr rfl)) (by injection h with h;subst h;rfl);rename_i fs hd;exact agg _ hd (by simp[ZZ,hd]) (.inl ⟨fs,rfl⟩);rename_i m e hd;exact agg _ hd (by simp[ZZ,hd]) (.inr ⟨m,e,rfl⟩);cases h
theorem Uz{K:Env}:∀{xs:List SV} {us:List Value},w6 K xs us->us.length=xs.length
 | [],us,h=>by simp only[w6]at h;subst h;rfl
 |x::xs,us,h=>by
  simp only[w6]at h;obtain⟨u,vs,rfl,_,h⟩:=h;simp[Uz h]
theorem Ji{K:Env}:∀{n:Nat} {xs:List SV} {us:List Value},w6 K xs us->w6 K (xs.drop n) (us.drop n)
 |0,xs,us,h=>h
 |n+1,[],us,h=>by simp only[w6]at h;subst h;simp[w6]
 |n+1,x::xs,us,h=>by
  simp only[w6]at h;obtain⟨u,vs,rfl,_,h⟩:=h;exact Ji (n:=n) h
theorem Jj{K:Env}:∀{n:Nat} {xs:List SV} {us:List Value},w6 K xs us->w6 K (xs.take n) (us.take n)
 |0,xs,us,h=>by simp[w6]
 |n+1,[],us,h=>by simp only[w6]at h;subst h;simp[w6]
 |n+1,x::xs,us,h=>by
  simp only[w6]at h;obtain⟨u,vs,rfl,h0,h⟩:=h;simp only[List.take_succ_cons,w6];exact⟨u,_,rfl,h0,Jj h⟩
def HR(P:Program)(n:Nat):Prop:=∀(t:TypeId) (ks:List CK),VY P n t=some ks->∀(d:Nat),n<=d->∀(w:World) (K:Env) (xs ys:List SV) (us vs:List Value) (u v:Value) (r:Bool),Zk ks xs ys=some r->w6 K xs us->w6 K ys vs->J1 P t us u->J1 P t vs v->
 (Op.equalIn d t u v).run P w= .ok r w
theorem MF{P:Program}{n d:Nat}(IH:HR P n)(hd:n<=d){t:TypeId}{eC Gp:List CK}{i:TypeInfo}(h:VY P n t=some eC)(hi:P.info? t=some i)(hs:i.size=eC.length){w:World}{K:Env}{xs ys:List SV}{us vs:List Value}{off:Nat}{r:Bool}(hc:Zk (eC++Gp) (xs.drop off) (ys.drop off)=some r)(hu:w6 K xs us)(hv:w6 K ys vs):
 ∃u v a b,(part t ⟨us⟩ off).run P w= .ok u w/\(part t ⟨vs⟩ off).run P w= .ok v w/\(Op.equalIn d t u v).run P w= .ok a w/\Zk Gp (xs.drop (off+eC.length)) (ys.drop (off+eC.length))=some b/\r=(a&&b):=by
 obtain⟨a,b,h1,h2,h3⟩:=J0 hc;have hl:=Uy hc;rw[zF,zF,zg]at hl;have lu:=Uz hu;have lv:=Uz hv;by_cases h0:eC.length=0
 ·
  cases n with
  |zero=>simp[VY]at h
  |succ n=>
   by_cases hx:off<=us.length/\off<=vs.length
   .obtain⟨u,p1,s1⟩:=Jh (w:=w) h hi hs (us:=us) (off:=off) (by omega);obtain⟨v,p2,s2⟩:=Jh (w:=w) h hi hs (us:=vs) (off:=off) (by omega);exact⟨u,v,a,b,p1,p2,IH t eC h d hd w K _ _ _ _ u v a h1 (Jj (Ji hu)) (Jj (Ji hv)) s1 s2,by rw[yt,yt]at h2;exact h2,h3⟩
   .have hk:eC=[]:=zJ.1 h0;subst hk
    have ag:∃dd,P.underlying t=some dd/\((∃fs,dd= .struct fs)\/∃m e,dd= .array m e):=by
     simp only[VY]at h;split at h
     cases h
     cases h
     cases h
     rename_i fs hd;exact⟨_,hd, .inl ⟨fs,rfl⟩⟩;rename_i m e hd;exact⟨_,hd, .inr ⟨m,e,rfl⟩⟩;cases h
    obtain⟨dd,bg,hh⟩:=ag;have ha:ZZ P t=true:=by rcases hh with⟨fs,rfl⟩|⟨m,e,rfl⟩<;>simp[ZZ,bg]
    have agr:(isAgg t).run P w= .ok true w:=by rcases hh with⟨fs,rfl⟩|⟨m,e,rfl⟩<;>simp[isAgg,Z8 bg]
    have q:∀zs:List Value,(part t ⟨zs⟩ off).run P w= .ok (.agg ⟨(zs.drop off).take 0⟩) w:=by
     intro zs;have hs':i.size=0:=hs;simp only[part,Sem.run_bind,agr,Result.andThen_ok,Zv hi,hs',yR];congr 1;simp[List.extract_eq_take_drop]
    exact⟨_,_,a,b,q us,q vs,IH t [] h d hd w K _ _ _ _ _ _ a h1 (Jj (Ji hu)) (Jj (Ji hv)) (by simp[J1,ha]) (by simp[J1,ha]),by rw[yt,yt]at h2;exact h2,h3⟩
 obtain⟨u,p1,s1⟩:=Jh (w:=w) h hi hs (us:=us) (off:=off) (by omega);obtain⟨v,p2,s2⟩:=Jh (w:=w) h hi hs (us:=vs) (off:=off) (by omega);exact⟨u,v,a,b,p1,p2,IH t eC h d hd w K _ _ _ _ u v a h1 (Jj (Ji hu)) (Jj (Ji hv)) s1 s2,by rw[yt,yt]at h2;exact h2,h3⟩
theorem MG{xs ys:List SV}{r:Bool}(h:Zk [] xs ys=some r):r=true:=(ME h).2.2
theorem MH{P:Program}{n d:Nat}(IH:HR P n)(hd:n<=d){w:World}{K:Env}{xs ys:List SV}{us vs:List Value}(hu:w6 K xs us)(hv:w6 K ys vs):∀(fs:List Field) (off:Nat) (ks:List CK),iV P (VY P n) off fs=some ks->∀(r:Bool),Zk ks (xs.drop off) (ys.drop off)=some r->(Op.eqFields d ⟨us⟩ ⟨vs⟩ fs).run P w= .ok r w
 | [],off,ks,h,r,hc=>by
   simp only[iV,zj]at h;subst h;rw[MG hc];rfl
 |f::fs,off,ks,h,r,hc=>by
  simp only[iV]at h;split at h
  cases h
  rename_i hnm;simp only[zk]at hnm;have hname:f.name≠ "_" :=by simpa using hnm.1
  have hoff:=Zs hnm.2;split at h
  case h_2=>cases h
  rename_i eC i aI hinfo;split at h
  case h_2=>cases h
  rename_i Gp hsz hks;injection h with h;subst h;obtain⟨u,v,a,b,p1,p2,p3,h2,rfl⟩:=MF IH hd aI hinfo (Zs hsz) (w:=w) hc hu hv;have q4:=MH IH hd (w:=w) hu hv fs _ _ hks b h2;rw[<-hoff]at p1 p2;simp only[Op.eqFields,hname,ne_eq,xe,yR,Sem.run_bind,p1,p2,p3,Result.andThen_ok];cases a
  simp;simpa using q4
theorem MI{P:Program}{n d:Nat}(IH:HR P n)(hd:n<=d){e:TypeId}{eC:List CK}{i:TypeInfo}(h:VY P n e=some eC)(hi:P.info? e=some i)(hs:i.size=eC.length){w:World}{K:Env}{xs ys:List SV}{us vs:List Value}(hu:w6 K xs us)(hv:w6 K ys vs):
 ∀(m j:Nat) (r:Bool),Zk (oH m eC) (xs.drop (j*eC.length)) (ys.drop (j*eC.length))=some r->(Op.eqItems d e eC.length ⟨us⟩ ⟨vs⟩ (List.range' j m)).run P w= .ok r w
 |0,j,r,hc=>by
  rw[MG hc];rfl
 |m+1,j,r,hc=>by
  simp only[oH]at hc;obtain⟨u,v,a,b,p1,p2,p3,h2,rfl⟩:=MF IH hd h hi hs (w:=w) hc hu hv;rw[<-yB]at h2;have q4:=MI IH hd h hi hs (w:=w) hu hv m (j+1) b h2;simp only[List.range'_succ,Op.eqItems,Sem.run_bind,p1,p2,p3,Result.andThen_ok];cases a
  simp;simpa using q4
theorem JZ{P:Program}{t:TypeId}(h:ZZ P t=true){us:List Value}{v:Value}(hs:J1 P t us v):v= .agg ⟨us⟩:=by simpa[J1,h]using hs
theorem V0{P:Program}{t:TypeId}(h:ZZ P t=false){us:List Value}{v:Value}(hs:J1 P t us v):us=[v]:=by simpa[J1,h]using hs
theorem HS(P:Program):∀n,HR P n
 |0=>fun t ks h=>by simp[VY]at h
 |n+1=>by
  intro t ks h d hd w K xs ys us vs u v r hc hu hv su sv;obtain⟨d,rfl⟩:∃d',d=d'+1:=⟨d-1,by omega⟩
  have Kc:∀{z:SV} {zs:List SV} {v:Value},w6 K zs [v]->zs=[z]->Den K z v:=by
   intro z zs v h e;subst e;simp only[w6]at h;obtain⟨_,_,e,h,_⟩:=h;cases e;exact h
  have oI:∀{ck:CK},Zk [ck] xs ys=some r->∃x y,xs=[x]/\ys=[y]:=by
   intro ck hc;have:=Uy hc;obtain⟨x,rfl⟩:=u5.1 this.1;obtain⟨y,rfl⟩:=u5.1 this.2;exact⟨x,y,rfl,rfl⟩
  simp only[VY]at h;split at h
  .rename_i k hk;injection h with h;subst h;have e1:=V0 (by simp[ZZ,hk]) su;have e2:=V0 (by simp[ZZ,hk]) sv;subst e1 e2;obtain⟨x,y,rfl,rfl⟩:=oI hc;obtain⟨m,p,rfl,rfl,rfl⟩:=MB hc;have h6:=Kc hu rfl;have h7:=Kc hv rfl;simp only[Den]at h6 h7;subst h6 h7;exact run_equalIn_int w d t _ _ m p hk
  .rename_i hk;injection h with h;subst h;have e1:=V0 (by simp[ZZ,hk]) su;have e2:=V0 (by simp[ZZ,hk]) sv;subst e1 e2;obtain⟨x,y,rfl,rfl⟩:=oI hc;obtain⟨m,p,rfl,rfl,rfl⟩:=MC hc;have h6:=Kc hu rfl;have h7:=Kc hv rfl;simp only[Den]at h6 h7;subst h6 h7;rw[run_equalIn_string w d t _ _ hk,DJ,DJ]
  .rename_i hk;injection h with h;subst h;have e1:=V0 (by simp[ZZ,hk]) su;have e2:=V0 (by simp[ZZ,hk]) sv;subst e1 e2;obtain⟨x,y,rfl,rfl⟩:=oI hc;obtain⟨m,p,rfl,rfl,rfl⟩:=MD hc;have h6:=Kc hu rfl;have h7:=Kc hv rfl;simp only[Den]at h6 h7;subst h6 h7;exact run_equalIn_bool w d t m p hk
  .rename_i fields ht;split at h
   case h_2=>cases h
   rename_i hp;have e1:=JZ (by simp[ZZ,ht]) su;have e2:=JZ (by simp[ZZ,ht]) sv;subst e1 e2;have hfo:P.fieldsOf t=fields:=by simp[Program.fieldsOf,ht]
   rw[run_equalIn_struct w d t ⟨us⟩ ⟨vs⟩ (by rw[hfo];exact ht) hp,hfo];exact MH (HS P n) (by omega) hu hv _ 0 ks h r (by simpa using hc)
  .rename_i m e ht;split at h
   case h_2=>cases h
   rename_i eC i aI hinfo;split at h
   case h_2=>cases h
   rename_i hsz;injection h with h;subst h;have e1:=JZ (by simp[ZZ,ht]) su;have e2:=JZ (by simp[ZZ,ht]) sv;subst e1 e2;have hsz:=Zs hsz;have hce:P.cellsOf e=eC.length:=by simp[Program.cellsOf,hinfo,hsz]
   rw[run_equalIn_array w d ⟨us⟩ ⟨vs⟩ ht hinfo,hce,List.range_eq_range'];exact MI (HS P n) (by omega) aI hinfo hsz hu hv m 0 r (by simpa using hc)
  cases h
def Zl7(P:Program)(n:Nat):Prop:=∀(t:TypeId) (ks:List CK),VY P n t=some ks->∀(d:Nat),n<=d->∀(w:World) (em:Bool) (us:List Value) (u:Value),us.length=ks.length->J1 P t us u->(Instr.checkKey em d t u).run P w= .ok () w
theorem Zh3(m:Nat)(ks:List CK):(oH m ks).length=m*ks.length:=by
 induction m with
 |zero=>simp[oH]
 |succ m ih=>simp only[oH,zg,ih,yB];omega
theorem CM(P:Program):∀n,Zl7 P n
 |0=>fun t ks h=>by simp[VY]at h
 |n+1=>by
  intro t ks h d hd w em us u hl su;obtain⟨d,rfl⟩:∃d',d=d'+1:=⟨d-1,by omega⟩;simp only[VY]at h;split at h
  .rename_i k hk;simp[Instr.checkKey,Z8 hk]
  .rename_i hk;simp[Instr.checkKey,Z8 hk]
  .rename_i hk;simp[Instr.checkKey,Z8 hk]
  .rename_i fields ht;split at h
   case h_2=>cases h
   have e1:=JZ (by simp[ZZ,ht]) su;subst e1;rw[Instr.checkKey];simp only[Sem.run_bind,Z8 ht,Result.andThen_ok];rw[<-Array.forIn_toList];obtain⟨off,dK⟩:∃off,off+ks.length<=us.length/\iV P (VY P n) off fields.toList=some ks:=⟨0,by omega,h⟩;clear h hl su;generalize fields.toList=L at dK
   induction L generalizing ks off with
   |nil=>simp
   |cons f fs ih=>
    obtain⟨hl,h⟩:=dK;simp only[iV]at h;split at h
    cases h
    rename_i hnm;simp only[zk]at hnm;have hname:f.name≠ "_" :=by simpa using hnm.1
    have hoff:=Zs hnm.2;split at h
    case h_2=>cases h
    rename_i eC i aI hinfo;split at h
    case h_2=>cases h
    rename_i Gp hsz hks;injection h with h;subst h;rw[zg]at hl;obtain⟨v,p1,s1⟩:=Jh (w:=w) aI hinfo (Zs hsz) (us:=us) (off:=off) (by omega);have p2:=CM P n f.type eC aI d (by omega) w em _ v (by rw[zu,zF];omega) s1;rw[<-hoff]at p1;simp only[List.forIn_cons,Sem.run_bind,hname,ne_eq,xe,yR,Result.andThen_ok,p1,p2,Sem.run_pure];exact ih Gp _ ⟨by omega,hks⟩
  .rename_i m e ht;split at h
   case h_2=>cases h
   rename_i eC i aI hinfo;split at h
   case h_2=>cases h
   rename_i hsz;injection h with h;subst h;have e1:=JZ (by simp[ZZ,ht]) su;subst e1;have hsz:=Zs hsz;rw[Zh3]at hl;rw[Instr.checkKey];simp only[Sem.run_bind,Z8 ht,Result.andThen_ok];simp only[Std.Legacy.Range.forIn_eq_forIn_range',Std.Legacy.Range.size,Nat.sub_zero,Nat.add_one_sub_one,Nat.div_one];have each:∀j∈List.range' 0 m,j<m:=fun j hj=>by simpa using hj
   generalize List.range' 0 m=is at each
   induction is with
   |nil=>simp
   |cons j is ih=>
    have hjm:=each j (by simp);have:(j+1)*eC.length<=m*eC.length:=yo _ hjm;rw[yB]at this;obtain⟨v,p1,s1⟩:=Jh (w:=w) aI hinfo hsz (us:=us) (off:=j*eC.length) (by omega);have p2:=CM P n e eC aI d (by omega) w em _ v (by rw[zu,zF];omega) s1;simp only[List.forIn_cons,Sem.run_bind,Zv hinfo,hsz,Result.andThen_ok,p1,p2,Sem.run_pure];have ih:=ih (fun y hy=>each y (by simp[hy]));exact ih
  cases h
