/- Part 4: SxFlat. Conditions: as each part says. -/
import Derived.Laws.StructEq
import Derived.ChangeKeysEq
import Derived.Test.YtlcbipfmodcedaaGreatDoorFrm0
set_option linter.unusedVariables false
set_option linter.unusedSimpArgs false
namespace Go.Sx
open Go
def sJ(P:Program)(go:TypeId->Option (List CK)):Nat->List Field->Option (List CK)
 |_,[]=>some []
 |off,f::fs=>match f.name != "_" &&Nat.beq f.offset off with
  |false=>none
  |true=>match go f.type,P.info? f.type with
   |some jH,some i=>match Nat.beq i.size jH.length,sJ P go (off+jH.length) fs with
    |true,some ks=>some (jH++ks)
    |_,_=>none
   |_,_=>none
def bI:Nat->List CK->List CK
 |0,_=>[]
 |n+1,ks=>ks++bI n ks
def VO(P:Program):Nat->TypeId->Option (List CK)
 |0,_=>none
 |n+1,t=>match P.underlying t with
  |some (.int k)=>some [.int k]
  |some .string=>some [.str]
  |some .bool=>some [.bool]
  |some (.struct fs)=>match P.stoodInHeld t with
   |false=>sJ P (VO P n) 0 fs.toList
   |true=>none
  |some (.array m e)=>match VO P n e,P.info? e with
   |some ks,some i=>match Nat.beq i.size ks.length with
    |true=>some (bI m ks)
    |false=>none
   |_,_=>none
  |_=>none
theorem XU:∀{k1 k2:List CK} {xs ys:List SV} {r:Bool},Zi (k1++k2) xs ys=some r->
 ∃a b,Zi k1 (xs.take k1.length) (ys.take k1.length)=some a/\Zi k2 (xs.drop k1.length) (ys.drop k1.length)=some b/\r=(a&&b)
 | [],k2,xs,ys,r,h=>⟨true,r,by simp[Zi],by simpa using h,rfl⟩
 |k::k1,k2,xs,ys,r,h=>by
  rw[List.cons_append]at h;generalize hkk:k::(k1++k2)=kk at h;unfold Zi at h;split at h
  cases hkk
  .rename_i q ks q1 a xs' q2 b ys';injection hkk with e1 e2;subst e1 e2;split at h
   case h_2=>cases h
   rename_i r' hk hr;injection h with h;subst h;obtain⟨x,y,h1,h2,h3⟩:=XU hr;subst h3;exact⟨(a==b&&x),y,by simp only[List.length_cons,List.take_succ_cons,Zi,hk,h1],by simpa using h2,by rw[vL]⟩
  .rename_i ks a xs' b ys';injection hkk with e1 e2;subst e1 e2;split at h
   case h_2=>cases h
   rename_i r' hr;injection h with h;subst h;obtain⟨x,y,h1,h2,h3⟩:=XU hr;subst h3;exact⟨(a==b&&x),y,by simp only[List.length_cons,List.take_succ_cons,Zi,h1],by simpa using h2,by rw[vL]⟩
  .rename_i ks a xs' b ys';injection hkk with e1 e2;subst e1 e2;split at h
   case h_2=>cases h
   rename_i r' hr;injection h with h;subst h;obtain⟨x,y,h1,h2,h3⟩:=XU hr;subst h3;exact⟨(a==b&&x),y,by simp only[List.length_cons,List.take_succ_cons,Zi,h1],by simpa using h2,by rw[vL]⟩
  cases h
theorem PK{k:IntKind}{x y:SV}{a:Bool}(h:Zi [.int k] [x] [y]=some a):∃m n,x= .int k m/\y= .int k n/\a=(m==n):=by
 cases x<;>cases y<;>first|(simp[Zi]at h;done)|skip
 rename_i k1 m k2 n;simp only[Zi]at h;split at h
 .rename_i r' hk hr;simp only[zi]at hr h;subst hr;simp only[zj]at hk;have g1:=wN.1 hk.1;have g2:=wN.1 hk.2;subst g1 g2;exact⟨m,n,rfl,rfl,by rw[<-h,zF]⟩
 cases h
theorem PL{x y:SV}{a:Bool}(h:Zi [.str] [x] [y]=some a):∃m n,x= .str m/\y= .str n/\a=(m==n):=by
 cases x<;>cases y<;>first|(simp[Zi]at h;done)|skip
 rename_i m n;simp only[Zi,zF,zi]at h;exact⟨m,n,rfl,rfl,h.symm⟩
theorem PN{x y:SV}{a:Bool}(h:Zi [.bool] [x] [y]=some a):∃m n,x= .bool m/\y= .bool n/\a=(m==n):=by
 cases x<;>cases y<;>first|(simp[Zi]at h;done)|skip
 rename_i m n;simp only[Zi,zF,zi]at h;exact⟨m,n,rfl,rfl,h.symm⟩
theorem PO{xs ys:List SV}{r:Bool}(h:Zi [] xs ys=some r):xs=[]/\ys=[]/\r=true:=by
 cases xs<;>cases ys<;>simp[Zi]at h
 exact⟨rfl,rfl,h⟩
theorem Ug:∀{ks:List CK} {xs ys:List SV} {r:Bool},Zi ks xs ys=some r->xs.length=ks.length/\ys.length=ks.length
 | [],xs,ys,r,h=>by
   obtain⟨rfl,rfl,_⟩:=PO h;exact⟨rfl,rfl⟩
 |k::ks,xs,ys,r,h=>by
  obtain⟨a,b,h1,h2,h3⟩:=XU (k1:=[k]) (k2:=ks) h;have h4:=Ug (ks:=ks) h2
  have:xs.length≠0/\ys.length≠0:=by
   constructor<;>intro e<;>(have e:=zM.1 e;subst e;cases k<;>simp[Zi]at h1)
  simp only[zD,List.length_singleton,List.length_cons,List.length_nil]at h4⊢;omega
def ZZ(P:Program)(t:TypeId):Bool:=match P.underlying t with
 |some (.struct _)=>true
 |some (.array _ _)=>true
 |_=>false
def XV(P:Program)(t:TypeId)(us:List Value)(v:Value):Prop:=match ZZ P t with
 |true=>v= .agg ⟨us⟩
 |false=>us=[v]
theorem Jd{P:Program}{w:World}{n:Nat}{t:TypeId}{ks:List CK}{i:TypeInfo}(h:VO P n t=some ks)(hi:P.info? t=some i)(hs:i.size=ks.length){us:List Value}{off:Nat}(hl:off+ks.length<=us.length):
 ∃v,(part t ⟨us⟩ off).run P w= .ok v w/\XV P t ((us.drop off).take ks.length) v:=by
 cases n with
 |zero=>simp[VO]at h
 |succ n=>
  have agg:∀d,P.underlying t=some d->ZZ P t=true->((∃fs,d= .struct fs)\/∃m e,d= .array m e)->∃v,(part t ⟨us⟩ off).run P w= .ok v w/\XV P t ((us.drop off).take ks.length) v:=by
   intro d hd ha hh;refine⟨.agg ⟨(us.drop off).take ks.length⟩,?_,by simp[XV,ha]⟩;have ag:(isAgg t).run P w= .ok true w:=by rcases hh with⟨fs,rfl⟩|⟨m,e,rfl⟩<;>simp[isAgg,Z6 hd]
   simp[part,ag,Zt hi,hs,List.extract_eq_take_drop]
  have one:∀d,P.underlying t=some d->ZZ P t=false->((∃k,d= .int k)\/d= .string\/d= .bool)->ks.length=1->∃v,(part t ⟨us⟩ off).run P w= .ok v w/\XV P t ((us.drop off).take ks.length) v:=by
   intro d hd ha hh h1;have hlt:off<us.length:=by omega
   refine⟨us[off],?_,?_⟩
   .have ag:(isAgg t).run P w= .ok false w:=by rcases hh with⟨k,rfl⟩|rfl|rfl<;>simp[isAgg,Z6 hd]
    simp[part,ag,z1 hlt]
   .simp only[XV,ha,h1];rw[zm hlt];rfl
  simp only[VO]at h;split at h
  rename_i k hd;exact one _ hd (by simp[ZZ,hd]) (.inl ⟨k,rfl⟩) (by injection h with h;subst h;rfl);rename_i hd;exact one _ hd (by simp[ZZ,hd]) (.inr (.inl rfl)) (by injection h with h;subst h;rfl);rename_i hd;exact one _ hd (by simp[ZZ,hd]) (.inr (.inr rfl)) (by injection h with h;subst h;rfl);rename_i fs hd;exact agg _ hd (by simp[ZZ,hd]) (.inl ⟨fs,rfl⟩);rename_i m e hd;exact agg _ hd (by simp[ZZ,hd]) (.inr ⟨m,e,rfl⟩);cases h
theorem Uh{K:Env}:∀{xs:List SV} {us:List Value},vV K xs us->us.length=xs.length
 | [],us,h=>by simp only[vV]at h;subst h;rfl
 |x::xs,us,h=>by
  simp only[vV]at h;obtain⟨u,vs,rfl,_,h⟩:=h;simp[Uh h]
theorem Je{K:Env}:∀{n:Nat} {xs:List SV} {us:List Value},vV K xs us->vV K (xs.drop n) (us.drop n)
 |0,xs,us,h=>h
 |n+1,[],us,h=>by simp only[vV]at h;subst h;simp[vV]
 |n+1,x::xs,us,h=>by
  simp only[vV]at h;obtain⟨u,vs,rfl,_,h⟩:=h;exact Je (n:=n) h
theorem Jf{K:Env}:∀{n:Nat} {xs:List SV} {us:List Value},vV K xs us->vV K (xs.take n) (us.take n)
 |0,xs,us,h=>by simp[vV]
 |n+1,[],us,h=>by simp only[vV]at h;subst h;simp[vV]
 |n+1,x::xs,us,h=>by
  simp only[vV]at h;obtain⟨u,vs,rfl,h0,h⟩:=h;simp only[List.take_succ_cons,vV];exact⟨u,_,rfl,h0,Jf h⟩
def Fg(P:Program)(n:Nat):Prop:=∀(t:TypeId) (ks:List CK),VO P n t=some ks->∀(d:Nat),n<=d->∀(w:World) (K:Env) (xs ys:List SV) (us vs:List Value) (u v:Value) (r:Bool),Zi ks xs ys=some r->vV K xs us->vV K ys vs->XV P t us u->XV P t vs v->
 (Op.equalIn d t u v).run P w= .ok r w
theorem PR{P:Program}{n d:Nat}(IH:Fg P n)(hd:n<=d){t:TypeId}{jH QW:List CK}{i:TypeInfo}(h:VO P n t=some jH)(hi:P.info? t=some i)(hs:i.size=jH.length){w:World}{K:Env}{xs ys:List SV}{us vs:List Value}{off:Nat}{r:Bool}(hc:Zi (jH++QW) (xs.drop off) (ys.drop off)=some r)(hu:vV K xs us)(hv:vV K ys vs):
 ∃u v a b,(part t ⟨us⟩ off).run P w= .ok u w/\(part t ⟨vs⟩ off).run P w= .ok v w/\(Op.equalIn d t u v).run P w= .ok a w/\Zi QW (xs.drop (off+jH.length)) (ys.drop (off+jH.length))=some b/\r=(a&&b):=by
 obtain⟨a,b,h1,h2,h3⟩:=XU hc;have hl:=Ug hc;rw[zD,zD,zh]at hl;have lu:=Uh hu;have lv:=Uh hv;by_cases h0:jH.length=0
 ·
  cases n with
  |zero=>simp[VO]at h
  |succ n=>
   by_cases hx:off<=us.length/\off<=vs.length
   .obtain⟨u,p1,s1⟩:=Jd (w:=w) h hi hs (us:=us) (off:=off) (by omega);obtain⟨v,p2,s2⟩:=Jd (w:=w) h hi hs (us:=vs) (off:=off) (by omega);exact⟨u,v,a,b,p1,p2,IH t jH h d hd w K _ _ _ _ u v a h1 (Jf (Je hu)) (Jf (Je hv)) s1 s2,by rw[yB,yB]at h2;exact h2,h3⟩
   .have hk:jH=[]:=zM.1 h0;subst hk
    have ag:∃dd,P.underlying t=some dd/\((∃fs,dd= .struct fs)\/∃m e,dd= .array m e):=by
     simp only[VO]at h;split at h
     cases h
     cases h
     cases h
     rename_i fs hd;exact⟨_,hd, .inl ⟨fs,rfl⟩⟩;rename_i m e hd;exact⟨_,hd, .inr ⟨m,e,rfl⟩⟩;cases h
    obtain⟨dd,eV,hh⟩:=ag;have ha:ZZ P t=true:=by rcases hh with⟨fs,rfl⟩|⟨m,e,rfl⟩<;>simp[ZZ,eV]
    have IU:(isAgg t).run P w= .ok true w:=by rcases hh with⟨fs,rfl⟩|⟨m,e,rfl⟩<;>simp[isAgg,Z6 eV]
    have q:∀zs:List Value,(part t ⟨zs⟩ off).run P w= .ok (.agg ⟨(zs.drop off).take 0⟩) w:=by
     intro zs;have hs':i.size=0:=hs;simp only[part,Sem.run_bind,IU,Result.andThen_ok,Zt hi,hs',yJ];congr 1;simp[List.extract_eq_take_drop]
    exact⟨_,_,a,b,q us,q vs,IH t [] h d hd w K _ _ _ _ _ _ a h1 (Jf (Je hu)) (Jf (Je hv)) (by simp[XV,ha]) (by simp[XV,ha]),by rw[yB,yB]at h2;exact h2,h3⟩
 obtain⟨u,p1,s1⟩:=Jd (w:=w) h hi hs (us:=us) (off:=off) (by omega);obtain⟨v,p2,s2⟩:=Jd (w:=w) h hi hs (us:=vs) (off:=off) (by omega);exact⟨u,v,a,b,p1,p2,IH t jH h d hd w K _ _ _ _ u v a h1 (Jf (Je hu)) (Jf (Je hv)) s1 s2,by rw[yB,yB]at h2;exact h2,h3⟩
theorem PS{xs ys:List SV}{r:Bool}(h:Zi [] xs ys=some r):r=true:=(PO h).2.2
theorem PT{P:Program}{n d:Nat}(IH:Fg P n)(hd:n<=d){w:World}{K:Env}{xs ys:List SV}{us vs:List Value}(hu:vV K xs us)(hv:vV K ys vs):∀(fs:List Field) (off:Nat) (ks:List CK),sJ P (VO P n) off fs=some ks->∀(r:Bool),Zi ks (xs.drop off) (ys.drop off)=some r->(Op.eqFields d ⟨us⟩ ⟨vs⟩ fs).run P w= .ok r w
 | [],off,ks,h,r,hc=>by
   simp only[sJ,zi]at h;subst h;rw[PS hc];rfl
 |f::fs,off,ks,h,r,hc=>by
  simp only[sJ]at h;split at h
  cases h
  rename_i hnm;simp only[zj]at hnm;have hname:f.name≠ "_" :=by simpa using hnm.1
  have hoff:=Zr hnm.2;split at h
  case h_2=>cases h
  rename_i jH i cG hinfo;split at h
  case h_2=>cases h
  rename_i QW hsz hks;injection h with h;subst h;obtain⟨u,v,a,b,p1,p2,p3,h2,rfl⟩:=PR IH hd cG hinfo (Zr hsz) (w:=w) hc hu hv;have q4:=PT IH hd (w:=w) hu hv fs _ _ hks b h2;rw[<-hoff]at p1 p2;simp only[Op.eqFields,hname,ne_eq,xg,yJ,Sem.run_bind,p1,p2,p3,Result.andThen_ok];cases a
  simp;simpa using q4
theorem PU{P:Program}{n d:Nat}(IH:Fg P n)(hd:n<=d){e:TypeId}{jH:List CK}{i:TypeInfo}(h:VO P n e=some jH)(hi:P.info? e=some i)(hs:i.size=jH.length){w:World}{K:Env}{xs ys:List SV}{us vs:List Value}(hu:vV K xs us)(hv:vV K ys vs):
 ∀(m j:Nat) (r:Bool),Zi (bI m jH) (xs.drop (j*jH.length)) (ys.drop (j*jH.length))=some r->(Op.eqItems d e jH.length ⟨us⟩ ⟨vs⟩ (List.range' j m)).run P w= .ok r w
 |0,j,r,hc=>by
  rw[PS hc];rfl
 |m+1,j,r,hc=>by
  simp only[bI]at hc;obtain⟨u,v,a,b,p1,p2,p3,h2,rfl⟩:=PR IH hd h hi hs (w:=w) hc hu hv;rw[<-yC]at h2;have q4:=PU IH hd h hi hs (w:=w) hu hv m (j+1) b h2;simp only[List.range'_succ,Op.eqItems,Sem.run_bind,p1,p2,p3,Result.andThen_ok];cases a
  simp;simpa using q4
theorem V0{P:Program}{t:TypeId}(h:ZZ P t=true){us:List Value}{v:Value}(hs:XV P t us v):v= .agg ⟨us⟩:=by simpa[XV,h]using hs
theorem V1{P:Program}{t:TypeId}(h:ZZ P t=false){us:List Value}{v:Value}(hs:XV P t us v):us=[v]:=by simpa[XV,h]using hs
theorem Fh(P:Program):∀n,Fg P n
 |0=>fun t ks h=>by simp[VO]at h
 |n+1=>by
  intro t ks h d hd w K xs ys us vs u v r hc hu hv su sv;obtain⟨d,rfl⟩:∃d',d=d'+1:=⟨d-1,by omega⟩
  have iM:∀{z:SV} {zs:List SV} {v:Value},vV K zs [v]->zs=[z]->Den K z v:=by
   intro z zs v h e;subst e;simp only[vV]at h;obtain⟨_,_,e,h,_⟩:=h;cases e;exact h
  have bJ:∀{ck:CK},Zi [ck] xs ys=some r->∃x y,xs=[x]/\ys=[y]:=by
   intro ck hc;have:=Ug hc;obtain⟨x,rfl⟩:=List.length_eq_one_iff.1 this.1;obtain⟨y,rfl⟩:=List.length_eq_one_iff.1 this.2;exact⟨x,y,rfl,rfl⟩
  simp only[VO]at h;split at h
  .rename_i k hk;injection h with h;subst h;have e1:=V1 (by simp[ZZ,hk]) su;have e2:=V1 (by simp[ZZ,hk]) sv;subst e1 e2;obtain⟨x,y,rfl,rfl⟩:=bJ hc;obtain⟨m,p,rfl,rfl,rfl⟩:=PK hc;have h6:=iM hu rfl;have h7:=iM hv rfl;simp only[Den]at h6 h7;subst h6 h7;exact run_equalIn_int w d t _ _ m p hk
  .rename_i hk;injection h with h;subst h;have e1:=V1 (by simp[ZZ,hk]) su;have e2:=V1 (by simp[ZZ,hk]) sv;subst e1 e2;obtain⟨x,y,rfl,rfl⟩:=bJ hc;obtain⟨m,p,rfl,rfl,rfl⟩:=PL hc;have h6:=iM hu rfl;have h7:=iM hv rfl;simp only[Den]at h6 h7;subst h6 h7;rw[run_equalIn_string w d t _ _ hk,Ek,Ek]
  .rename_i hk;injection h with h;subst h;have e1:=V1 (by simp[ZZ,hk]) su;have e2:=V1 (by simp[ZZ,hk]) sv;subst e1 e2;obtain⟨x,y,rfl,rfl⟩:=bJ hc;obtain⟨m,p,rfl,rfl,rfl⟩:=PN hc;have h6:=iM hu rfl;have h7:=iM hv rfl;simp only[Den]at h6 h7;subst h6 h7;exact run_equalIn_bool w d t m p hk
  .rename_i fields ht;split at h
   case h_2=>cases h
   rename_i hp;have e1:=V0 (by simp[ZZ,ht]) su;have e2:=V0 (by simp[ZZ,ht]) sv;subst e1 e2;have hfo:P.fieldsOf t=fields:=by simp[Program.fieldsOf,ht]
   rw[run_equalIn_struct w d t ⟨us⟩ ⟨vs⟩ (by rw[hfo];exact ht) hp,hfo];exact PT (Fh P n) (by omega) hu hv _ 0 ks h r (by simpa using hc)
  .rename_i m e ht;split at h
   case h_2=>cases h
   rename_i jH i cG hinfo;split at h
   case h_2=>cases h
   rename_i hsz;injection h with h;subst h;have e1:=V0 (by simp[ZZ,ht]) su;have e2:=V0 (by simp[ZZ,ht]) sv;subst e1 e2;have hsz:=Zr hsz;have hce:P.cellsOf e=jH.length:=by simp[Program.cellsOf,hinfo,hsz]
   rw[run_equalIn_array w d ⟨us⟩ ⟨vs⟩ ht hinfo,hce,List.range_eq_range'];exact PU (Fh P n) (by omega) cG hinfo hsz hu hv m 0 r (by simpa using hc)
  cases h
def IV(P:Program)(n:Nat):Prop:=∀(t:TypeId) (ks:List CK),VO P n t=some ks->∀(d:Nat),n<=d->∀(w:World) (em:Bool) (us:List Value) (u:Value),us.length=ks.length->XV P t us u->(Instr.checkKey em d t u).run P w= .ok () w
theorem IX(m:Nat)(ks:List CK):(bI m ks).length=m*ks.length:=by
 induction m with
 |zero=>simp[bI]
 |succ m ih=>simp only[bI,zh,ih,yC];omega
theorem Dk(P:Program):∀n,IV P n
 |0=>fun t ks h=>by simp[VO]at h
 |n+1=>by
  intro t ks h d hd w em us u hl su;obtain⟨d,rfl⟩:∃d',d=d'+1:=⟨d-1,by omega⟩;simp only[VO]at h;split at h
  .rename_i k hk;simp[Instr.checkKey,Z6 hk]
  .rename_i hk;simp[Instr.checkKey,Z6 hk]
  .rename_i hk;simp[Instr.checkKey,Z6 hk]
  .rename_i fields ht;split at h
   case h_2=>cases h
   have e1:=V0 (by simp[ZZ,ht]) su;subst e1;rw[Instr.checkKey];simp only[Sem.run_bind,Z6 ht,Result.andThen_ok];rw[<-Array.forIn_toList];obtain⟨off,fh⟩:∃off,off+ks.length<=us.length/\sJ P (VO P n) off fields.toList=some ks:=⟨0,by omega,h⟩;clear h hl su;generalize fields.toList=L at fh
   induction L generalizing ks off with
   |nil=>simp
   |cons f fs ih=>
    obtain⟨hl,h⟩:=fh;simp only[sJ]at h;split at h
    cases h
    rename_i hnm;simp only[zj]at hnm;have hname:f.name≠ "_" :=by simpa using hnm.1
    have hoff:=Zr hnm.2;split at h
    case h_2=>cases h
    rename_i jH i cG hinfo;split at h
    case h_2=>cases h
    rename_i QW hsz hks;injection h with h;subst h;rw[zh]at hl;obtain⟨v,p1,s1⟩:=Jd (w:=w) cG hinfo (Zr hsz) (us:=us) (off:=off) (by omega);have p2:=Dk P n f.type jH cG d (by omega) w em _ v (by rw[zq,zD];omega) s1;rw[<-hoff]at p1;simp only[List.forIn_cons,Sem.run_bind,hname,ne_eq,xg,yJ,Result.andThen_ok,p1,p2,Sem.run_pure];exact ih QW _ ⟨by omega,hks⟩
  .rename_i m e ht;split at h
   case h_2=>cases h
   rename_i jH i cG hinfo;split at h
   case h_2=>cases h
   rename_i hsz;injection h with h;subst h;have e1:=V0 (by simp[ZZ,ht]) su;subst e1;have hsz:=Zr hsz;rw[IX]at hl;rw[Instr.checkKey];simp only[Sem.run_bind,Z6 ht,Result.andThen_ok];simp only[Std.Legacy.Range.forIn_eq_forIn_range',Std.Legacy.Range.size,Nat.sub_zero,Nat.add_one_sub_one,Nat.div_one];have each:∀j∈List.range' 0 m,j<m:=fun j hj=>by simpa using hj
   generalize List.range' 0 m=is at each
   induction is with
   |nil=>simp
   |cons j is ih=>
    have hjm:=each j (by simp);have:(j+1)*jH.length<=m*jH.length:=ym _ hjm;rw[yC]at this;obtain⟨v,p1,s1⟩:=Jd (w:=w) cG hinfo hsz (us:=us) (off:=j*jH.length) (by omega);have p2:=Dk P n e jH cG d (by omega) w em _ v (by rw[zq,zD];omega) s1;simp only[List.forIn_cons,Sem.run_bind,Zt hinfo,hsz,Result.andThen_ok,p1,p2,Sem.run_pure];have ih:=ih (fun y hy=>each y (by simp[hy]));exact ih
  cases h
end Go.Sx
