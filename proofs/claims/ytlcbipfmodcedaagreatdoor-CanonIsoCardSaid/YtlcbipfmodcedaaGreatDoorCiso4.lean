/- Part 4: SxFlat. Conditions: as each part says. -/
import Derived.Laws.StructEq
import Derived.ChangeKeysEq
import Derived.Test.YtlcbipfmodcedaaGreatDoorCiso0
set_option linter.unusedVariables false
set_option linter.unusedSimpArgs false
namespace Go.Sx
open Go
def tc(P:Program)(go:TypeId->Option (List CK)):Nat->List Field->Option (List CK)
 |_,[]=>some []
 |off,f::fs=>match f.name != "_" &&Nat.beq f.offset off with
  |false=>none
  |true=>match go f.type,P.info? f.type with
   |some gp,some i=>match Nat.beq i.size gp.length,tc P go (off+gp.length) fs with
    |true,some ks=>some (gp++ks)
    |_,_=>none
   |_,_=>none
def bX:Nat->List CK->List CK
 |0,_=>[]
 |n+1,ks=>ks++bX n ks
def Vb(P:Program):Nat->TypeId->Option (List CK)
 |0,_=>none
 |n+1,t=>match P.underlying t with
  |some (.int k)=>some [.int k]
  |some .string=>some [.str]
  |some .bool=>some [.bool]
  |some (.struct fs)=>match P.stoodInHeld t with
   |false=>tc P (Vb P n) 0 fs.toList
   |true=>none
  |some (.array m e)=>match Vb P n e,P.info? e with
   |some ks,some i=>match Nat.beq i.size ks.length with
    |true=>some (bX m ks)
    |false=>none
   |_,_=>none
  |_=>none
theorem XI:∀{k1 k2:List CK} {xs ys:List SV} {r:Bool},Zi (k1++k2) xs ys=some r->
 ∃a b,Zi k1 (xs.take k1.length) (ys.take k1.length)=some a/\Zi k2 (xs.drop k1.length) (ys.drop k1.length)=some b/\r=(a&&b)
 | [],k2,xs,ys,r,h=>⟨true,r,by simp[Zi],by simpa using h,rfl⟩
 |k::k1,k2,xs,ys,r,h=>by
  rw[List.cons_append]at h;generalize hkk:k::(k1++k2)=kk at h;unfold Zi at h;split at h
  cases hkk
  .rename_i q ks q1 a xs' q2 b ys';injection hkk with e1 e2;subst e1 e2;split at h
   case h_2=>cases h
   rename_i r' hk hr;injection h with h;subst h;obtain⟨x,y,h1,h2,h3⟩:=XI hr;subst h3;exact⟨(a==b&&x),y,by simp only[List.length_cons,List.take_succ_cons,Zi,hk,h1],by simpa using h2,by rw[Bool.and_assoc]⟩
  .rename_i ks a xs' b ys';injection hkk with e1 e2;subst e1 e2;split at h
   case h_2=>cases h
   rename_i r' hr;injection h with h;subst h;obtain⟨x,y,h1,h2,h3⟩:=XI hr;subst h3;exact⟨(a==b&&x),y,by simp only[List.length_cons,List.take_succ_cons,Zi,h1],by simpa using h2,by rw[Bool.and_assoc]⟩
  .rename_i ks a xs' b ys';injection hkk with e1 e2;subst e1 e2;split at h
   case h_2=>cases h
   rename_i r' hr;injection h with h;subst h;obtain⟨x,y,h1,h2,h3⟩:=XI hr;subst h3;exact⟨(a==b&&x),y,by simp only[List.length_cons,List.take_succ_cons,Zi,h1],by simpa using h2,by rw[Bool.and_assoc]⟩
  cases h
theorem Nl{k:IntKind}{x y:SV}{a:Bool}(h:Zi [.int k] [x] [y]=some a):∃m n,x= .int k m/\y= .int k n/\a=(m==n):=by
 cases x<;>cases y<;>first|(simp[Zi]at h;done)|skip
 rename_i k1 m k2 n;simp only[Zi]at h;split at h
 .rename_i r' hk hr;simp only[zh]at hr h;subst hr;simp only[zk]at hk;have g1:=qc.1 hk.1;have g2:=qc.1 hk.2;subst g1 g2;exact⟨m,n,rfl,rfl,by rw[<-h,y6]⟩
 cases h
theorem Nn{x y:SV}{a:Bool}(h:Zi [.str] [x] [y]=some a):∃m n,x= .str m/\y= .str n/\a=(m==n):=by
 cases x<;>cases y<;>first|(simp[Zi]at h;done)|skip
 rename_i m n;simp only[Zi,y6,zh]at h;exact⟨m,n,rfl,rfl,h.symm⟩
theorem Np{x y:SV}{a:Bool}(h:Zi [.bool] [x] [y]=some a):∃m n,x= .bool m/\y= .bool n/\a=(m==n):=by
 cases x<;>cases y<;>first|(simp[Zi]at h;done)|skip
 rename_i m n;simp only[Zi,y6,zh]at h;exact⟨m,n,rfl,rfl,h.symm⟩
theorem Nq{xs ys:List SV}{r:Bool}(h:Zi [] xs ys=some r):xs=[]/\ys=[]/\r=true:=by
 cases xs<;>cases ys<;>simp[Zi]at h
 exact⟨rfl,rfl,h⟩
theorem VI:∀{ks:List CK} {xs ys:List SV} {r:Bool},Zi ks xs ys=some r->xs.length=ks.length/\ys.length=ks.length
 | [],xs,ys,r,h=>by
   obtain⟨rfl,rfl,_⟩:=Nq h;exact⟨rfl,rfl⟩
 |k::ks,xs,ys,r,h=>by
  obtain⟨a,b,h1,h2,h3⟩:=XI (k1:=[k]) (k2:=ks) h;have h4:=VI (ks:=ks) h2
  have:xs.length≠0/\ys.length≠0:=by
   constructor<;>intro e<;>(have e:=zO.1 e;subst e;cases k<;>simp[Zi]at h1)
  simp only[zW,List.length_singleton,List.length_cons,List.length_nil]at h4⊢;omega
def Y4(P:Program)(t:TypeId):Bool:=match P.underlying t with
 |some (.struct _)=>true
 |some (.array _ _)=>true
 |_=>false
def XJ(P:Program)(t:TypeId)(us:List Value)(v:Value):Prop:=match Y4 P t with
 |true=>v= .agg ⟨us⟩
 |false=>us=[v]
theorem XX{P:Program}{w:World}{n:Nat}{t:TypeId}{ks:List CK}{i:TypeInfo}(h:Vb P n t=some ks)(hi:P.info? t=some i)(hs:i.size=ks.length){us:List Value}{off:Nat}(hl:off+ks.length<=us.length):
 ∃v,(part t ⟨us⟩ off).run P w= .ok v w/\XJ P t ((us.drop off).take ks.length) v:=by
 cases n with
 |zero=>simp[Vb]at h
 |succ n=>
  have agg:∀d,P.underlying t=some d->Y4 P t=true->((∃fs,d= .struct fs)\/∃m e,d= .array m e)->∃v,(part t ⟨us⟩ off).run P w= .ok v w/\XJ P t ((us.drop off).take ks.length) v:=by
   intro d hd ha hh;refine⟨.agg ⟨(us.drop off).take ks.length⟩,?_,by simp[XJ,ha]⟩;have ag:(isAgg t).run P w= .ok true w:=by rcases hh with⟨fs,rfl⟩|⟨m,e,rfl⟩<;>simp[isAgg,Z5 hd]
   simp[part,ag,Zr hi,hs,List.extract_eq_take_drop]
  have one:∀d,P.underlying t=some d->Y4 P t=false->((∃k,d= .int k)\/d= .string\/d= .bool)->ks.length=1->∃v,(part t ⟨us⟩ off).run P w= .ok v w/\XJ P t ((us.drop off).take ks.length) v:=by
   intro d hd ha hh h1;have hlt:off<us.length:=by omega
   refine⟨us[off],?_,?_⟩
   .have ag:(isAgg t).run P w= .ok false w:=by rcases hh with⟨k,rfl⟩|rfl|rfl<;>simp[isAgg,Z5 hd]
    simp[part,ag,z1 hlt]
   .simp only[XJ,ha,h1];rw[zQ hlt];rfl
  simp only[Vb]at h;split at h
  rename_i k hd;exact one _ hd (by simp[Y4,hd]) (.inl ⟨k,rfl⟩) (by injection h with h;subst h;rfl);rename_i hd;exact one _ hd (by simp[Y4,hd]) (.inr (.inl rfl)) (by injection h with h;subst h;rfl);rename_i hd;exact one _ hd (by simp[Y4,hd]) (.inr (.inr rfl)) (by injection h with h;subst h;rfl);rename_i fs hd;exact agg _ hd (by simp[Y4,hd]) (.inl ⟨fs,rfl⟩);rename_i m e hd;exact agg _ hd (by simp[Y4,hd]) (.inr ⟨m,e,rfl⟩);cases h
theorem VJ{K:Env}:∀{xs:List SV} {us:List Value},vX K xs us->us.length=xs.length
 | [],us,h=>by simp only[vX]at h;subst h;rfl
 |x::xs,us,h=>by
  simp only[vX]at h;obtain⟨u,vs,rfl,_,h⟩:=h;simp[VJ h]
theorem XY{K:Env}:∀{n:Nat} {xs:List SV} {us:List Value},vX K xs us->vX K (xs.drop n) (us.drop n)
 |0,xs,us,h=>h
 |n+1,[],us,h=>by simp only[vX]at h;subst h;simp[vX]
 |n+1,x::xs,us,h=>by
  simp only[vX]at h;obtain⟨u,vs,rfl,_,h⟩:=h;exact XY (n:=n) h
theorem XZ{K:Env}:∀{n:Nat} {xs:List SV} {us:List Value},vX K xs us->vX K (xs.take n) (us.take n)
 |0,xs,us,h=>by simp[vX]
 |n+1,[],us,h=>by simp only[vX]at h;subst h;simp[vX]
 |n+1,x::xs,us,h=>by
  simp only[vX]at h;obtain⟨u,vs,rfl,h0,h⟩:=h;simp only[List.take_succ_cons,vX];exact⟨u,_,rfl,h0,XZ h⟩
def FN(P:Program)(n:Nat):Prop:=∀(t:TypeId) (ks:List CK),Vb P n t=some ks->∀(d:Nat),n<=d->∀(w:World) (K:Env) (xs ys:List SV) (us vs:List Value) (u v:Value) (r:Bool),Zi ks xs ys=some r->vX K xs us->vX K ys vs->XJ P t us u->XJ P t vs v->
 (Op.equalIn d t u v).run P w= .ok r w
theorem Nr{P:Program}{n d:Nat}(IH:FN P n)(hd:n<=d){t:TypeId}{gp Kr:List CK}{i:TypeInfo}(h:Vb P n t=some gp)(hi:P.info? t=some i)(hs:i.size=gp.length){w:World}{K:Env}{xs ys:List SV}{us vs:List Value}{off:Nat}{r:Bool}(hc:Zi (gp++Kr) (xs.drop off) (ys.drop off)=some r)(hu:vX K xs us)(hv:vX K ys vs):
 ∃u v a b,(part t ⟨us⟩ off).run P w= .ok u w/\(part t ⟨vs⟩ off).run P w= .ok v w/\(Op.equalIn d t u v).run P w= .ok a w/\Zi Kr (xs.drop (off+gp.length)) (ys.drop (off+gp.length))=some b/\r=(a&&b):=by
 obtain⟨a,b,h1,h2,h3⟩:=XI hc;have hl:=VI hc;rw[zW,zW,ze]at hl;have lu:=VJ hu;have lv:=VJ hv;by_cases h0:gp.length=0
 ·
  cases n with
  |zero=>simp[Vb]at h
  |succ n=>
   by_cases hx:off<=us.length/\off<=vs.length
   .obtain⟨u,p1,s1⟩:=XX (w:=w) h hi hs (us:=us) (off:=off) (by omega);obtain⟨v,p2,s2⟩:=XX (w:=w) h hi hs (us:=vs) (off:=off) (by omega);exact⟨u,v,a,b,p1,p2,IH t gp h d hd w K _ _ _ _ u v a h1 (XZ (XY hu)) (XZ (XY hv)) s1 s2,by rw[x4,x4]at h2;exact h2,h3⟩
   .have hk:gp=[]:=zO.1 h0;subst hk
    have ag:∃dd,P.underlying t=some dd/\((∃fs,dd= .struct fs)\/∃m e,dd= .array m e):=by
     simp only[Vb]at h;split at h
     cases h
     cases h
     cases h
     rename_i fs hd;exact⟨_,hd, .inl ⟨fs,rfl⟩⟩;rename_i m e hd;exact⟨_,hd, .inr ⟨m,e,rfl⟩⟩;cases h
    obtain⟨dd,fu,hh⟩:=ag;have ha:Y4 P t=true:=by rcases hh with⟨fs,rfl⟩|⟨m,e,rfl⟩<;>simp[Y4,fu]
    have agr:(isAgg t).run P w= .ok true w:=by rcases hh with⟨fs,rfl⟩|⟨m,e,rfl⟩<;>simp[isAgg,Z5 fu]
    have q:∀zs:List Value,(part t ⟨zs⟩ off).run P w= .ok (.agg ⟨(zs.drop off).take 0⟩) w:=by
     intro zs;have hs':i.size=0:=hs;simp only[part,Sem.run_bind,agr,Result.andThen_ok,Zr hi,hs',yH];congr 1;simp[List.extract_eq_take_drop]
    exact⟨_,_,a,b,q us,q vs,IH t [] h d hd w K _ _ _ _ _ _ a h1 (XZ (XY hu)) (XZ (XY hv)) (by simp[XJ,ha]) (by simp[XJ,ha]),by rw[x4,x4]at h2;exact h2,h3⟩
 obtain⟨u,p1,s1⟩:=XX (w:=w) h hi hs (us:=us) (off:=off) (by omega);obtain⟨v,p2,s2⟩:=XX (w:=w) h hi hs (us:=vs) (off:=off) (by omega);exact⟨u,v,a,b,p1,p2,IH t gp h d hd w K _ _ _ _ u v a h1 (XZ (XY hu)) (XZ (XY hv)) s1 s2,by rw[x4,x4]at h2;exact h2,h3⟩
theorem Ns{xs ys:List SV}{r:Bool}(h:Zi [] xs ys=some r):r=true:=(Nq h).2.2
theorem Nt{P:Program}{n d:Nat}(IH:FN P n)(hd:n<=d){w:World}{K:Env}{xs ys:List SV}{us vs:List Value}(hu:vX K xs us)(hv:vX K ys vs):∀(fs:List Field) (off:Nat) (ks:List CK),tc P (Vb P n) off fs=some ks->∀(r:Bool),Zi ks (xs.drop off) (ys.drop off)=some r->(Op.eqFields d ⟨us⟩ ⟨vs⟩ fs).run P w= .ok r w
 | [],off,ks,h,r,hc=>by
   simp only[tc,zh]at h;subst h;rw[Ns hc];rfl
 |f::fs,off,ks,h,r,hc=>by
  simp only[tc]at h;split at h
  cases h
  rename_i hnm;simp only[zk]at hnm;have hname:f.name≠ "_" :=by simpa using hnm.1
  have hoff:=Zq hnm.2;split at h
  case h_2=>cases h
  rename_i gp i mT hinfo;split at h
  case h_2=>cases h
  rename_i Kr hsz hks;injection h with h;subst h;obtain⟨u,v,a,b,p1,p2,p3,h2,rfl⟩:=Nr IH hd mT hinfo (Zq hsz) (w:=w) hc hu hv;have q4:=Nt IH hd (w:=w) hu hv fs _ _ hks b h2;rw[<-hoff]at p1 p2;simp only[Op.eqFields,hname,ne_eq,x9,yH,Sem.run_bind,p1,p2,p3,Result.andThen_ok];cases a
  simp;simpa using q4
theorem Nu{P:Program}{n d:Nat}(IH:FN P n)(hd:n<=d){e:TypeId}{gp:List CK}{i:TypeInfo}(h:Vb P n e=some gp)(hi:P.info? e=some i)(hs:i.size=gp.length){w:World}{K:Env}{xs ys:List SV}{us vs:List Value}(hu:vX K xs us)(hv:vX K ys vs):
 ∀(m j:Nat) (r:Bool),Zi (bX m gp) (xs.drop (j*gp.length)) (ys.drop (j*gp.length))=some r->(Op.eqItems d e gp.length ⟨us⟩ ⟨vs⟩ (List.range' j m)).run P w= .ok r w
 |0,j,r,hc=>by
  rw[Ns hc];rfl
 |m+1,j,r,hc=>by
  simp only[bX]at hc;obtain⟨u,v,a,b,p1,p2,p3,h2,rfl⟩:=Nr IH hd h hi hs (w:=w) hc hu hv;rw[<-yB]at h2;have q4:=Nu IH hd h hi hs (w:=w) hu hv m (j+1) b h2;simp only[List.range'_succ,Op.eqItems,Sem.run_bind,p1,p2,p3,Result.andThen_ok];cases a
  simp;simpa using q4
theorem Jv{P:Program}{t:TypeId}(h:Y4 P t=true){us:List Value}{v:Value}(hs:XJ P t us v):v= .agg ⟨us⟩:=by simpa[XJ,h]using hs
theorem Jw{P:Program}{t:TypeId}(h:Y4 P t=false){us:List Value}{v:Value}(hs:XJ P t us v):us=[v]:=by simpa[XJ,h]using hs
theorem FO(P:Program):∀n,FN P n
 |0=>fun t ks h=>by simp[Vb]at h
 |n+1=>by
  intro t ks h d hd w K xs ys us vs u v r hc hu hv su sv;obtain⟨d,rfl⟩:∃d',d=d'+1:=⟨d-1,by omega⟩
  have Q6:∀{z:SV} {zs:List SV} {v:Value},vX K zs [v]->zs=[z]->Den K z v:=by
   intro z zs v h e;subst e;simp only[vX]at h;obtain⟨_,_,e,h,_⟩:=h;cases e;exact h
  have bY:∀{ck:CK},Zi [ck] xs ys=some r->∃x y,xs=[x]/\ys=[y]:=by
   intro ck hc;have:=VI hc;obtain⟨x,rfl⟩:=List.length_eq_one_iff.1 this.1;obtain⟨y,rfl⟩:=List.length_eq_one_iff.1 this.2;exact⟨x,y,rfl,rfl⟩
  simp only[Vb]at h;split at h
  .rename_i k hk;injection h with h;subst h;have e1:=Jw (by simp[Y4,hk]) su;have e2:=Jw (by simp[Y4,hk]) sv;subst e1 e2;obtain⟨x,y,rfl,rfl⟩:=bY hc;obtain⟨m,p,rfl,rfl,rfl⟩:=Nl hc;have h6:=Q6 hu rfl;have h7:=Q6 hv rfl;simp only[Den]at h6 h7;subst h6 h7;exact run_equalIn_int w d t _ _ m p hk
  .rename_i hk;injection h with h;subst h;have e1:=Jw (by simp[Y4,hk]) su;have e2:=Jw (by simp[Y4,hk]) sv;subst e1 e2;obtain⟨x,y,rfl,rfl⟩:=bY hc;obtain⟨m,p,rfl,rfl,rfl⟩:=Nn hc;have h6:=Q6 hu rfl;have h7:=Q6 hv rfl;simp only[Den]at h6 h7;subst h6 h7;rw[run_equalIn_string w d t _ _ hk,D3,D3]
  .rename_i hk;injection h with h;subst h;have e1:=Jw (by simp[Y4,hk]) su;have e2:=Jw (by simp[Y4,hk]) sv;subst e1 e2;obtain⟨x,y,rfl,rfl⟩:=bY hc;obtain⟨m,p,rfl,rfl,rfl⟩:=Np hc;have h6:=Q6 hu rfl;have h7:=Q6 hv rfl;simp only[Den]at h6 h7;subst h6 h7;exact run_equalIn_bool w d t m p hk
  .rename_i fields ht;split at h
   case h_2=>cases h
   rename_i hp;have e1:=Jv (by simp[Y4,ht]) su;have e2:=Jv (by simp[Y4,ht]) sv;subst e1 e2;have hfo:P.fieldsOf t=fields:=by simp[Program.fieldsOf,ht]
   rw[run_equalIn_struct w d t ⟨us⟩ ⟨vs⟩ (by rw[hfo];exact ht) hp,hfo];exact Nt (FO P n) (by omega) hu hv _ 0 ks h r (by simpa using hc)
  .rename_i m e ht;split at h
   case h_2=>cases h
   rename_i gp i mT hinfo;split at h
   case h_2=>cases h
   rename_i hsz;injection h with h;subst h;have e1:=Jv (by simp[Y4,ht]) su;have e2:=Jv (by simp[Y4,ht]) sv;subst e1 e2;have hsz:=Zq hsz;have hce:P.cellsOf e=gp.length:=by simp[Program.cellsOf,hinfo,hsz]
   rw[run_equalIn_array w d ⟨us⟩ ⟨vs⟩ ht hinfo,hce,List.range_eq_range'];exact Nu (FO P n) (by omega) mT hinfo hsz hu hv m 0 r (by simpa using hc)
  cases h
def ZjJ(P:Program)(n:Nat):Prop:=∀(t:TypeId) (ks:List CK),Vb P n t=some ks->∀(d:Nat),n<=d->∀(w:World) (em:Bool) (us:List Value) (u:Value),us.length=ks.length->XJ P t us u->(Instr.checkKey em d t u).run P w= .ok () w
theorem Zfx(m:Nat)(ks:List CK):(bX m ks).length=m*ks.length:=by
 induction m with
 |zero=>simp[bX]
 |succ m ih=>simp only[bX,ze,ih,yB];omega
theorem C3(P:Program):∀n,ZjJ P n
 |0=>fun t ks h=>by simp[Vb]at h
 |n+1=>by
  intro t ks h d hd w em us u hl su;obtain⟨d,rfl⟩:∃d',d=d'+1:=⟨d-1,by omega⟩;simp only[Vb]at h;split at h
  .rename_i k hk;simp[Instr.checkKey,Z5 hk]
  .rename_i hk;simp[Instr.checkKey,Z5 hk]
  .rename_i hk;simp[Instr.checkKey,Z5 hk]
  .rename_i fields ht;split at h
   case h_2=>cases h
   have e1:=Jv (by simp[Y4,ht]) su;subst e1;rw[Instr.checkKey];simp only[Sem.run_bind,Z5 ht,Result.andThen_ok];rw[<-Array.forIn_toList];obtain⟨off,fG⟩:∃off,off+ks.length<=us.length/\tc P (Vb P n) off fields.toList=some ks:=⟨0,by omega,h⟩;clear h hl su;generalize fields.toList=L at fG
   induction L generalizing ks off with
   |nil=>simp
   |cons f fs ih=>
    obtain⟨hl,h⟩:=fG;simp only[tc]at h;split at h
    cases h
    rename_i hnm;simp only[zk]at hnm;have hname:f.name≠ "_" :=by simpa using hnm.1
    have hoff:=Zq hnm.2;split at h
    case h_2=>cases h
    rename_i gp i mT hinfo;split at h
    case h_2=>cases h
    rename_i Kr hsz hks;injection h with h;subst h;rw[ze]at hl;obtain⟨v,p1,s1⟩:=XX (w:=w) mT hinfo (Zq hsz) (us:=us) (off:=off) (by omega);have p2:=C3 P n f.type gp mT d (by omega) w em _ v (by rw[zA,zW];omega) s1;rw[<-hoff]at p1;simp only[List.forIn_cons,Sem.run_bind,hname,ne_eq,x9,yH,Result.andThen_ok,p1,p2,Sem.run_pure];exact ih Kr _ ⟨by omega,hks⟩
  .rename_i m e ht;split at h
   case h_2=>cases h
   rename_i gp i mT hinfo;split at h
   case h_2=>cases h
   rename_i hsz;injection h with h;subst h;have e1:=Jv (by simp[Y4,ht]) su;subst e1;have hsz:=Zq hsz;rw[Zfx]at hl;rw[Instr.checkKey];simp only[Sem.run_bind,Z5 ht,Result.andThen_ok];simp only[Std.Legacy.Range.forIn_eq_forIn_range',Std.Legacy.Range.size,Nat.sub_zero,Nat.add_one_sub_one,Nat.div_one];have each:∀j∈List.range' 0 m,j<m:=fun j hj=>by simpa using hj
   generalize List.range' 0 m=is at each
   induction is with
   |nil=>simp
   |cons j is ih=>
    have hjm:=each j (by simp);have:(j+1)*gp.length<=m*gp.length:=yl _ hjm;rw[yB]at this;obtain⟨v,p1,s1⟩:=XX (w:=w) mT hinfo hsz (us:=us) (off:=j*gp.length) (by omega);have p2:=C3 P n e gp mT d (by omega) w em _ v (by rw[zA,zW];omega) s1;simp only[List.forIn_cons,Sem.run_bind,Zr hinfo,hsz,Result.andThen_ok,p1,p2,Sem.run_pure];have ih:=ih (fun y hy=>each y (by simp[hy]));exact ih
  cases h
end Go.Sx
