/- Part 5: SxFlat. Conditions: as each part says. -/
import Derived.Laws.StructEq
import Derived.ChangeKeysEq
import Derived.Test.YtlcbipfmodcedaaGreatDoorRfn1
set_option linter.unusedVariables false
set_option linter.unusedSimpArgs false
namespace Go.Sx
open Go
def Z3a(P:Program)(go:TypeId->Option (List CK)):Nat->List Field->Option (List CK)
 |_,[]=>some []
 |off,f::fs=>match f.name != "_" &&Nat.beq f.offset off with
  |false=>none
  |true=>match go f.type,P.info? f.type with
   |some ks1,some i=>match Nat.beq i.size ks1.length,Z3a P go (off+ks1.length) fs with
    |true,some ks=>some (ks1++ks)
    |_,_=>none
   |_,_=>none
def repK:Nat->List CK->List CK
 |0,_=>[]
 |n+1,ks=>ks++repK n ks
def VG(P:Program):Nat->TypeId->Option (List CK)
 |0,_=>none
 |n+1,t=>match P.underlying t with
  |some (.int k)=>some [.int k]
  |some .string=>some [.str]
  |some .bool=>some [.bool]
  |some (.struct fs)=>match P.stoodInHeld t with
   |false=>Z3a P (VG P n) 0 fs.toList
   |true=>none
  |some (.array m e)=>match VG P n e,P.info? e with
   |some ks,some i=>match Nat.beq i.size ks.length with
    |true=>some (repK m ks)
    |false=>none
   |_,_=>none
  |_=>none
theorem XX:∀{k1 k2:List CK} {xs ys:List SV} {r:Bool},Ze (k1++k2) xs ys=some r->
 ∃a b,Ze k1 (xs.take k1.length) (ys.take k1.length)=some a/\Ze k2 (xs.drop k1.length) (ys.drop k1.length)=some b/\r=(a&&b)
 | [],k2,xs,ys,r,h=>⟨true,r,by simp[Ze],by simpa using h,rfl⟩
 |k::k1,k2,xs,ys,r,h=>by
  rw[List.cons_append]at h;generalize hkk:k::(k1++k2)=kk at h;unfold Ze at h;split at h
  ·cases hkk
  ·rename_i q ks q1 a xs' q2 b ys';injection hkk with e1 e2;subst e1 e2;split at h
   case h_2=>cases h
   rename_i r' hk hr;injection h with h;subst h;obtain⟨x,y,h1,h2,h3⟩:=XX hr;subst h3;exact⟨(a==b&&x),y,by simp only[List.length_cons,List.take_succ_cons,Ze,hk,h1],by simpa using h2,by rw[Bool.and_assoc]⟩
  ·rename_i ks a xs' b ys';injection hkk with e1 e2;subst e1 e2;split at h
   case h_2=>cases h
   rename_i r' hr;injection h with h;subst h;obtain⟨x,y,h1,h2,h3⟩:=XX hr;subst h3;exact⟨(a==b&&x),y,by simp only[List.length_cons,List.take_succ_cons,Ze,h1],by simpa using h2,by rw[Bool.and_assoc]⟩
  ·rename_i ks a xs' b ys';injection hkk with e1 e2;subst e1 e2;split at h
   case h_2=>cases h
   rename_i r' hr;injection h with h;subst h;obtain⟨x,y,h1,h2,h3⟩:=XX hr;subst h3;exact⟨(a==b&&x),y,by simp only[List.length_cons,List.take_succ_cons,Ze,h1],by simpa using h2,by rw[Bool.and_assoc]⟩
  ·cases h
theorem Z3b{k:IntKind}{x y:SV}{a:Bool}(h:Ze [.int k] [x] [y]=some a):∃m n,x= .int k m/\y= .int k n/\a=(m==n):=by
 cases x<;>cases y<;>first|(simp[Ze]at h;done)|skip
 rename_i k1 m k2 n;simp only[Ze]at h;split at h
 ·rename_i r' hk hr;simp only[Option.some.injEq]at hr h;subst hr;simp only[Bool.and_eq_true]at hk;have g1:=kindEq_iff.1 hk.1;have g2:=kindEq_iff.1 hk.2;subst g1 g2;exact⟨m,n,rfl,rfl,by rw[<-h,Bool.and_true]⟩
 ·cases h
theorem Z3c{x y:SV}{a:Bool}(h:Ze [.str] [x] [y]=some a):∃m n,x= .str m/\y= .str n/\a=(m==n):=by
 cases x<;>cases y<;>first|(simp[Ze]at h;done)|skip
 rename_i m n;simp only[Ze,Bool.and_true,Option.some.injEq]at h;exact⟨m,n,rfl,rfl,h.symm⟩
theorem Z1J{x y:SV}{a:Bool}(h:Ze [.bool] [x] [y]=some a):∃m n,x= .bool m/\y= .bool n/\a=(m==n):=by
 cases x<;>cases y<;>first|(simp[Ze]at h;done)|skip
 rename_i m n;simp only[Ze,Bool.and_true,Option.some.injEq]at h;exact⟨m,n,rfl,rfl,h.symm⟩
theorem Z1K{xs ys:List SV}{r:Bool}(h:Ze [] xs ys=some r):xs=[]/\ys=[]/\r=true:=by
 cases xs<;>cases ys<;>simp[Ze]at h
 exact⟨rfl,rfl,h⟩
theorem Uc:∀{ks:List CK} {xs ys:List SV} {r:Bool},Ze ks xs ys=some r->xs.length=ks.length/\ys.length=ks.length
 | [],xs,ys,r,h=>by
   obtain⟨rfl,rfl,_⟩:=Z1K h;exact⟨rfl,rfl⟩
 |k::ks,xs,ys,r,h=>by
  obtain⟨a,b,h1,h2,h3⟩:=XX (k1:=[k]) (k2:=ks) h;have h4:=Uc (ks:=ks) h2
  have:xs.length≠0/\ys.length≠0:=by
   constructor<;>intro e<;>(have e:=List.length_eq_zero_iff.1 e;subst e;cases k<;>simp[Ze]at h1)
  simp only[List.length_drop,List.length_singleton,List.length_cons,List.length_nil]at h4⊢;omega
def ZW(P:Program)(t:TypeId):Bool:=match P.underlying t with
 |some (.struct _)=>true
 |some (.array _ _)=>true
 |_=>false
def XY(P:Program)(t:TypeId)(us:List Value)(v:Value):Prop:=match ZW P t with
 |true=>v= .agg ⟨us⟩
 |false=>us=[v]
theorem Jh{P:Program}{w:World}{n:Nat}{t:TypeId}{ks:List CK}{i:TypeInfo}(h:VG P n t=some ks)(hi:P.info? t=some i)(hs:i.size=ks.length){us:List Value}{off:Nat}(hl:off+ks.length<=us.length):
 ∃v,(part t ⟨us⟩ off).run P w= .ok v w/\XY P t ((us.drop off).take ks.length) v:=by
 cases n with
 |zero=>simp[VG]at h
 |succ n=>
  have agg:∀d,P.underlying t=some d->ZW P t=true->((∃fs,d= .struct fs)\/∃m e,d= .array m e)->∃v,(part t ⟨us⟩ off).run P w= .ok v w/\XY P t ((us.drop off).take ks.length) v:=by
   intro d hd ha hh;refine⟨.agg ⟨(us.drop off).take ks.length⟩,?_,by simp[XY,ha]⟩;have ag:(isAgg t).run P w= .ok true w:=by rcases hh with⟨fs,rfl⟩|⟨m,e,rfl⟩<;>simp[isAgg,Z3 hd]
   simp[part,ag,Zq hi,hs,List.extract_eq_take_drop]
  have one:∀d,P.underlying t=some d->ZW P t=false->((∃k,d= .int k)\/d= .string\/d= .bool)->ks.length=1->∃v,(part t ⟨us⟩ off).run P w= .ok v w/\XY P t ((us.drop off).take ks.length) v:=by
   intro d hd ha hh h1;have hlt:off<us.length:=by omega
   refine⟨us[off],?_,?_⟩
   ·have ag:(isAgg t).run P w= .ok false w:=by rcases hh with⟨k,rfl⟩|rfl|rfl<;>simp[isAgg,Z3 hd]
    simp[part,ag,List.getElem?_eq_getElem hlt]
   ·simp only[XY,ha,h1];rw[List.drop_eq_getElem_cons hlt];rfl
  simp only[VG]at h;split at h
  ·rename_i k hd;exact one _ hd (by simp[ZW,hd]) (.inl ⟨k,rfl⟩) (by injection h with h;subst h;rfl)
  ·rename_i hd;exact one _ hd (by simp[ZW,hd]) (.inr (.inl rfl)) (by injection h with h;subst h;rfl)
  ·rename_i hd;exact one _ hd (by simp[ZW,hd]) (.inr (.inr rfl)) (by injection h with h;subst h;rfl)
  ·rename_i fs hd;exact agg _ hd (by simp[ZW,hd]) (.inl ⟨fs,rfl⟩)
  ·rename_i m e hd;exact agg _ hd (by simp[ZW,hd]) (.inr ⟨m,e,rfl⟩)
  ·cases h
theorem Ud{η:Env}:∀{xs:List SV} {us:List Value},DenL η xs us->us.length=xs.length
 | [],us,h=>by simp only[DenL]at h;subst h;rfl
 |x::xs,us,h=>by
  simp only[DenL]at h;obtain⟨u,vs,rfl,_,h⟩:=h;simp[Ud h]
theorem Ji{η:Env}:∀{n:Nat} {xs:List SV} {us:List Value},DenL η xs us->DenL η (xs.drop n) (us.drop n)
 |0,xs,us,h=>h
 |n+1,[],us,h=>by simp only[DenL]at h;subst h;simp[DenL]
 |n+1,x::xs,us,h=>by
  simp only[DenL]at h;obtain⟨u,vs,rfl,_,h⟩:=h;exact Ji (n:=n) h
theorem Jj{η:Env}:∀{n:Nat} {xs:List SV} {us:List Value},DenL η xs us->DenL η (xs.take n) (us.take n)
 |0,xs,us,h=>by simp[DenL]
 |n+1,[],us,h=>by simp only[DenL]at h;subst h;simp[DenL]
 |n+1,x::xs,us,h=>by
  simp only[DenL]at h;obtain⟨u,vs,rfl,h0,h⟩:=h;simp only[List.take_succ_cons,DenL];exact⟨u,_,rfl,h0,Jj h⟩
def Z9G(P:Program)(n:Nat):Prop:=∀(t:TypeId) (ks:List CK),VG P n t=some ks->∀(d:Nat),n<=d->∀(w:World) (η:Env) (xs ys:List SV) (us vs:List Value) (u v:Value) (r:Bool),Ze ks xs ys=some r->DenL η xs us->DenL η ys vs->XY P t us u->XY P t vs v->
 (Op.equalIn d t u v).run P w= .ok r w
theorem Z4M{P:Program}{n d:Nat}(IH:Z9G P n)(hd:n<=d){t:TypeId}{ks1 ks2:List CK}{i:TypeInfo}(h:VG P n t=some ks1)(hi:P.info? t=some i)(hs:i.size=ks1.length){w:World}{η:Env}{xs ys:List SV}{us vs:List Value}{off:Nat}{r:Bool}(hc:Ze (ks1++ks2) (xs.drop off) (ys.drop off)=some r)(hu:DenL η xs us)(hv:DenL η ys vs):
 ∃u v a b,(part t ⟨us⟩ off).run P w= .ok u w/\(part t ⟨vs⟩ off).run P w= .ok v w/\(Op.equalIn d t u v).run P w= .ok a w/\Ze ks2 (xs.drop (off+ks1.length)) (ys.drop (off+ks1.length))=some b/\r=(a&&b):=by
 obtain⟨a,b,h1,h2,h3⟩:=XX hc;have hl:=Uc hc;rw[List.length_drop,List.length_drop,List.length_append]at hl;have lu:=Ud hu;have lv:=Ud hv;by_cases h0:ks1.length=0
 ·
  cases n with
  |zero=>simp[VG]at h
  |succ n=>
   by_cases hx:off<=us.length/\off<=vs.length
   ·obtain⟨u,p1,s1⟩:=Jh (w:=w) h hi hs (us:=us) (off:=off) (by omega);obtain⟨v,p2,s2⟩:=Jh (w:=w) h hi hs (us:=vs) (off:=off) (by omega);exact⟨u,v,a,b,p1,p2,IH t ks1 h d hd w η _ _ _ _ u v a h1 (Jj (Ji hu)) (Jj (Ji hv)) s1 s2,by rw[List.drop_drop,List.drop_drop]at h2;exact h2,h3⟩
   ·have hk:ks1=[]:=List.length_eq_zero_iff.1 h0;subst hk
    have ag:∃dd,P.underlying t=some dd/\((∃fs,dd= .struct fs)\/∃m e,dd= .array m e):=by
     simp only[VG]at h;split at h
     ·cases h
     ·cases h
     ·cases h
     ·rename_i fs hd;exact⟨_,hd, .inl ⟨fs,rfl⟩⟩
     ·rename_i m e hd;exact⟨_,hd, .inr ⟨m,e,rfl⟩⟩
     ·cases h
    obtain⟨dd,hdd,hh⟩:=ag;have ha:ZW P t=true:=by rcases hh with⟨fs,rfl⟩|⟨m,e,rfl⟩<;>simp[ZW,hdd]
    have agr:(isAgg t).run P w= .ok true w:=by rcases hh with⟨fs,rfl⟩|⟨m,e,rfl⟩<;>simp[isAgg,Z3 hdd]
    have q:∀zs:List Value,(part t ⟨zs⟩ off).run P w= .ok (.agg ⟨(zs.drop off).take 0⟩) w:=by
     intro zs;have hs':i.size=0:=hs;simp only[part,Sem.run_bind,agr,Result.andThen_ok,Zq hi,hs',if_true];congr 1;simp[List.extract_eq_take_drop]
    exact⟨_,_,a,b,q us,q vs,IH t [] h d hd w η _ _ _ _ _ _ a h1 (Jj (Ji hu)) (Jj (Ji hv)) (by simp[XY,ha]) (by simp[XY,ha]),by rw[List.drop_drop,List.drop_drop]at h2;exact h2,h3⟩
 obtain⟨u,p1,s1⟩:=Jh (w:=w) h hi hs (us:=us) (off:=off) (by omega);obtain⟨v,p2,s2⟩:=Jh (w:=w) h hi hs (us:=vs) (off:=off) (by omega);exact⟨u,v,a,b,p1,p2,IH t ks1 h d hd w η _ _ _ _ u v a h1 (Jj (Ji hu)) (Jj (Ji hv)) s1 s2,by rw[List.drop_drop,List.drop_drop]at h2;exact h2,h3⟩
theorem Z3d{xs ys:List SV}{r:Bool}(h:Ze [] xs ys=some r):r=true:=(Z1K h).2.2
theorem Z3e{P:Program}{n d:Nat}(IH:Z9G P n)(hd:n<=d){w:World}{η:Env}{xs ys:List SV}{us vs:List Value}(hu:DenL η xs us)(hv:DenL η ys vs):∀(fs:List Field) (off:Nat) (ks:List CK),Z3a P (VG P n) off fs=some ks->∀(r:Bool),Ze ks (xs.drop off) (ys.drop off)=some r->(Op.eqFields d ⟨us⟩ ⟨vs⟩ fs).run P w= .ok r w
 | [],off,ks,h,r,hc=>by
   simp only[Z3a,Option.some.injEq]at h;subst h;rw[Z3d hc];rfl
 |f::fs,off,ks,h,r,hc=>by
  simp only[Z3a]at h;split at h
  ·cases h
  rename_i hnm;simp only[Bool.and_eq_true]at hnm;have hname:f.name≠ "_" :=by simpa using hnm.1
  have hoff:=Zn hnm.2;split at h
  case h_2=>cases h
  rename_i ks1 i hgo hinfo;split at h
  case h_2=>cases h
  rename_i ks2 hsz hks;injection h with h;subst h;obtain⟨u,v,a,b,p1,p2,p3,h2,rfl⟩:=Z4M IH hd hgo hinfo (Zn hsz) (w:=w) hc hu hv;have q4:=Z3e IH hd (w:=w) hu hv fs _ _ hks b h2;rw[<-hoff]at p1 p2;simp only[Op.eqFields,hname,ne_eq,not_false_eq_true,if_true,Sem.run_bind,p1,p2,p3,Result.andThen_ok];cases a
  ·simp
  ·simpa using q4
theorem Z4N{P:Program}{n d:Nat}(IH:Z9G P n)(hd:n<=d){e:TypeId}{ks1:List CK}{i:TypeInfo}(h:VG P n e=some ks1)(hi:P.info? e=some i)(hs:i.size=ks1.length){w:World}{η:Env}{xs ys:List SV}{us vs:List Value}(hu:DenL η xs us)(hv:DenL η ys vs):
 ∀(m j:Nat) (r:Bool),Ze (repK m ks1) (xs.drop (j*ks1.length)) (ys.drop (j*ks1.length))=some r->(Op.eqItems d e ks1.length ⟨us⟩ ⟨vs⟩ (List.range' j m)).run P w= .ok r w
 |0,j,r,hc=>by
  rw[Z3d hc];rfl
 |m+1,j,r,hc=>by
  simp only[repK]at hc;obtain⟨u,v,a,b,p1,p2,p3,h2,rfl⟩:=Z4M IH hd h hi hs (w:=w) hc hu hv;rw[<-Nat.succ_mul]at h2;have q4:=Z4N IH hd h hi hs (w:=w) hu hv m (j+1) b h2;simp only[List.range'_succ,Op.eqItems,Sem.run_bind,p1,p2,p3,Result.andThen_ok];cases a
  ·simp
  ·simpa using q4
theorem JU{P:Program}{t:TypeId}(h:ZW P t=true){us:List Value}{v:Value}(hs:XY P t us v):v= .agg ⟨us⟩:=by simpa[XY,h]using hs
theorem JV{P:Program}{t:TypeId}(h:ZW P t=false){us:List Value}{v:Value}(hs:XY P t us v):us=[v]:=by simpa[XY,h]using hs
theorem Z5y(P:Program):∀n,Z9G P n
 |0=>fun t ks h=>by simp[VG]at h
 |n+1=>by
  intro t ks h d hd w η xs ys us vs u v r hc hu hv su sv;obtain⟨d,rfl⟩:∃d',d=d'+1:=⟨d-1,by omega⟩
  have ex1:∀{z:SV} {zs:List SV} {v:Value},DenL η zs [v]->zs=[z]->Den η z v:=by
   intro z zs v h e;subst e;simp only[DenL]at h;obtain⟨_,_,e,h,_⟩:=h;cases e;exact h
  have sing:∀{ck:CK},Ze [ck] xs ys=some r->∃x y,xs=[x]/\ys=[y]:=by
   intro ck hc;have:=Uc hc;obtain⟨x,rfl⟩:=List.length_eq_one_iff.1 this.1;obtain⟨y,rfl⟩:=List.length_eq_one_iff.1 this.2;exact⟨x,y,rfl,rfl⟩
  simp only[VG]at h;split at h
  ·rename_i k hk;injection h with h;subst h;have e1:=JV (by simp[ZW,hk]) su;have e2:=JV (by simp[ZW,hk]) sv;subst e1 e2;obtain⟨x,y,rfl,rfl⟩:=sing hc;obtain⟨m,p,rfl,rfl,rfl⟩:=Z3b hc;have h6:=ex1 hu rfl;have h7:=ex1 hv rfl;simp only[Den]at h6 h7;subst h6 h7;exact run_equalIn_int w d t _ _ m p hk
  ·rename_i hk;injection h with h;subst h;have e1:=JV (by simp[ZW,hk]) su;have e2:=JV (by simp[ZW,hk]) sv;subst e1 e2;obtain⟨x,y,rfl,rfl⟩:=sing hc;obtain⟨m,p,rfl,rfl,rfl⟩:=Z3c hc;have h6:=ex1 hu rfl;have h7:=ex1 hv rfl;simp only[Den]at h6 h7;subst h6 h7;rw[run_equalIn_string w d t _ _ hk,Z2F,Z2F]
  ·rename_i hk;injection h with h;subst h;have e1:=JV (by simp[ZW,hk]) su;have e2:=JV (by simp[ZW,hk]) sv;subst e1 e2;obtain⟨x,y,rfl,rfl⟩:=sing hc;obtain⟨m,p,rfl,rfl,rfl⟩:=Z1J hc;have h6:=ex1 hu rfl;have h7:=ex1 hv rfl;simp only[Den]at h6 h7;subst h6 h7;exact run_equalIn_bool w d t m p hk
  ·rename_i fields ht;split at h
   case h_2=>cases h
   rename_i hp;have e1:=JU (by simp[ZW,ht]) su;have e2:=JU (by simp[ZW,ht]) sv;subst e1 e2;have hfo:P.fieldsOf t=fields:=by simp[Program.fieldsOf,ht]
   rw[run_equalIn_struct w d t ⟨us⟩ ⟨vs⟩ (by rw[hfo];exact ht) hp,hfo];exact Z3e (Z5y P n) (by omega) hu hv _ 0 ks h r (by simpa using hc)
  ·rename_i m e ht;split at h
   case h_2=>cases h
   rename_i ks1 i hgo hinfo;split at h
   case h_2=>cases h
   rename_i hsz;injection h with h;subst h;have e1:=JU (by simp[ZW,ht]) su;have e2:=JU (by simp[ZW,ht]) sv;subst e1 e2;have hsz:=Zn hsz;have hce:P.cellsOf e=ks1.length:=by simp[Program.cellsOf,hinfo,hsz]
   rw[run_equalIn_array w d ⟨us⟩ ⟨vs⟩ ht hinfo,hce,List.range_eq_range'];exact Z4N (Z5y P n) (by omega) hgo hinfo hsz hu hv m 0 r (by simpa using hc)
  ·cases h
def Zhw(P:Program)(n:Nat):Prop:=∀(t:TypeId) (ks:List CK),VG P n t=some ks->∀(d:Nat),n<=d->∀(w:World) (em:Bool) (us:List Value) (u:Value),us.length=ks.length->XY P t us u->(Instr.checkKey em d t u).run P w= .ok () w
theorem Zeo(m:Nat)(ks:List CK):(repK m ks).length=m*ks.length:=by
 induction m with
 |zero=>simp[repK]
 |succ m ih=>simp only[repK,List.length_append,ih,Nat.succ_mul];omega
theorem Z8s(P:Program):∀n,Zhw P n
 |0=>fun t ks h=>by simp[VG]at h
 |n+1=>by
  intro t ks h d hd w em us u hl su;obtain⟨d,rfl⟩:∃d',d=d'+1:=⟨d-1,by omega⟩;simp only[VG]at h;split at h
  ·rename_i k hk;simp[Instr.checkKey,Z3 hk]
  ·rename_i hk;simp[Instr.checkKey,Z3 hk]
  ·rename_i hk;simp[Instr.checkKey,Z3 hk]
  ·rename_i fields ht;split at h
   case h_2=>cases h
   have e1:=JU (by simp[ZW,ht]) su;subst e1;rw[Instr.checkKey];simp only[Sem.run_bind,Z3 ht,Result.andThen_ok];rw[<-Array.forIn_toList];obtain⟨off,hko⟩:∃off,off+ks.length<=us.length/\Z3a P (VG P n) off fields.toList=some ks:=⟨0,by omega,h⟩;clear h hl su;generalize fields.toList=L at hko
   induction L generalizing ks off with
   |nil=>simp
   |cons f fs ih=>
    obtain⟨hl,h⟩:=hko;simp only[Z3a]at h;split at h
    ·cases h
    rename_i hnm;simp only[Bool.and_eq_true]at hnm;have hname:f.name≠ "_" :=by simpa using hnm.1
    have hoff:=Zn hnm.2;split at h
    case h_2=>cases h
    rename_i ks1 i hgo hinfo;split at h
    case h_2=>cases h
    rename_i ks2 hsz hks;injection h with h;subst h;rw[List.length_append]at hl;obtain⟨v,p1,s1⟩:=Jh (w:=w) hgo hinfo (Zn hsz) (us:=us) (off:=off) (by omega);have p2:=Z8s P n f.type ks1 hgo d (by omega) w em _ v (by rw[List.length_take,List.length_drop];omega) s1;rw[<-hoff]at p1;simp only[List.forIn_cons,Sem.run_bind,hname,ne_eq,not_false_eq_true,if_true,Result.andThen_ok,p1,p2,Sem.run_pure];exact ih ks2 _ ⟨by omega,hks⟩
  ·rename_i m e ht;split at h
   case h_2=>cases h
   rename_i ks1 i hgo hinfo;split at h
   case h_2=>cases h
   rename_i hsz;injection h with h;subst h;have e1:=JU (by simp[ZW,ht]) su;subst e1;have hsz:=Zn hsz;rw[Zeo]at hl;rw[Instr.checkKey];simp only[Sem.run_bind,Z3 ht,Result.andThen_ok];simp only[Std.Legacy.Range.forIn_eq_forIn_range',Std.Legacy.Range.size,Nat.sub_zero,Nat.add_one_sub_one,Nat.div_one];have each:∀j∈List.range' 0 m,j<m:=fun j hj=>by simpa using hj
   generalize List.range' 0 m=is at each
   induction is with
   |nil=>simp
   |cons j is ih=>
    have hjm:=each j (by simp);have:(j+1)*ks1.length<=m*ks1.length:=Nat.mul_le_mul_right _ hjm;rw[Nat.succ_mul]at this;obtain⟨v,p1,s1⟩:=Jh (w:=w) hgo hinfo hsz (us:=us) (off:=j*ks1.length) (by omega);have p2:=Z8s P n e ks1 hgo d (by omega) w em _ v (by rw[List.length_take,List.length_drop];omega) s1;simp only[List.forIn_cons,Sem.run_bind,Zq hinfo,hsz,Result.andThen_ok,p1,p2,Sem.run_pure];have ih:=ih (fun y hy=>each y (by simp[hy]));exact ih
  ·cases h
end Go.Sx
