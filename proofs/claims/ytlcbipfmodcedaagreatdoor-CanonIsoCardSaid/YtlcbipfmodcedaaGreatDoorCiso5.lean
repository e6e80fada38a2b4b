/- Part 5: SxTie. Conditions: as each part says. -/
import Derived.Test.YtlcbipfmodcedaaGreatDoorCiso3
import Derived.Test.YtlcbipfmodcedaaGreatDoorCiso4
set_option linter.unusedVariables false
set_option linter.unusedSimpArgs false
namespace Go.Sx
open Go
def mU(T:qg)(t:TypeId):Sh->TypeDesc->Bool
 | .int k, .int k'=>XF k k'
 | .bool, .bool=>true
 | .str, .string=>true
 | .ptr e, .pointer e'=>Nat.beq e e'
 | .slice e, .slice e'=>Nat.beq e e'
 | .array n e, .array n' e'=>Nat.beq n n'&&Nat.beq e e'&&Nat.beq (T.size t) (n*T.size e)&&kf T e
 | .struct fs, .struct fields=>(fields.toList.map fun f=>(f.offset,f.type))==fs&&fs.all fun p=>kf T p.2
 | .map k e, .map k' e'=>Nat.beq k k'&&Nat.beq e e'
 | .iface, .interface _=>true
 | .func, .func _ _ _=>true
 | .plain, .float _=>true
 | .plain, .complex _=>true
 | .plain, .chan _ _=>true
 | .plain, .unsafePointer=>true
 | .plain, .tuple _=>true
 |_,_=>false
theorem ZjK{T:qg}{t:TypeId}{sh:Sh}{d:TypeDesc}(h:mU T t sh d=true):qV T t sh d:=by
 have ok:∀{e},kf T e=true->T.sh e≠ .other:=fun h e=>by simp[kf,e]at h
 cases sh<;>cases d<;>simp only[mU,x6,zk]at h<;>simp only[qV]
 rw[qc.1 h];rw[Zq h];rw[Zq h]
 .obtain⟨⟨⟨h1,h2⟩,h3⟩,h4⟩:=h;exact⟨by rw[Zq h1,Zq h2],Zq h3,ok h4⟩
 .obtain⟨h1,h2⟩:=h;exact⟨_,rfl,by simpa using h1,fun p hp=>ok (zN.1 h2 p hp)⟩
 obtain⟨h1,h2⟩:=h;rw[Zq h1,Zq h2];exact⟨_,rfl⟩;exact⟨_,_,_,rfl⟩
def C4:SV->Value->Bool
 | .bool a, .bool b=>a==b
 | .int k a, .int k' b=>XF k k'&&a==b
 | .str [], .string s=>s.data.toList.isEmpty
 | .val (.pointer none), .pointer none=>true
 | .val (.slice none 0 0), .slice none 0 0=>true
 | .val (.map none), .map none=>true
 | .val (.chan none), .chan none=>true
 | .val .nilFunc, .nilFunc=>true
 | .val .nilIface, .nilIface=>true
 |_,_=>false
def td:List SV->List Value->Bool
 | [],[]=>true
 |x::xs,y::ys=>C4 x y&&td xs ys
 |_,_=>false
theorem Zi1{x:SV}{v:Value}(h:C4 x v=true):Den [] x v/\v.oneCell'=true:=by
 unfold C4 at h;split at h
 case h_10=>cases h
 .rename_i a b;have:a=b:=by simpa using h
  subst this;exact⟨rfl,rfl⟩
 .simp only[zk]at h;rename_i k a k' b;have h2:a=b:=by simpa using h.2
  rw[qc.1 h.1,h2];exact⟨rfl,rfl⟩
 .rename_i s;have h2:s.data.toList=[]:=by simpa using h
  refine⟨?_,rfl⟩;simp only[Den];congr 1;apply ByteArray.ext;apply yC;simpa using h2
 all_goals exact⟨⟨rfl,rfl⟩,rfl⟩
theorem Nv:∀{xs:List SV} {vs:List Value},td xs vs=true->vX [] xs vs/\∀u∈vs,u.oneCell'=true
 | [],[],_=>by simp[vX]
 | [],v::vs,h=>by simp[td]at h
 |x::xs,[],h=>by simp[td]at h
 |x::xs,v::vs,h=>by
  simp only[td,zk]at h;obtain⟨h1,h2⟩:=Nv h.2;obtain⟨h3,h4⟩:=Zi1 h.1;simp only[vX];refine⟨⟨v,vs,rfl,h3,h1⟩,fun u hu=>?_⟩;rcases zI.1 hu with e|hu
  rw[e];exact h4;exact h2 u hu
def oo(P:Program)(T:qg)(t:TypeId):Bool:=
 match kf T t with
 |false=>Wa (T.zero t) 0&& (match T.flat t with|none=>true|some _=>false)
 |true=>
  (match P.underlying t with|some d=>mU T t (T.sh t) d|none=>false)&&
  (match P.info? t with
    |some i=>Nat.beq i.size (T.size t)&&Nat.beq i.bytes (T.bytes t)&&
     (match T.zero t with
       | []=>true
       |c::cs=>match i.zero with
        |some z=>td (c::cs) z.cells.toList&&Wa (c::cs) (T.size t)&& (match Yu T t (c::cs)with|some _=>true|none=>false)&&
         (match U7 (T.sh t),z with|true, .agg _=>true|false, .agg _=>false|false, .tuple _=>false|true,_=>false|false,_=>true)
        |none=>false)
    |none=>false)&&
  (match T.flat t with|none=>true|some _=>match P.eqGuardType P.depth t with|true=>false|false=>true)
def Ks:CK->CK->Bool
 | .int k, .int k'=>XF k k'
 | .str, .str=>true
 | .bool, .bool=>true
 |_,_=>false
def tf:List CK->List CK->Bool
 | [],[]=>true
 |a::x,b::bs=>Ks a b&&tf x bs
 |_,_=>false
theorem C5:∀{a b:List CK},tf a b=true->a=b
 | [],[],_=>rfl
 | [],b::bs,h=>by simp[tf]at h
 |a::x,[],h=>by simp[tf]at h
 |a::x,b::bs,h=>by
  simp only[tf,zk]at h;rw[C5 h.2]
  have:a=b:=by
   have h1:=h.1;cases a<;>cases b<;>simp[Ks]at h1<;>first|rfl|(rw[qc.1 h1])
  rw[this]
def FP(P:Program)(T:qg)(t:TypeId):Bool:=
 match T.flat t with
 |none=>true
 |some ks=>match Vb P 9 t with
  |some ks'=>tf ks ks'&&Y4 P t
  |none=>false
def pW(P:Program)(T:qg)(t:TypeId):Bool:=
 match T.key t with
 |none=>true
 |some (b,ks)=>match Vb P 9 t with
  |some ks'=>tf ks ks'&& (b==Y4 P t)
  |none=>false
theorem C6{P:Program}{t:TypeId}{K:Env}{a:SV}{u:Value}{xs:List SV}(h:ZW (Y4 P t) a=some xs)(hd:Den K a u):∃us,vX K xs us/\XJ P t us u:=by
 cases hb:Y4 P t with
 |true=>
  rw[hb]at h;cases a with
  |agg cs=>
   simp only[ZW,zh]at h;subst h;simp only[Den]at hd;obtain⟨vs,rfl,h1,_⟩:=hd;exact⟨vs,h1,by simp[XJ,hb]⟩
  |_=>simp[ZW]at h
 |false=>
  rw[hb]at h;simp only[ZW,zh]at h;subst h;exact⟨[u],by simp only[vX];exact⟨u,[],rfl,hd,rfl⟩,by simp[XJ,hb]⟩
theorem Nw{ks:Bool×List CK}{a b:SV}{r:Bool}(h:Jy ks a b=some r):∃xs ys,ZW ks.1 a=some xs/\ZW ks.1 b=some ys/\Zi ks.2 xs ys=some r:=by
 unfold Jy at h;split at h
 case h_2=>cases h
 rename_i xs hx;split at h
 case h_2=>cases h
 rename_i ys hy;exact⟨xs,ys,hx,hy,h⟩
theorem ZjL{P:Program}{T:qg}{t:TypeId}{ks:Bool×List CK}(hk:T.key t=some ks)(h:pW P T t=true):
 (∀(w:World) (K:Env) (em:Bool) (a:SV) (u:Value),Ji ks a=true->Den K a u->(Instr.checkKey em 10000 t u).run P w= .ok () w)/\
 (∀(w:World) (K:Env) (a b:SV) (u v:Value) (r:Bool),Jy ks a b=some r->Den K a u->Den K b v->(Op.equal t u v).run P w= .ok r w/\∀d,P.underlying t=some d->Instr.sameNow d u v=none\/Instr.sameNow d u v=some r)/\(∃d,P.underlying t=some d):=by
 obtain⟨b,ks⟩:=ks;unfold pW at h;rw[hk]at h;simp only at h;split at h
 case h_2=>cases h
 rename_i ks' hf;simp only[zk,xC]at h;obtain⟨h1,h2⟩:=h;have h1:=C5 h1;subst h1 h2;refine⟨fun w K em a u ho hd=>?_,fun w K a b u v r he hu hv=>?_,?_⟩
 .unfold Ji at ho;cases he:Jy (Y4 P t,ks) a a with
  |none=>rw[he]at ho;cases ho
  |some r=>
   obtain⟨xs,ys,hx,hy,hc⟩:=Nw he;obtain⟨us,g1,g2⟩:=C6 hx hd;exact C3 P 9 t ks hf 10000 (by omega) w em us u (by rw[VJ g1];exact(VI hc).1) g2
 .obtain⟨xs,ys,hx,hy,hc⟩:=Nw he;obtain⟨us,g1,g2⟩:=C6 hx hu;obtain⟨vs,g3,g4⟩:=C6 hy hv;refine⟨FO P 9 t ks hf 10000 (by omega) w K xs ys us vs u v r hc g1 g3 g2 g4,fun d hd=>?_⟩;simp only[Vb]at hf
  have bY:∀{ck:CK},Y4 P t=false->Zi [ck] xs ys=some r->xs=[a]/\ys=[b]:=by
   intro ck ha hc;rw[ha]at hx hy;simp only[ZW,zh]at hx hy;exact⟨hx.symm,hy.symm⟩
  split at hf
  .rename_i k hk;have hag:Y4 P t=false:=by simp[Y4,hk]
   rw[hk]at hd;cases hd;injection hf with hf;subst hf;obtain⟨rfl,rfl⟩:=bY hag hc;obtain⟨m,p,rfl,rfl,rfl⟩:=Nl hc;simp only[Den]at hu hv;subst hu hv;exact .inr (by simp[Instr.sameNow])
  .rename_i hk;have hag:Y4 P t=false:=by simp[Y4,hk]
   rw[hk]at hd;cases hd;injection hf with hf;subst hf;obtain⟨rfl,rfl⟩:=bY hag hc;obtain⟨m,p,rfl,rfl,rfl⟩:=Nn hc;simp only[Den]at hu hv;subst hu hv;refine .inr ?_;simp only[Instr.sameNow];congr 1;show(m.toArray==p.toArray)=(m==p)
   simp
  .rename_i hk;have hag:Y4 P t=false:=by simp[Y4,hk]
   rw[hk]at hd;cases hd;injection hf with hf;subst hf;obtain⟨rfl,rfl⟩:=bY hag hc;obtain⟨m,p,rfl,rfl,rfl⟩:=Np hc;simp only[Den]at hu hv;subst hu hv;exact .inr (by simp[Instr.sameNow])
  .rename_i fs hk;rw[hk]at hd;cases hd;exact .inl (by simp[Instr.sameNow])
  .rename_i m e hk;rw[hk]at hd;cases hd;exact .inl (by simp[Instr.sameNow])
  cases hf
 .cases hu:P.underlying t with
  |some d=>exact⟨d,rfl⟩
  |none=>simp[Vb,hu]at hf
def FQ(P:Program)(T:qg):Nat->Bool
 |0=>true
 |n+1=>oo P T n&& (FP P T n&&pW P T n)&&FQ P T n
theorem Um{P:Program}{T:qg}:∀{n t:Nat},FQ P T n=true->t<n->oo P T t=true/\FP P T t=true/\pW P T t=true
 |0,t,_,h=>by omega
 |n+1,t,h,ht=>by
  simp only[FQ,zk]at h;by_cases e:t=n
  subst e;exact⟨h.1.1,h.1.2.1,h.1.2.2⟩;exact Um h.2 (by omega)
theorem Zfz{P:Program}{T:qg}(n:Nat)(h:FQ P T n=true)(hout:∀t,n<=t->T.sh t= .other/\T.zero t=[]/\T.flat t=none/\T.key t=none):ux P T:=by
 have Nx:∀t,T.sh t≠ .other->oo P T t=true/\FP P T t=true/\pW P T t=true:=fun t ht=>Um h (by
  rcases yD t n with hl|hg
  exact hl
  exact absurd (hout t hg).1 ht)
 have okt:∀{t},T.sh t≠ .other->kf T t=true:=by
  intro t ht;unfold kf;split
  rename_i e;exact absurd e ht
  rfl
 have dQ:∀t,T.sh t≠ .other->(∃d,P.underlying t=some d/\mU T t (T.sh t) d=true)/\(∃i,P.info? t=some i/\i.size=T.size t/\i.bytes=T.bytes t/\∀c cs,T.zero t=c::cs->∃z,i.zero=some z/\td (c::cs) z.cells.toList=true/\(c::cs).length=T.size t/\(Yu T t (c::cs)).isSome/\
  (U7 (T.sh t)=true->z= .agg z.cells)/\(U7 (T.sh t)=false->z.oneCell'=true))/\(T.flat t≠none->P.eqGuardType P.depth t=false):=by
  intro t ht;obtain⟨h1,_⟩:=Nx t ht;unfold oo at h1;rw[okt ht]at h1;simp only[zk]at h1;obtain⟨⟨h1,h2⟩,h3⟩:=h1;refine⟨?_,?_,?_⟩
  .split at h1
   rename_i d hd;exact⟨d,hd,h1⟩;cases h1
  .split at h2
   case h_2=>cases h2
   rename_i i hi;simp only[zk]at h2;obtain⟨⟨h4,h5⟩,h6⟩:=h2;refine⟨i,hi,Zq h4,Zq h5,fun c cs hz=>?_⟩;rw[hz]at h6;simp only at h6;split at h6
   case h_2=>cases h6
   rename_i z FR;simp only[zk]at h6;obtain⟨⟨⟨h7,h8⟩,h9⟩,h10⟩:=h6;refine⟨z,FR,h7,qZ.1 h8,?_,?_,?_⟩
   .split at h9
    rename_i e;rw[e];rfl;cases h9
   .intro ha;rw[ha]at h10;cases z<;>first|rfl|(simp at h10)
   .intro ha;rw[ha]at h10;cases z<;>first|rfl|(simp at h10)
  .intro hf;split at h3
   rename_i e;exact absurd e hf
   .split at h3
    cases h3
    rename_i e;exact e
 have r5:∀t,T.zero t≠ []->T.sh t≠ .other:=by
  intro t hz e;rcases yD t n with hl|hg
  .obtain⟨h1,_⟩:=Um h hl;unfold oo at h1;have:kf T t=false:=by simp[kf,e]
   rw[this]at h1;simp only[zk]at h1;exact hz (zO.1 (qZ.1 h1.1))
  exact hz (hout t hg).2.1
 have fsh:∀t ks,T.flat t=some ks->T.sh t≠ .other:=by
  intro t ks hf e;rcases yD t n with hl|hg
  .obtain⟨h1,_⟩:=Um h hl;unfold oo at h1;have:kf T t=false:=by simp[kf,e]
   rw[this,hf]at h1;simp at h1
  rw[(hout t hg).2.2.1]at hf;cases hf
 have pX:∀t,((∃fs,T.sh t= .struct fs)\/(∃n e,T.sh t= .array n e))<->U7 (T.sh t)=true:=by
  intro t;cases T.sh t<;>simp[U7]
 refine⟨?_,?_,?_,r5,?_,?_⟩
 .intro t ht;obtain⟨d,h1,h2⟩:=(dQ t ht).1;exact⟨d,h1,ZjK h2⟩
 .intro t ht;obtain⟨i,h1,h2,h3,_⟩:=(dQ t ht).2.1;exact⟨i,h1,h2,h3⟩
 .intro t ht hz;obtain⟨i,h1,h2,h3,h4⟩:=(dQ t ht).2.1;cases FR:T.zero t with
  |nil=>exact absurd FR hz
  |cons c cs=>
   obtain⟨z,h5,h6,h7,h8,h9,h10⟩:=h4 c cs FR;obtain⟨h11,h12⟩:=Nv h6
   exact⟨i,z,h1,h5,h11,h12,h7,h8,fun ha=>h9 ((pX t).1 ha),fun ha=>h10 (by
    cases hb:U7 (T.sh t)
    rfl
    exact absurd ((pX t).2 hb) ha)⟩
 .intro t ks hf;have hs:=fsh t ks hf;refine⟨(dQ t hs).2.2 (by rw[hf];simp),?_⟩;have bP:=(Nx t hs).2.1;unfold FP at bP;rw[hf]at bP;simp only at bP;split at bP
  case h_2=>cases bP
  rename_i ks' hk;simp only[zk]at bP;rw[C5 bP.1];intro w K xs ys us vs r hc hu hv;exact FO P 9 t ks' hk 10000 (by omega) w K xs ys us vs _ _ r hc hu hv (by simp[XJ,bP.2]) (by simp[XJ,bP.2])
 .intro t ks hk;refine ZjL hk ?_;rcases yD t n with hl|hg
  exact(Um h hl).2.2;rw[(hout t hg).2.2.2]at hk;cases hk
end Go.Sx
