/- Part 6: SxTie. Conditions: as each part says. -/
import Derived.Test.YtlcbipfmodcedaaGreatDoorRfn4
import Derived.Test.YtlcbipfmodcedaaGreatDoorRfn5
set_option linter.unusedVariables false
set_option linter.unusedSimpArgs false
namespace Go.Sx
open Go
def shB1(T:Tab)(t:TypeId):Sh->TypeDesc->Bool
 | .int k, .int k'=>XU k k'
 | .bool, .bool=>true
 | .str, .string=>true
 | .ptr e, .pointer e'=>Nat.beq e e'
 | .slice e, .slice e'=>Nat.beq e e'
 | .array n e, .array n' e'=>Nat.beq n n'&&Nat.beq e e'&&Nat.beq (T.size t) (n*T.size e)&&okSh T e
 | .struct fs, .struct fields=>(fields.toList.map fun f=>(f.offset,f.type))==fs&&fs.all fun p=>okSh T p.2
 | .map k e, .map k' e'=>Nat.beq k k'&&Nat.beq e e'
 | .iface, .interface _=>true
 | .func, .func _ _ _=>true
 | .plain, .float _=>true
 | .plain, .complex _=>true
 | .plain, .chan _ _=>true
 | .plain, .unsafePointer=>true
 | .plain, .tuple _=>true
 |_,_=>false
theorem Zhx{T:Tab}{t:TypeId}{sh:Sh}{d:TypeDesc}(h:shB1 T t sh d=true):ShM T t sh d:=by
 have ok:∀{e},okSh T e=true->T.sh e≠ .other:=fun h e=>by simp[okSh,e]at h
 cases sh<;>cases d<;>simp only[shB1,Bool.false_eq_true,Bool.and_eq_true]at h<;>simp only[ShM]
 ·rw[kindEq_iff.1 h]
 ·rw[Zn h]
 ·rw[Zn h]
 ·obtain⟨⟨⟨h1,h2⟩,h3⟩,h4⟩:=h;exact⟨by rw[Zn h1,Zn h2],Zn h3,ok h4⟩
 ·obtain⟨h1,h2⟩:=h;exact⟨_,rfl,by simpa using h1,fun p hp=>ok (List.all_eq_true.1 h2 p hp)⟩
 ·obtain⟨h1,h2⟩:=h;rw[Zn h1,Zn h2]
 ·exact⟨_,rfl⟩
 ·exact⟨_,_,_,rfl⟩
def zc1:SV->Value->Bool
 | .bool a, .bool b=>a==b
 | .int k a, .int k' b=>XU k k'&&a==b
 | .str [], .string s=>s.data.toList.isEmpty
 | .val (.pointer none), .pointer none=>true
 | .val (.slice none 0 0), .slice none 0 0=>true
 | .val (.map none), .map none=>true
 | .val (.chan none), .chan none=>true
 | .val .nilFunc, .nilFunc=>true
 | .val .nilIface, .nilIface=>true
 |_,_=>false
def zcs:List SV->List Value->Bool
 | [],[]=>true
 |x::xs,y::ys=>zc1 x y&&zcs xs ys
 |_,_=>false
theorem Zgc{x:SV}{v:Value}(h:zc1 x v=true):Den [] x v/\v.oneCell'=true:=by
 unfold zc1 at h;split at h
 case h_10=>cases h
 ·rename_i a b;have:a=b:=by simpa using h
  subst this;exact⟨rfl,rfl⟩
 ·simp only[Bool.and_eq_true]at h;rename_i k a k' b;have h2:a=b:=by simpa using h.2
  rw[kindEq_iff.1 h.1,h2];exact⟨rfl,rfl⟩
 ·rename_i s;have h2:s.data.toList=[]:=by simpa using h
  refine⟨?_,rfl⟩;simp only[Den];congr 1;apply ByteArray.ext;apply Array.ext';simpa using h2
 all_goals exact⟨⟨rfl,rfl⟩,rfl⟩
theorem Zcm:∀{xs:List SV} {vs:List Value},zcs xs vs=true->DenL [] xs vs/\∀u∈vs,u.oneCell'=true
 | [],[],_=>by simp[DenL]
 | [],v::vs,h=>by simp[zcs]at h
 |x::xs,[],h=>by simp[zcs]at h
 |x::xs,v::vs,h=>by
  simp only[zcs,Bool.and_eq_true]at h;obtain⟨h1,h2⟩:=Zcm h.2;obtain⟨h3,h4⟩:=Zgc h.1;simp only[DenL];refine⟨⟨v,vs,rfl,h3,h1⟩,fun u hu=>?_⟩;rcases List.mem_cons.1 hu with e|hu
  ·rw[e];exact h4
  ·exact h2 u hu
def tie1(P:Program)(T:Tab)(t:TypeId):Bool:=
 match okSh T t with
 |false=>Wx (T.zero t) 0&& (match T.flat t with|none=>true|some _=>false)
 |true=>
  (match P.underlying t with|some d=>shB1 T t (T.sh t) d|none=>false)&&
  (match P.info? t with
    |some i=>Nat.beq i.size (T.size t)&&Nat.beq i.bytes (T.bytes t)&&
     (match T.zero t with
       | []=>true
       |c::cs=>match i.zero with
        |some z=>zcs (c::cs) z.cells.toList&&Wx (c::cs) (T.size t)&& (match YH T t (c::cs)with|some _=>true|none=>false)&&
         (match Uz (T.sh t),z with|true, .agg _=>true|false, .agg _=>false|false, .tuple _=>false|true,_=>false|false,_=>true)
        |none=>false)
    |none=>false)&&
  (match T.flat t with|none=>true|some _=>match P.eqGuardType P.depth t with|true=>false|false=>true)
def ckEq:CK->CK->Bool
 | .int k, .int k'=>XU k k'
 | .str, .str=>true
 | .bool, .bool=>true
 |_,_=>false
def Z8t:List CK->List CK->Bool
 | [],[]=>true
 |a::x,b::bs=>ckEq a b&&Z8t x bs
 |_,_=>false
theorem Z3f:∀{a b:List CK},Z8t a b=true->a=b
 | [],[],_=>rfl
 | [],b::bs,h=>by simp[Z8t]at h
 |a::x,[],h=>by simp[Z8t]at h
 |a::x,b::bs,h=>by
  simp only[Z8t,Bool.and_eq_true]at h;rw[Z3f h.2]
  have:a=b:=by
   have h1:=h.1;cases a<;>cases b<;>simp[ckEq]at h1<;>first|rfl|(rw[kindEq_iff.1 h1])
  rw[this]
def Zep(P:Program)(T:Tab)(t:TypeId):Bool:=
 match T.flat t with
 |none=>true
 |some ks=>match VG P 9 t with
  |some ks'=>Z8t ks ks'&&ZW P t
  |none=>false
def keyB(P:Program)(T:Tab)(t:TypeId):Bool:=
 match T.key t with
 |none=>true
 |some (b,ks)=>match VG P 9 t with
  |some ks'=>Z8t ks ks'&& (b==ZW P t)
  |none=>false
theorem Z3g{P:Program}{t:TypeId}{η:Env}{a:SV}{u:Value}{xs:List SV}(h:ZO (ZW P t) a=some xs)(hd:Den η a u):∃us,DenL η xs us/\XY P t us u:=by
 cases hb:ZW P t with
 |true=>
  rw[hb]at h;cases a with
  |agg cs=>
   simp only[ZO,Option.some.injEq]at h;subst h;simp only[Den]at hd;obtain⟨vs,rfl,h1,_⟩:=hd;exact⟨vs,h1,by simp[XY,hb]⟩
  |_=>simp[ZO]at h
 |false=>
  rw[hb]at h;simp only[ZO,Option.some.injEq]at h;subst h;exact⟨[u],by simp only[DenL];exact⟨u,[],rfl,hd,rfl⟩,by simp[XY,hb]⟩
theorem Z3h{ks:Bool×List CK}{a b:SV}{r:Bool}(h:JY ks a b=some r):∃xs ys,ZO ks.1 a=some xs/\ZO ks.1 b=some ys/\Ze ks.2 xs ys=some r:=by
 unfold JY at h;split at h
 case h_2=>cases h
 rename_i xs hx;split at h
 case h_2=>cases h
 rename_i ys hy;exact⟨xs,ys,hx,hy,h⟩
theorem Zhy{P:Program}{T:Tab}{t:TypeId}{ks:Bool×List CK}(hk:T.key t=some ks)(h:keyB P T t=true):
 (∀(w:World) (η:Env) (em:Bool) (a:SV) (u:Value),JF ks a=true->Den η a u->(Instr.checkKey em 10000 t u).run P w= .ok () w)/\
 (∀(w:World) (η:Env) (a b:SV) (u v:Value) (r:Bool),JY ks a b=some r->Den η a u->Den η b v->(Op.equal t u v).run P w= .ok r w/\∀d,P.underlying t=some d->Instr.sameNow d u v=none\/Instr.sameNow d u v=some r)/\(∃d,P.underlying t=some d):=by
 obtain⟨b,ks⟩:=ks;unfold keyB at h;rw[hk]at h;simp only at h;split at h
 case h_2=>cases h
 rename_i ks' hf;simp only[Bool.and_eq_true,beq_iff_eq]at h;obtain⟨h1,h2⟩:=h;have h1:=Z3f h1;subst h1 h2;refine⟨fun w η em a u ho hd=>?_,fun w η a b u v r he hu hv=>?_,?_⟩
 ·unfold JF at ho;cases he:JY (ZW P t,ks) a a with
  |none=>rw[he]at ho;cases ho
  |some r=>
   obtain⟨xs,ys,hx,hy,hc⟩:=Z3h he;obtain⟨us,g1,g2⟩:=Z3g hx hd;exact Z8s P 9 t ks hf 10000 (by omega) w em us u (by rw[Ud g1];exact(Uc hc).1) g2
 ·obtain⟨xs,ys,hx,hy,hc⟩:=Z3h he;obtain⟨us,g1,g2⟩:=Z3g hx hu;obtain⟨vs,g3,g4⟩:=Z3g hy hv;refine⟨Z5y P 9 t ks hf 10000 (by omega) w η xs ys us vs u v r hc g1 g3 g2 g4,fun d hd=>?_⟩;simp only[VG]at hf
  have sing:∀{ck:CK},ZW P t=false->Ze [ck] xs ys=some r->xs=[a]/\ys=[b]:=by
   intro ck ha hc;rw[ha]at hx hy;simp only[ZO,Option.some.injEq]at hx hy;exact⟨hx.symm,hy.symm⟩
  split at hf
  ·rename_i k hk;have hag:ZW P t=false:=by simp[ZW,hk]
   rw[hk]at hd;cases hd;injection hf with hf;subst hf;obtain⟨rfl,rfl⟩:=sing hag hc;obtain⟨m,p,rfl,rfl,rfl⟩:=Z3b hc;simp only[Den]at hu hv;subst hu hv;exact .inr (by simp[Instr.sameNow])
  ·rename_i hk;have hag:ZW P t=false:=by simp[ZW,hk]
   rw[hk]at hd;cases hd;injection hf with hf;subst hf;obtain⟨rfl,rfl⟩:=sing hag hc;obtain⟨m,p,rfl,rfl,rfl⟩:=Z3c hc;simp only[Den]at hu hv;subst hu hv;refine .inr ?_;simp only[Instr.sameNow];congr 1;show(m.toArray==p.toArray)=(m==p)
   simp
  ·rename_i hk;have hag:ZW P t=false:=by simp[ZW,hk]
   rw[hk]at hd;cases hd;injection hf with hf;subst hf;obtain⟨rfl,rfl⟩:=sing hag hc;obtain⟨m,p,rfl,rfl,rfl⟩:=Z1J hc;simp only[Den]at hu hv;subst hu hv;exact .inr (by simp[Instr.sameNow])
  ·rename_i fs hk;rw[hk]at hd;cases hd;exact .inl (by simp[Instr.sameNow])
  ·rename_i m e hk;rw[hk]at hd;cases hd;exact .inl (by simp[Instr.sameNow])
  ·cases hf
 ·cases hu:P.underlying t with
  |some d=>exact⟨d,rfl⟩
  |none=>simp[VG,hu]at hf
def Z9H(P:Program)(T:Tab):Nat->Bool
 |0=>true
 |n+1=>tie1 P T n&& (Zep P T n&&keyB P T n)&&Z9H P T n
theorem UQ{P:Program}{T:Tab}:∀{n t:Nat},Z9H P T n=true->t<n->tie1 P T t=true/\Zep P T t=true/\keyB P T t=true
 |0,t,_,h=>by omega
 |n+1,t,h,ht=>by
  simp only[Z9H,Bool.and_eq_true]at h;by_cases e:t=n
  ·subst e;exact⟨h.1.1,h.1.2.1,h.1.2.2⟩
  ·exact UQ h.2 (by omega)
theorem Zeq{P:Program}{T:Tab}(n:Nat)(h:Z9H P T n=true)(hout:∀t,n<=t->T.sh t= .other/\T.zero t=[]/\T.flat t=none/\T.key t=none):TabOK P T:=by
 have at1:∀t,T.sh t≠ .other->tie1 P T t=true/\Zep P T t=true/\keyB P T t=true:=fun t ht=>UQ h (by
  rcases Nat.lt_or_ge t n with hl|hg
  ·exact hl
  ·exact absurd (hout t hg).1 ht)
 have okt:∀{t},T.sh t≠ .other->okSh T t=true:=by
  intro t ht;unfold okSh;split
  ·rename_i e;exact absurd e ht
  ·rfl
 have split1:∀t,T.sh t≠ .other->(∃d,P.underlying t=some d/\shB1 T t (T.sh t) d=true)/\(∃i,P.info? t=some i/\i.size=T.size t/\i.bytes=T.bytes t/\∀c cs,T.zero t=c::cs->∃z,i.zero=some z/\zcs (c::cs) z.cells.toList=true/\(c::cs).length=T.size t/\(YH T t (c::cs)).isSome/\
  (Uz (T.sh t)=true->z= .agg z.cells)/\(Uz (T.sh t)=false->z.oneCell'=true))/\(T.flat t≠none->P.eqGuardType P.depth t=false):=by
  intro t ht;obtain⟨h1,_⟩:=at1 t ht;unfold tie1 at h1;rw[okt ht]at h1;simp only[Bool.and_eq_true]at h1;obtain⟨⟨h1,h2⟩,h3⟩:=h1;refine⟨?_,?_,?_⟩
  ·split at h1
   ·rename_i d hd;exact⟨d,hd,h1⟩
   ·cases h1
  ·split at h2
   case h_2=>cases h2
   rename_i i hi;simp only[Bool.and_eq_true]at h2;obtain⟨⟨h4,h5⟩,h6⟩:=h2;refine⟨i,hi,Zn h4,Zn h5,fun c cs hz=>?_⟩;rw[hz]at h6;simp only at h6;split at h6
   case h_2=>cases h6
   rename_i z hzz;simp only[Bool.and_eq_true]at h6;obtain⟨⟨⟨h7,h8⟩,h9⟩,h10⟩:=h6;refine⟨z,hzz,h7,lenIs_iff.1 h8,?_,?_,?_⟩
   ·split at h9
    ·rename_i e;rw[e];rfl
    ·cases h9
   ·intro ha;rw[ha]at h10;cases z<;>first|rfl|(simp at h10)
   ·intro ha;rw[ha]at h10;cases z<;>first|rfl|(simp at h10)
  ·intro hf;split at h3
   ·rename_i e;exact absurd e hf
   ·split at h3
    ·cases h3
    ·rename_i e;exact e
 have zsh:∀t,T.zero t≠ []->T.sh t≠ .other:=by
  intro t hz e;rcases Nat.lt_or_ge t n with hl|hg
  ·obtain⟨h1,_⟩:=UQ h hl;unfold tie1 at h1;have:okSh T t=false:=by simp[okSh,e]
   rw[this]at h1;simp only[Bool.and_eq_true]at h1;exact hz (List.length_eq_zero_iff.1 (lenIs_iff.1 h1.1))
  ·exact hz (hout t hg).2.1
 have fsh:∀t ks,T.flat t=some ks->T.sh t≠ .other:=by
  intro t ks hf e;rcases Nat.lt_or_ge t n with hl|hg
  ·obtain⟨h1,_⟩:=UQ h hl;unfold tie1 at h1;have:okSh T t=false:=by simp[okSh,e]
   rw[this,hf]at h1;simp at h1
  ·rw[(hout t hg).2.2.1]at hf;cases hf
 have aggiff:∀t,((∃fs,T.sh t= .struct fs)\/(∃n e,T.sh t= .array n e))<->Uz (T.sh t)=true:=by
  intro t;cases T.sh t<;>simp[Uz]
 refine⟨?_,?_,?_,zsh,?_,?_⟩
 ·intro t ht;obtain⟨d,h1,h2⟩:=(split1 t ht).1;exact⟨d,h1,Zhx h2⟩
 ·intro t ht;obtain⟨i,h1,h2,h3,_⟩:=(split1 t ht).2.1;exact⟨i,h1,h2,h3⟩
 ·intro t ht hz;obtain⟨i,h1,h2,h3,h4⟩:=(split1 t ht).2.1;cases hzz:T.zero t with
  |nil=>exact absurd hzz hz
  |cons c cs=>
   obtain⟨z,h5,h6,h7,h8,h9,h10⟩:=h4 c cs hzz;obtain⟨h11,h12⟩:=Zcm h6
   exact⟨i,z,h1,h5,h11,h12,h7,h8,fun ha=>h9 ((aggiff t).1 ha),fun ha=>h10 (by
    cases hb:Uz (T.sh t)
    ·rfl
    ·exact absurd ((aggiff t).2 hb) ha)⟩
 ·intro t ks hf;have hs:=fsh t ks hf;refine⟨(split1 t hs).2.2 (by rw[hf];simp),?_⟩;have hfb:=(at1 t hs).2.1;unfold Zep at hfb;rw[hf]at hfb;simp only at hfb;split at hfb
  case h_2=>cases hfb
  rename_i ks' hk;simp only[Bool.and_eq_true]at hfb;rw[Z3f hfb.1];intro w η xs ys us vs r hc hu hv;exact Z5y P 9 t ks' hk 10000 (by omega) w η xs ys us vs _ _ r hc hu hv (by simp[XY,hfb.2]) (by simp[XY,hfb.2])
 ·intro t ks hk;refine Zhy hk ?_;rcases Nat.lt_or_ge t n with hl|hg
  ·exact(UQ h hl).2.2
  ·rw[(hout t hg).2.2.2]at hk;cases hk
end Go.Sx
