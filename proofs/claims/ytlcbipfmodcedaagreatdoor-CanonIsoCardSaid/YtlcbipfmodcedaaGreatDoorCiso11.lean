/- Part 11: Split1, Tag1, Tag2, Tag3, Tag4, Term1. Conditions: as each part says. -/
import Derived.Test.YtlcbipfmodcedaaGreatDoorCiso8
set_option linter.unusedVariables false
set_option linter.unusedSimpArgs false
set_option maxRecDepth 20000
set_option maxHeartbeats 8000000
namespace Go.Proofs.YtlcbipfmodcedaaGreatDoor
open Go.Sx Go.Our
open _root_.Go.Proofs.Tryz
theorem Z26(s:List UInt8)(c:Int):vW prog uv 313 0 [.str s, .int .u8 c] [] [] (wF (.int .i64 (Lib.countByte s c.toNat.toUInt8:Nat))):=by
 refine vW.says fun K w vs hd=>?_;simp only[vX,Den]at hd;obtain⟨u,us,rfl,rfl,u',us',rfl,rfl,rfl⟩:=hd;refine⟨_,?_,rfl⟩;rw[run_callFunc_extern func313 (by kernel_rfl) (by kernel_rfl) (by kernel_rfl) (e:=Extern.BytealgCount.count) (by kernel_rfl),Lib.run_countString]
 rfl
theorem Zbi(s:List UInt8):vW prog uv 297 0 [.str s, .str [45]] [] [] (wF (.int .i64 (s.count 45:Nat))):=by
 refine vW.enter Z3 call297 func297 rfl 34 rfl rfl [.tmp 4] rfl ?_;intro w0 F η0 h0;conv=>whnf
 repeat'(first|refine CALL.value (Z26 _ _) rfl rfl ?_|refine AU ?_|refine IW ?_ ?_<;>intro h<;>try omega)<;>conv=>whnf
 all_goals first
  |exact u9.value h0 rfl rfl
  |(exfalso;simp at*;done)
theorem Z7q(s:List UInt8):vW prog uv 314 0 [.str s, .str [45]] [] [] (wF (.int .i64 (Lib.indexByte s 45))):=by
 refine vW.enter Z3 call314 func314 rfl 143 rfl rfl [.tmp 4] rfl ?_;intro w0 F η0 h0;conv=>whnf
 repeat'(first|refine CALL.value (Ua _ _) rfl rfl ?_|refine AU ?_|refine IW ?_ ?_<;>intro h<;>try omega)<;>conv=>whnf
 all_goals first
  |exact u9.value h0 rfl rfl
  |(subst h;exact u9.value h0 rfl rfl)
  |(rcases h with h|h
    exact absurd h (by decide)
    subst h;exact u9.value h0 rfl rfl)
  |exact absurd (by assumption:¬((0+1:Nat):Int)=1) (by decide)
theorem Zbj(s:List UInt8):vW prog uv 298 0 [.str s, .str [45]] [] [] (wF (.int .i64 (Lib.indexByte s 45))):=by
 refine vW.enter Z3 call298 func298 rfl 8 rfl rfl [.tmp 4] rfl ?_;intro w0 F η0 h0;conv=>whnf
 repeat'(first|refine CALL.value (Z7q _) rfl rfl ?_)<;>conv=>whnf
 exact u9.value h0 rfl rfl
theorem Zg1{l c:Int}{b:Nat}(B:Nat)(hb:Nat.ble b B=true)(h0:0<=l)(h1:l<=c)(h2:(B:Int)*c<=281474976710656/\c<=9223372036854775807):0<=l/\l<=c/\c<=9223372036854775807/\(b:Int)*c<=281474976710656:=
 ⟨h0,h1,h2.2,Int.le_trans (Int.mul_le_mul_of_nonneg_right (by have:=zP hb;omega) (by omega)) h2.1⟩
theorem Z5S(s:List UInt8)(hs:s.length<=68719476736):vW prog uv 258 0 [.str s, .str [45], .int .i64 0, .int .i64 (-1)] [] [] (tw 1 ((ZK s).map Zx)):=by
 have z4i:=JI s;have hlen:=L8 s;have hne:=CV s;refine vW.enter Z3 call258 func258 rfl 66 rfl rfl [.tmp 8] rfl ?_;intro w0 F η0 h0;conv=>whnf
 repeat'(first|refine CALL.value (Zbi _) rfl rfl ?_|refine IW ?_ ?_<;>intro h<;>try omega)<;>conv=>whnf
 have hn:(if IntKind.i64.wrap ((s.length:Int)+1)<IntKind.i64.wrap (((s.count 45:Nat):Int)+1)then IntKind.i64.wrap ((s.length:Int)+1)else IntKind.i64.wrap (((s.count 45:Nat):Int)+1))=((ZK s).length:Int):=by
  simp(disch:=omega) only[Z4];rw[z6 (by omega)];omega
 rw[hn];refine ud.mk (Zg1 16 rfl (by omega) (by omega) (by omega)) ?_;conv=>whnf
 rw[show List.replicate ((ZK s).length:Int).toNat [SV.str []]=nE [] (ZK s).length by rw[Int.toNat_natCast];rfl];refine ua.go Z3 [1,2,3,9] (X:=List (List UInt8)×List UInt8) (fun x=>ZK s=x.1++ZK x.2/\x.2.length<=s.length) (fun x=>[(10, .int .i64 (x.1.length:Int)),(0, .str x.2)]) (fun x=>[(0, .rows 1 (nE x.1 ((ZK s).length-x.1.length)))]) 1 (fun x=>(ZK s).length-x.1.length) ([],s) ⟨rfl,zn _⟩ ?_;conv=>whnf
 refine⟨by(refine vY.uA h0 rfl rfl rfl (by first|rfl|(simp only[Zu,Zp,Zc _ (L9 _ _),zS,y6]<;>rfl)) ?_ ?_<;>(repeat'(first|(with_reducible rfl)|(exact YZ rfl (by first|(simp;done)|omega|(simp;omega)))|(exact zf (SV.int _) (by first|omega|(simp(disch:=omega) only[uP,Z4,Zb]<;>omega)|(simp;done)|(simp<;>omega)))|(exact zf (Hp.rows _) (by rfl))|((conv=>whnf);refine⟨?_,?_⟩)|exact trivial|rfl))),?_⟩;rintro⟨d,u⟩ ⟨he,hu⟩;dsimp only at he hu⊢;have hd:d.length+(ZK u).length=(ZK s).length:=by rw[he,ze]
 have hun:1<=(ZK u).length:=by have:=JI u;omega
 have hm:Lib.indexByte u 45= -1/\ZK u=[u]\/∃m:Nat,Lib.indexByte u 45=m/\m<u.length/\ZK u=u.take m::ZK (u.drop (m+1)):=by
  have hge:=Lib.indexByte_ge u 45;by_cases h:Lib.indexByte u 45= -1
  exact .inl ⟨h,L6 h⟩
  .have e:Lib.indexByte u 45=((Lib.indexByte u 45).toNat:Int):=by omega
   have:=L7 e;exact .inr ⟨_,e,this.1,this.2⟩
 conv=>whnf
 rcases hm with⟨hm,hs1⟩|⟨m,hm,hml,hs1⟩
 .have h1:(ZK u).length=1:=by rw[hs1];rfl
  repeat'(first|refine GET.at (row:=Zx []) (La (by omega) (by omega)) ?_|refine ud.mk (by rw[Z4 (by omega) (by omega)];refine⟨by omega,?_⟩;show _<=((max (((ZK s).length:Int).toNat) (_-0):Nat):Int);omega) ?_|refine AU ?_|refine IW ?_ ?_<;>intro h<;>try omega)<;>conv=>whnf
  rw[Lb (by omega) (by omega)]
  have hw:(IntKind.i64.wrap ((d.length:Int)+1)).toNat=((ZK s).map Zx).length:=by
   rw[Z4 (by omega) (by omega),zj];omega
  rw[hw,show(ZK s).length-d.length-1=0 by omega,show nE (d++ [u]) 0=(ZK s).map Zx by rw[he,hs1];simp[nE]];exact u9.rows h0 0 1 _ rfl rfl rfl (YD _) ⟨rfl,rfl,rfl⟩
 .have h1:2<=(ZK u).length:=by rw[hs1];have:=JI (u.drop (m+1));simp;omega
  repeat'(first|refine CALL.value (Zbj _) rfl rfl ?_|refine GET.at (row:=Zx []) (La (by omega) (by omega)) ?_|refine AU ?_|refine IW ?_ ?_<;>intro h<;>try omega)<;>conv=>whnf
  have hw1:(IntKind.i64.wrap (Lib.indexByte u 45+(([45]:List UInt8).length:Int))).toNat=m+1:=by
   rw[hm];simp only[List.length_cons,List.length_nil];rw[Z4 (by omega) (by omega)];omega
  have lg:(IntKind.i64.wrap (Lib.indexByte u 45+0)).toNat=m:=by
   rw[hm,Z4 (by omega) (by omega)];omega
  rw[hw1,lg,Lb (by omega) (by omega)];refine⟨(d++ [u.take m],u.drop (m+1)),⟨by rw[he,hs1];simp,by simp;omega⟩,by simp;omega,?_⟩;dsimp only;conv=>whnf
  (refine vY.uA h0 rfl rfl rfl (by first|rfl|(simp only[Zu,Zp,Zc _ (L9 _ _),zS,y6]<;>rfl)) ?_ ?_<;>(repeat'(first|(with_reducible rfl)|(exact YZ rfl (by first|(simp;done)|omega|(simp;omega)))|(exact zf (SV.int _) (by first|omega|(simp(disch:=omega) only[uP,Z4,Zb]<;>omega)|(simp;done)|(simp<;>omega)))|(exact zf (Hp.rows _) (by congr 1;simp;omega))|((conv=>whnf);refine⟨?_,?_⟩)|exact trivial|rfl)))
theorem Zbk(s:List UInt8)(hs:s.length<=68719476736):vW prog uv 209 0 [.str s, .str [45]] [] [] (tw 1 ((ZK s).map Zx)):=by
 refine vW.enter Z3 call209 func209 rfl 8 rfl rfl [.tmp 4] rfl ?_;intro w0 F η0 h0;conv=>whnf
 refine CALL.KM (Z5S s hs) rfl (YD _) ?_;conv=>whnf
 exact u9.rows h0 0 1 _ rfl rfl rfl (YD _) ⟨rfl,rfl,rfl⟩
end Go.Proofs.YtlcbipfmodcedaaGreatDoor
namespace Go.Proofs.YtlcbipfmodcedaaGreatDoor
open Go.Sx Go.Our
open _root_.Go.Proofs.Tryz
theorem Zbl(s:List UInt8)(hs:Sm s):vW prog uv 259 0 [.str s] [] [] (wF (.bool (Y8 s 2 8 true))):=by
 refine vW.enter Z3 call259 func259 rfl 5 rfl rfl [.tmp 2] rfl ?_;intro w0 F η0 h0;conv=>whnf
 repeat'(first|refine CALL.value (JK _ _ _ _ hs) rfl rfl ?_)<;>conv=>whnf
 exact u9.value h0 rfl rfl
theorem Zbm(s:List UInt8)(hs:Sm s):vW prog uv 261 0 [.str s] [] [] (wF (.bool (Y8 s 3 3 true))):=by
 refine vW.enter Z3 call261 func261 rfl 5 rfl rfl [.tmp 2] rfl ?_;intro w0 F η0 h0;conv=>whnf
 repeat'(first|refine CALL.value (JK _ _ _ _ hs) rfl rfl ?_)<;>conv=>whnf
 exact u9.value h0 rfl rfl
theorem Zbn(s:List UInt8)(hs:Sm s):vW prog uv 262 0 [.str s] [] [] (wF (.bool (Y8 s 4 4 true))):=by
 refine vW.enter Z3 call262 func262 rfl 5 rfl rfl [.tmp 2] rfl ?_;intro w0 F η0 h0;conv=>whnf
 repeat'(first|refine CALL.value (JK _ _ _ _ hs) rfl rfl ?_)<;>conv=>whnf
 exact u9.value h0 rfl rfl
theorem UY(s:List UInt8)(hs:Sm s):vW prog uv 266 0 [.str s] [] [] (wF (.bool (CW s))):=by
 refine vW.enter Z3 call266 func266 rfl 10 rfl rfl [.tmp 2] rfl ?_;intro w0 F η0 h0;conv=>whnf
 repeat'(first|refine CALL.value (JK _ _ _ _ hs) rfl rfl ?_|refine CALL.value (V4 _) rfl rfl ?_|refine AU ?_|refine IW ?_ ?_<;>intro h<;>try omega)<;>conv=>whnf
 all_goals
  refine u9.value h0 rfl (zf SV.bool ?_);unfold CW
  simp_all
theorem CY(s:List UInt8)(least:Int)(hs:Sm s):vW prog uv 267 1 [.str s, .ptr (.loc 0) 0 0 0] [] [(0, .box [.int .i64 least])] (qd 1 (.bool (Y8 s least 8 false))):=by
 refine vW.enter Z3 call267 func267 rfl 7 rfl rfl [.tmp 3] rfl ?_;intro w0 F η0 h0;conv=>whnf
 repeat'(first|refine CALL.value (JK _ _ _ _ hs) rfl rfl ?_)<;>conv=>whnf
 exact u9.uh h0 rfl rfl
def Uu(i m:Nat)(L E S R:List UInt8)(v x:Nat)(P:List UInt8):Hp:= .box [.sl (.loc 1) i 1 m none, .str L, .str E, .str S, .str R, .sl (.loc 2) 0 1 v none, .sl (.loc 3) 0 1 x none, .str P]
def Wq(i m:Nat)(L E S R:List UInt8)(v x:Nat)(P:List UInt8):Hp:= .box [.sl (.loc 1) i 1 m none, .str L, .str E, .str S, .str R, .any, .any, .str P]
def Je(i m:Nat)(L E S R:List UInt8)(v x:Nat)(P:List UInt8):Hp:= .box [.sl (.loc 1) i 1 m none, .str L, .str E, .str S, .str R, .sl (.loc 4) 0 1 v none, .sl (.loc 5) 0 1 x none, .str P]
def X5(p:List UInt8->Bool)(ps:List (List UInt8))(i:Nat):Bool:=match ps[i]? with|some s=>p s|none=>false
theorem tQ{ps:List (List UInt8)}{i:Nat}{p:List UInt8}(h:ps[i]?=some p):((ps.take (i+1)).map List.length).sum=((ps.take i).map List.length).sum+p.length:=by
 obtain⟨h1,rfl⟩:=zg.1 h;rw[zB h1,yo,List.sum_append];simp
abbrev oC(ps:List (List UInt8)):Nat:=(ps.map List.length).sum
theorem Xl(ps:List (List UInt8))(i:Nat):((ps.take i).map List.length).sum<=oC ps:=by
 conv=>rhs;unfold oC;rw[<-xd i ps]
 rw[yo,List.sum_append];omega
theorem JL(g:Nat)(p:List UInt8->Bool)(ps:List (List UInt8))(hp:∀s∈ps,vW prog uv g 0 [.str s] [] [] (wF (.bool (p s))))(i m:Nat)(him:i+m=ps.length)(L E S R:List UInt8)(v x:Nat)(P:List UInt8):
 vW prog uv 210 4 [.ptr (.loc 0) 0 0 0, .fn (.func g) [] []] [] [(0,Uu i m L E S R v x P),(1, .rows 1 (ps.map Zx))] (qd 4 (.bool (X5 p ps i))):=by
 refine vW.enter Z3 call210 func210 rfl 21 rfl rfl [.tmp 4] rfl ?_;intro w0 F η0 h0;conv=>whnf
 repeat'(first|refine GET.at (row:=Zx (ps[i]'(by omega))) (by rw[z7,show i+(0:Int).toNat=i by simp,z1 (by omega)];rfl) ?_|refine CALL.value (hp _ (zq (by omega))) rfl rfl ?_|refine AU ?_|refine IW ?_ ?_<;>intro h<;>try omega)<;>conv=>whnf
 .refine u9.uh h0 rfl (zf SV.bool ?_);unfold X5;rw[z1 (by omega)];rfl
 .refine u9.uh h0 rfl (zf SV.bool ?_);unfold X5;rw[yd (by omega)]
theorem Z5T(least:Int)(ps:List (List UInt8))(hp:∀s∈ps,Sm s)(i m:Nat)(him:i+m=ps.length)(L E S R:List UInt8)(v x:Nat)(P:List UInt8):
 vW prog uv 210 5 [.ptr (.loc 0) 0 0 0, .fn (.func 267) [] [.ptr (.loc 4) 0 0 0]] [] [(0,Uu i m L E S R v x P),(1, .rows 1 (ps.map Zx)),(4, .box [.int .i64 least])] (qd 5 (.bool (X5 (fun s=>Y8 s least 8 false) ps i))):=by
 refine vW.enter Z3 call210 func210 rfl 21 rfl rfl [.tmp 4] rfl ?_;intro w0 F η0 h0;conv=>whnf
 repeat'(first|refine GET.at (row:=Zx (ps[i]'(by omega))) (by rw[z7,show i+(0:Int).toNat=i by simp,z1 (by omega)];rfl) ?_|refine CALL.looks [4] (CY (ps[i]'(by omega)) least (hp _ (zq (by omega)))) rfl rfl rfl rfl ⟨⟨rfl,rfl,rfl⟩,trivial⟩ ?_|refine AU ?_|refine IW ?_ ?_<;>intro h<;>try omega)<;>conv=>whnf
 .refine u9.uh h0 rfl (zf SV.bool ?_);unfold X5;rw[z1 (by omega)];rfl
 .refine u9.uh h0 rfl (zf SV.bool ?_);unfold X5;rw[yd (by omega)]
theorem Ys(ps:List (List UInt8))(i m:Nat)(him:i+(m+1)=ps.length)(p:List UInt8)(hp:ps[i]?=some p)(L E S R:List UInt8)(v x:Nat)(P:List UInt8):
 vW prog uv 214 4 [.ptr (.loc 0) 0 0 0] [(0,Uu i (m+1) L E S R v x P)] [(1, .rows 1 (ps.map Zx))] (fun r O nx=>r= .str p/\O=[(0,Uu (i+1) m L E S R v x P)]/\nx=4):=by
 refine vW.enter Z3 call214 func214 rfl 19 rfl rfl [.tmp 2] rfl ?_;intro w0 F η0 h0;conv=>whnf
 repeat'(first|refine GET.at (row:=Zx p) (by rw[z7,show i+(0:Int).toNat=i by simp,hp];rfl) ?_|refine AU ?_)<;>conv=>whnf
 exact u9.here h0 (Oc:=[(0,Uu (i+1) m L E S R v x P)]) rfl rfl rfl ⟨rfl,trivial⟩ ⟨rfl,rfl,rfl⟩
theorem Zdw(least:Int)(ps:List (List UInt8))(hb:oC ps+ps.length<=1152921504606846976)(i m:Nat)(him:i+m=ps.length)(L E S R:List UInt8)(v x:Nat)(P:List UInt8):
 vW prog uv 215 4 [.ptr (.loc 0) 0 0 0, .int .i64 least] [(0,Uu i m L E S R v x P)] [(1, .rows 1 (ps.map Zx))]
  (fun r O nx=> ∃(n:Nat) (s:List UInt8),n=YO (fun s=>Y8 s least 8 false) (ps.drop i)/\s.length<=oC ps+ps.length/\r= .uI [.str s, .bool (decide (n≠0))]/\O=[(0,Uu (i+n) (m-n) L E S R v x P)]/\nx=4):=by
 have j8:∀s∈ps,Sm s:=by
  intro s hs;obtain⟨j,hj,rfl⟩:=vF hs;have h1:=tQ (z1 hj);have h2:=Xl ps (j+1);omega
 refine vW.enter Z3 call215 func215 rfl 18 rfl rfl [.tmp 4, .tmp 5] rfl ?_;intro w0 F η0 h0;conv=>whnf
 refine ua.go Z3 [0,3] (X:=Nat×List UInt8) (fun y=>y.1<=m/\y.2.length<=((ps.take (i+y.1)).map List.length).sum+(i+y.1)/\(y.1=0<->y.2=[])/\YO (fun s=>Y8 s least 8 false) (ps.drop i)=y.1+YO (fun s=>Y8 s least 8 false) (ps.drop (i+y.1))) (fun y=>[(6, .str y.2)]) (fun y=>[(0,Uu (i+y.1) (m-y.1) L E S R v x P),(4, .box [.int .i64 least])]) 5 (fun y=>m-y.1) (0,[]) ⟨by simp,by simp,by simp,by simp⟩ ?_;conv=>whnf
 refine⟨by exact vY.cA h0,?_⟩;rintro⟨n,s⟩ ⟨hn,hl,rL,bB⟩;dsimp only at hn hl rL bB⊢;conv=>whnf
 refine CALL.hA (Z5T least ps j8 (i+n) (m-n) (by omega) L E S R v x P) ?_ ?_;rintro r O' vZ ⟨rfl,rfl,rfl⟩;exact⟨rfl,rfl,rfl⟩;rintro r O' ⟨rfl,rfl,_⟩;conv=>whnf
 refine⟨fun h=>?_,fun h=>?_⟩
 .obtain⟨p,hp,cO⟩:∃p,ps[i+n]?=some p/\Y8 p least 8 false=true:=by
   unfold X5 at h;cases hp:ps[i+n]? with
   |none=>rw[hp]at h;cases h
   |some p=>rw[hp]at h;exact⟨p,rfl,h⟩
  have hlt:=(zg.1 hp).1;have hs1:=tQ hp;have hs2:=Xl ps (i+n+1);obtain⟨k,hk⟩:∃k,m-n=k+1:=⟨m-n-1,by omega⟩;rw[hk];conv=>whnf
  refine CALL.hA (Ys ps (i+n) k (by omega) p hp L E S R v x P) ?_ ?_;rintro r O' vZ ⟨rfl,rfl,rfl⟩;exact⟨rfl,rfl,rfl⟩;rintro r O' ⟨rfl,rfl,_⟩;conv=>whnf
  repeat'(first|refine AU ?_)<;>conv=>whnf
  have hsp:YO (fun s=>Y8 s least 8 false) (ps.drop (i+n))=YO (fun s=>Y8 s least 8 false) (ps.drop (i+(n+1)))+1:=by
   rw[zQ hlt]
   have:ps[i+n]=p:=by
    have:=z1 hlt;rw[hp]at this;injection this with this;exact this.symm
   rw[this];simp only[YO,cO,yH]
   rfl
  refine⟨(n+1,s++([45]++p)),⟨by simp only;omega,?_,by simp,by simp only;omega⟩,by simp only;omega,?_⟩
  .simp only[ze,List.length_cons,List.length_nil];rw[show i+(n+1)=i+n+1 by omega,hs1];omega
  .dsimp only;rw[show i+(n+1)=i+n+1 by omega,show m-(n+1)=k by omega];conv=>whnf
   exact vY.cA h0
 .have hsp:YO (fun s=>Y8 s least 8 false) (ps.drop (i+n))=0:=by
   unfold X5 at h;cases hp:ps[i+n]? with
   |none=>rw[yG (by simpa using hp)];rfl
   |some p=>
    rw[hp]at h;have hlt:=(zg.1 hp).1;rw[zQ hlt]
    have:ps[i+n]=p:=by
     have:=z1 hlt;rw[hp]at this;injection this with this;exact this.symm
    rw[this];simp only[YO];simp only at h;simp[h]
  have hs2:=Xl ps (i+n);conv=>whnf
  skip
  refine u9.here h0 (rc:= .uI [.str s, .bool (decide (n≠0))]) (Oc:=[(0,Uu (i+n) (m-n) L E S R v x P)]) ?_ rfl rfl ⟨rfl,trivial⟩ ⟨n,s,by omega,by omega,rfl,rfl,rfl⟩;show SV.uI [SV.str s,SV.bool (s !=[])]=SV.uI [SV.str s,SV.bool (decide (n≠0))]
  have:(s !=[])=decide (n≠0):=by rw[yh];simp[rL]
  rw[this]
theorem Zbo(g:Nat)(p:List UInt8->Bool)(ps:List (List UInt8))(hp:∀s∈ps,vW prog uv g 0 [.str s] [] [] (wF (.bool (p s))))(i m:Nat)(him:i+m=ps.length)(L E S R:List UInt8)(v x:Nat)(P:List UInt8):
 vW prog uv 210 4 [.ptr (.loc 0) 0 0 0, .fn (.func g) [] []] [] [(0,Wq i m L E S R v x P),(1, .rows 1 (ps.map Zx))] (qd 4 (.bool (X5 p ps i))):=by
 refine vW.enter Z3 call210 func210 rfl 21 rfl rfl [.tmp 4] rfl ?_;intro w0 F η0 h0;conv=>whnf
 repeat'(first|refine GET.at (row:=Zx (ps[i]'(by omega))) (by rw[z7,show i+(0:Int).toNat=i by simp,z1 (by omega)];rfl) ?_|refine CALL.value (hp _ (zq (by omega))) rfl rfl ?_|refine AU ?_|refine IW ?_ ?_<;>intro h<;>try omega)<;>conv=>whnf
 .refine u9.uh h0 rfl (zf SV.bool ?_);unfold X5;rw[z1 (by omega)];rfl
 .refine u9.uh h0 rfl (zf SV.bool ?_);unfold X5;rw[yd (by omega)]
theorem Z4k(least:Int)(ps:List (List UInt8))(hp:∀s∈ps,Sm s)(i m:Nat)(him:i+m=ps.length)(L E S R:List UInt8)(v x:Nat)(P:List UInt8):
 vW prog uv 210 5 [.ptr (.loc 0) 0 0 0, .fn (.func 267) [] [.ptr (.loc 4) 0 0 0]] [] [(0,Wq i m L E S R v x P),(1, .rows 1 (ps.map Zx)),(4, .box [.int .i64 least])] (qd 5 (.bool (X5 (fun s=>Y8 s least 8 false) ps i))):=by
 refine vW.enter Z3 call210 func210 rfl 21 rfl rfl [.tmp 4] rfl ?_;intro w0 F η0 h0;conv=>whnf
 repeat'(first|refine GET.at (row:=Zx (ps[i]'(by omega))) (by rw[z7,show i+(0:Int).toNat=i by simp,z1 (by omega)];rfl) ?_|refine CALL.looks [4] (CY (ps[i]'(by omega)) least (hp _ (zq (by omega)))) rfl rfl rfl rfl ⟨⟨rfl,rfl,rfl⟩,trivial⟩ ?_|refine AU ?_|refine IW ?_ ?_<;>intro h<;>try omega)<;>conv=>whnf
 .refine u9.uh h0 rfl (zf SV.bool ?_);unfold X5;rw[z1 (by omega)];rfl
 .refine u9.uh h0 rfl (zf SV.bool ?_);unfold X5;rw[yd (by omega)]
theorem Wr(ps:List (List UInt8))(i m:Nat)(him:i+(m+1)=ps.length)(p:List UInt8)(hp:ps[i]?=some p)(L E S R:List UInt8)(v x:Nat)(P:List UInt8):
 vW prog uv 214 4 [.ptr (.loc 0) 0 0 0] [(0,Wq i (m+1) L E S R v x P)] [(1, .rows 1 (ps.map Zx))] (fun r O nx=>r= .str p/\O=[(0,Wq (i+1) m L E S R v x P)]/\nx=4):=by
 refine vW.enter Z3 call214 func214 rfl 19 rfl rfl [.tmp 2] rfl ?_;intro w0 F η0 h0;conv=>whnf
 repeat'(first|refine GET.at (row:=Zx p) (by rw[z7,show i+(0:Int).toNat=i by simp,hp];rfl) ?_|refine AU ?_)<;>conv=>whnf
 exact u9.here h0 (Oc:=[(0,Wq (i+1) m L E S R v x P)]) rfl rfl rfl ⟨rfl,trivial⟩ ⟨rfl,rfl,rfl⟩
theorem Zbp(least:Int)(ps:List (List UInt8))(hb:oC ps+ps.length<=1152921504606846976)(i m:Nat)(him:i+m=ps.length)(L E S R:List UInt8)(v x:Nat)(P:List UInt8):
 vW prog uv 215 4 [.ptr (.loc 0) 0 0 0, .int .i64 least] [(0,Wq i m L E S R v x P)] [(1, .rows 1 (ps.map Zx))]
  (fun r O nx=> ∃(n:Nat) (s:List UInt8),n=YO (fun s=>Y8 s least 8 false) (ps.drop i)/\s.length<=oC ps+ps.length/\r= .uI [.str s, .bool (decide (n≠0))]/\O=[(0,Wq (i+n) (m-n) L E S R v x P)]/\nx=4):=by
 have j8:∀s∈ps,Sm s:=by
  intro s hs;obtain⟨j,hj,rfl⟩:=vF hs;have h1:=tQ (z1 hj);have h2:=Xl ps (j+1);omega
 refine vW.enter Z3 call215 func215 rfl 18 rfl rfl [.tmp 4, .tmp 5] rfl ?_;intro w0 F η0 h0;conv=>whnf
 refine ua.go Z3 [0,3] (X:=Nat×List UInt8) (fun y=>y.1<=m/\y.2.length<=((ps.take (i+y.1)).map List.length).sum+(i+y.1)/\(y.1=0<->y.2=[])/\YO (fun s=>Y8 s least 8 false) (ps.drop i)=y.1+YO (fun s=>Y8 s least 8 false) (ps.drop (i+y.1))) (fun y=>[(6, .str y.2)]) (fun y=>[(0,Wq (i+y.1) (m-y.1) L E S R v x P),(4, .box [.int .i64 least])]) 5 (fun y=>m-y.1) (0,[]) ⟨by simp,by simp,by simp,by simp⟩ ?_;conv=>whnf
 refine⟨by exact vY.cA h0,?_⟩;rintro⟨n,s⟩ ⟨hn,hl,rL,bB⟩;dsimp only at hn hl rL bB⊢;conv=>whnf
 refine CALL.hA (Z4k least ps j8 (i+n) (m-n) (by omega) L E S R v x P) ?_ ?_;rintro r O' vZ ⟨rfl,rfl,rfl⟩;exact⟨rfl,rfl,rfl⟩;rintro r O' ⟨rfl,rfl,_⟩;conv=>whnf
 refine⟨fun h=>?_,fun h=>?_⟩
 .obtain⟨p,hp,cO⟩:∃p,ps[i+n]?=some p/\Y8 p least 8 false=true:=by
   unfold X5 at h;cases hp:ps[i+n]? with
   |none=>rw[hp]at h;cases h
   |some p=>rw[hp]at h;exact⟨p,rfl,h⟩
  have hlt:=(zg.1 hp).1;have hs1:=tQ hp;have hs2:=Xl ps (i+n+1);obtain⟨k,hk⟩:∃k,m-n=k+1:=⟨m-n-1,by omega⟩;rw[hk];conv=>whnf
  refine CALL.hA (Wr ps (i+n) k (by omega) p hp L E S R v x P) ?_ ?_;rintro r O' vZ ⟨rfl,rfl,rfl⟩;exact⟨rfl,rfl,rfl⟩;rintro r O' ⟨rfl,rfl,_⟩;conv=>whnf
  repeat'(first|refine AU ?_)<;>conv=>whnf
  have hsp:YO (fun s=>Y8 s least 8 false) (ps.drop (i+n))=YO (fun s=>Y8 s least 8 false) (ps.drop (i+(n+1)))+1:=by
   rw[zQ hlt]
   have:ps[i+n]=p:=by
    have:=z1 hlt;rw[hp]at this;injection this with this;exact this.symm
   rw[this];simp only[YO,cO,yH]
   rfl
  refine⟨(n+1,s++([45]++p)),⟨by simp only;omega,?_,by simp,by simp only;omega⟩,by simp only;omega,?_⟩
  .simp only[ze,List.length_cons,List.length_nil];rw[show i+(n+1)=i+n+1 by omega,hs1];omega
  .dsimp only;rw[show i+(n+1)=i+n+1 by omega,show m-(n+1)=k by omega];conv=>whnf
   exact vY.cA h0
 .have hsp:YO (fun s=>Y8 s least 8 false) (ps.drop (i+n))=0:=by
   unfold X5 at h;cases hp:ps[i+n]? with
   |none=>rw[yG (by simpa using hp)];rfl
   |some p=>
    rw[hp]at h;have hlt:=(zg.1 hp).1;rw[zQ hlt]
    have:ps[i+n]=p:=by
     have:=z1 hlt;rw[hp]at this;injection this with this;exact this.symm
    rw[this];simp only[YO];simp only at h;simp[h]
  have hs2:=Xl ps (i+n);conv=>whnf
  skip
  refine u9.here h0 (rc:= .uI [.str s, .bool (decide (n≠0))]) (Oc:=[(0,Wq (i+n) (m-n) L E S R v x P)]) ?_ rfl rfl ⟨rfl,trivial⟩ ⟨n,s,by omega,by omega,rfl,rfl,rfl⟩;show SV.uI [SV.str s,SV.bool (s !=[])]=SV.uI [SV.str s,SV.bool (decide (n≠0))]
  have:(s !=[])=decide (n≠0):=by rw[yh];simp[rL]
  rw[this]
theorem XC(g:Nat)(p:List UInt8->Bool)(ps:List (List UInt8))(hp:∀s∈ps,vW prog uv g 0 [.str s] [] [] (wF (.bool (p s))))(i m:Nat)(him:i+m=ps.length)(L E S R:List UInt8)(v x:Nat)(P:List UInt8):
 vW prog uv 210 7 [.ptr (.loc 0) 0 0 0, .fn (.func g) [] []] [] [(0,Je i m L E S R v x P),(1, .rows 1 (ps.map Zx))] (qd 7 (.bool (X5 p ps i))):=by
 refine vW.enter Z3 call210 func210 rfl 21 rfl rfl [.tmp 4] rfl ?_;intro w0 F η0 h0;conv=>whnf
 repeat'(first|refine GET.at (row:=Zx (ps[i]'(by omega))) (by rw[z7,show i+(0:Int).toNat=i by simp,z1 (by omega)];rfl) ?_|refine CALL.value (hp _ (zq (by omega))) rfl rfl ?_|refine AU ?_|refine IW ?_ ?_<;>intro h<;>try omega)<;>conv=>whnf
 .refine u9.uh h0 rfl (zf SV.bool ?_);unfold X5;rw[z1 (by omega)];rfl
 .refine u9.uh h0 rfl (zf SV.bool ?_);unfold X5;rw[yd (by omega)]
theorem Z4l(least:Int)(ps:List (List UInt8))(hp:∀s∈ps,Sm s)(i m:Nat)(him:i+m=ps.length)(L E S R:List UInt8)(v x:Nat)(P:List UInt8):
 vW prog uv 210 8 [.ptr (.loc 0) 0 0 0, .fn (.func 267) [] [.ptr (.loc 7) 0 0 0]] [] [(0,Je i m L E S R v x P),(1, .rows 1 (ps.map Zx)),(7, .box [.int .i64 least])] (qd 8 (.bool (X5 (fun s=>Y8 s least 8 false) ps i))):=by
 refine vW.enter Z3 call210 func210 rfl 21 rfl rfl [.tmp 4] rfl ?_;intro w0 F η0 h0;conv=>whnf
 repeat'(first|refine GET.at (row:=Zx (ps[i]'(by omega))) (by rw[z7,show i+(0:Int).toNat=i by simp,z1 (by omega)];rfl) ?_|refine CALL.looks [7] (CY (ps[i]'(by omega)) least (hp _ (zq (by omega)))) rfl rfl rfl rfl ⟨⟨rfl,rfl,rfl⟩,trivial⟩ ?_|refine AU ?_|refine IW ?_ ?_<;>intro h<;>try omega)<;>conv=>whnf
 .refine u9.uh h0 rfl (zf SV.bool ?_);unfold X5;rw[z1 (by omega)];rfl
 .refine u9.uh h0 rfl (zf SV.bool ?_);unfold X5;rw[yd (by omega)]
theorem Y6(ps:List (List UInt8))(i m:Nat)(him:i+(m+1)=ps.length)(p:List UInt8)(hp:ps[i]?=some p)(L E S R:List UInt8)(v x:Nat)(P:List UInt8):
 vW prog uv 214 7 [.ptr (.loc 0) 0 0 0] [(0,Je i (m+1) L E S R v x P)] [(1, .rows 1 (ps.map Zx))] (fun r O nx=>r= .str p/\O=[(0,Je (i+1) m L E S R v x P)]/\nx=7):=by
 refine vW.enter Z3 call214 func214 rfl 19 rfl rfl [.tmp 2] rfl ?_;intro w0 F η0 h0;conv=>whnf
 repeat'(first|refine GET.at (row:=Zx p) (by rw[z7,show i+(0:Int).toNat=i by simp,hp];rfl) ?_|refine AU ?_)<;>conv=>whnf
 exact u9.here h0 (Oc:=[(0,Je (i+1) m L E S R v x P)]) rfl rfl rfl ⟨rfl,trivial⟩ ⟨rfl,rfl,rfl⟩
theorem UZ(least:Int)(ps:List (List UInt8))(hb:oC ps+ps.length<=1152921504606846976)(i m:Nat)(him:i+m=ps.length)(L E S R:List UInt8)(v x:Nat)(P:List UInt8):
 vW prog uv 215 7 [.ptr (.loc 0) 0 0 0, .int .i64 least] [(0,Je i m L E S R v x P)] [(1, .rows 1 (ps.map Zx))]
  (fun r O nx=> ∃(n:Nat) (s:List UInt8),n=YO (fun s=>Y8 s least 8 false) (ps.drop i)/\s.length<=oC ps+ps.length/\r= .uI [.str s, .bool (decide (n≠0))]/\O=[(0,Je (i+n) (m-n) L E S R v x P)]/\nx=7):=by
 have j8:∀s∈ps,Sm s:=by
  intro s hs;obtain⟨j,hj,rfl⟩:=vF hs;have h1:=tQ (z1 hj);have h2:=Xl ps (j+1);omega
 refine vW.enter Z3 call215 func215 rfl 18 rfl rfl [.tmp 4, .tmp 5] rfl ?_;intro w0 F η0 h0;conv=>whnf
 refine ua.go Z3 [0,3] (X:=Nat×List UInt8) (fun y=>y.1<=m/\y.2.length<=((ps.take (i+y.1)).map List.length).sum+(i+y.1)/\(y.1=0<->y.2=[])/\YO (fun s=>Y8 s least 8 false) (ps.drop i)=y.1+YO (fun s=>Y8 s least 8 false) (ps.drop (i+y.1))) (fun y=>[(6, .str y.2)]) (fun y=>[(0,Je (i+y.1) (m-y.1) L E S R v x P),(7, .box [.int .i64 least])]) 8 (fun y=>m-y.1) (0,[]) ⟨by simp,by simp,by simp,by simp⟩ ?_;conv=>whnf
 refine⟨by exact vY.cA h0,?_⟩;rintro⟨n,s⟩ ⟨hn,hl,rL,bB⟩;dsimp only at hn hl rL bB⊢;conv=>whnf
 refine CALL.hA (Z4l least ps j8 (i+n) (m-n) (by omega) L E S R v x P) ?_ ?_;rintro r O' vZ ⟨rfl,rfl,rfl⟩;exact⟨rfl,rfl,rfl⟩;rintro r O' ⟨rfl,rfl,_⟩;conv=>whnf
 refine⟨fun h=>?_,fun h=>?_⟩
 .obtain⟨p,hp,cO⟩:∃p,ps[i+n]?=some p/\Y8 p least 8 false=true:=by
   unfold X5 at h;cases hp:ps[i+n]? with
   |none=>rw[hp]at h;cases h
   |some p=>rw[hp]at h;exact⟨p,rfl,h⟩
  have hlt:=(zg.1 hp).1;have hs1:=tQ hp;have hs2:=Xl ps (i+n+1);obtain⟨k,hk⟩:∃k,m-n=k+1:=⟨m-n-1,by omega⟩;rw[hk];conv=>whnf
  refine CALL.hA (Y6 ps (i+n) k (by omega) p hp L E S R v x P) ?_ ?_;rintro r O' vZ ⟨rfl,rfl,rfl⟩;exact⟨rfl,rfl,rfl⟩;rintro r O' ⟨rfl,rfl,_⟩;conv=>whnf
  repeat'(first|refine AU ?_)<;>conv=>whnf
  have hsp:YO (fun s=>Y8 s least 8 false) (ps.drop (i+n))=YO (fun s=>Y8 s least 8 false) (ps.drop (i+(n+1)))+1:=by
   rw[zQ hlt]
   have:ps[i+n]=p:=by
    have:=z1 hlt;rw[hp]at this;injection this with this;exact this.symm
   rw[this];simp only[YO,cO,yH]
   rfl
  refine⟨(n+1,s++([45]++p)),⟨by simp only;omega,?_,by simp,by simp only;omega⟩,by simp only;omega,?_⟩
  .simp only[ze,List.length_cons,List.length_nil];rw[show i+(n+1)=i+n+1 by omega,hs1];omega
  .dsimp only;rw[show i+(n+1)=i+n+1 by omega,show m-(n+1)=k by omega];conv=>whnf
   exact vY.cA h0
 .have hsp:YO (fun s=>Y8 s least 8 false) (ps.drop (i+n))=0:=by
   unfold X5 at h;cases hp:ps[i+n]? with
   |none=>rw[yG (by simpa using hp)];rfl
   |some p=>
    rw[hp]at h;have hlt:=(zg.1 hp).1;rw[zQ hlt]
    have:ps[i+n]=p:=by
     have:=z1 hlt;rw[hp]at this;injection this with this;exact this.symm
    rw[this];simp only[YO];simp only at h;simp[h]
  have hs2:=Xl ps (i+n);conv=>whnf
  skip
  refine u9.here h0 (rc:= .uI [.str s, .bool (decide (n≠0))]) (Oc:=[(0,Je (i+n) (m-n) L E S R v x P)]) ?_ rfl rfl ⟨rfl,trivial⟩ ⟨n,s,by omega,by omega,rfl,rfl,rfl⟩;show SV.uI [SV.str s,SV.bool (s !=[])]=SV.uI [SV.str s,SV.bool (decide (n≠0))]
  have:(s !=[])=decide (n≠0):=by rw[yh];simp[rL]
  rw[this]
open _root_.Go.Proofs.Tryz
def Lj:uJ:=(.take 0 1 (.take 1 1 (.take 2 1 (.take 3 1 (.take 5 1 (.fork 4 3 6 0 (ZI [(6,0),(7,1),(8,1),(9,1),(10,1),(11,0)]) (ZI [(4,2),(7,1),(8,1),(9,1),(10,1),(11,0)])))))))
theorem CZ{ps:List (List UInt8)}(hb:oC ps+ps.length<=1152921504606846976):∀s∈ps,Sm s:=by
 intro s hs;obtain⟨j,hj,rfl⟩:=vF hs;have h1:=tQ (z1 hj);have h2:=Xl ps (j+1);omega
theorem YA{p:List UInt8->Bool}{ps:List (List UInt8)}{i:Nat}(h:X5 p ps i=true):∃s,ps[i]?=some s/\p s=true:=by
 unfold X5 at h;cases hp:ps[i]? with
 |none=>rw[hp]at h;cases h
 |some s=>rw[hp]at h;exact⟨s,rfl,h⟩
theorem Xt{ps:List (List UInt8)}{i:Nat}{s:List UInt8}(h:ps[i]?=some s):ps.drop i=s::ps.drop (i+1):=by
 obtain⟨h1,rfl⟩:=zg.1 h;exact zQ h1
theorem J3{p:List UInt8->Bool}{ps:List (List UInt8)}{i:Nat}(h:X5 p ps i=false):ps.drop i=[]\/∃s,ps[i]?=some s/\ps.drop i=s::ps.drop (i+1)/\p s=false:=by
 unfold X5 at h;cases hp:ps[i]? with
 |none=>exact .inl (yG (by simpa using hp))
 |some s=>rw[hp]at h;exact .inr ⟨s,rfl,Xt hp,h⟩
theorem Zk3{n:Nat}{ps:List (List UInt8)}{i:Nat}(h:X5 (fun s=>Y8 s 3 3 true) ps i=false):eW n (ps.drop i)=ps.drop i:=by
 rcases J3 h with h|⟨s,_,h1,h2⟩
 rw[h];cases n<;>rfl
 .rw[h1];cases n with
  |zero=>rfl
  |succ n=>simp only[eW];simp[h2]
theorem B0{s:List UInt8}{a b:Int}{pure:Bool}(h:Y8 s a b pure=true):a<=s.length/\(s.length:Int)<=b:=by
 unfold Y8 at h;simp at h;omega
theorem Z5V(ps:List (List UInt8))(hb:oC ps+ps.length<=1152921504606846976)(i m:Nat)(him:i+m=ps.length)(S R:List UInt8)(v x:Nat)(P:List UInt8):
 vW prog uv 212 4 [.ptr (.loc 0) 0 0 0] [(0,Uu i m [] [] S R v x P)] [(1, .rows 1 (ps.map Zx))]
  (fun r O nx=> ∃(i' m':Nat) (L E:List UInt8),i'+m'=ps.length/\r= .bool (oA (ps.drop i)).isSome/\(∀l,oA (ps.drop i)=some l->l=ps.drop i')/\O=[(0,Uu i' m' L E S R v x P)]/\nx=4):=by
 have j8:=CZ hb;refine vW.enter Z3 call212 func212 rfl 50 rfl rfl [.tmp 2] rfl ?_;intro w0 F η0 h0;conv=>whnf
 refine CALL.hA (JL 259 _ ps (fun s hs=>Zbl s (j8 s hs)) i m him [] [] S R v x P) ?_ ?_;rintro r O' vZ ⟨rfl,rfl,rfl⟩;exact⟨rfl,rfl,rfl⟩;rintro r O' ⟨rfl,rfl,_⟩;conv=>whnf
 refine IF.mk (fun h=>?_) (fun h=>?_)
 .conv=>whnf
  have h:X5 (fun s=>Y8 s 2 8 true) ps i=false:=by simpa using h
  have hn:oA (ps.drop i)=none:=by
   rcases J3 h with h|⟨s,_,h1,h2⟩
   rw[h];rfl;rw[h1];simp only[oA];simp[h2]
  exact u9.here h0 (Oc:=[(0,Uu i m [] [] S R v x P)]) rfl rfl rfl ⟨rfl,trivial⟩ ⟨i,m,[],[],him,by rw[hn];rfl,by simp[hn],rfl,rfl⟩
 have h:X5 (fun s=>Y8 s 2 8 true) ps i=true:=by simpa using h
 obtain⟨p,hp,cO⟩:=YA h;have hlt:=(zg.1 hp).1;have hd:=Xt hp;obtain⟨k,rfl⟩:∃k,m=k+1:=⟨m-1,by omega⟩;have hlen:=B0 cO;conv=>whnf
 refine CALL.hA (Ys ps i k him p hp [] [] S R v x P) ?_ ?_;rintro r O' vZ ⟨rfl,rfl,rfl⟩;exact⟨rfl,rfl,rfl⟩;rintro r O' ⟨rfl,rfl,_⟩;conv=>whnf
 refine IF.mk (fun h=>?_) (fun h=>?_)
 .conv=>whnf
  have h:3<p.length:=by simp at h;omega
  exact u9.here h0 (Oc:=[(0,Uu (i+1) k p [] S R v x P)]) rfl rfl rfl ⟨rfl,trivial⟩ ⟨i+1,k,p,[],by omega,by rw[hd];simp only[oA];simp[cO,h],by rw[hd];simp only[oA];simp[cO,h],rfl,rfl⟩
 have h:¬3<p.length:=by simp at h;omega
 have hL:oA (ps.drop i)=some (eW 3 (ps.drop (i+1))):=by rw[hd];simp only[oA];rw[z8 cO,z6 h]
 conv=>whnf
 refine ua.go Z3 [0] (X:=Nat×List UInt8×Nat) (fun y=>y.1<=3/\y.2.1.length<=4*y.1/\y.2.2+(ps.length-y.2.2)=ps.length/\eW 3 (ps.drop (i+1))=eW (3-y.1) (ps.drop y.2.2)) (fun y=>[(3, .int .i64 (y.1:Int))]) (fun y=>[(0,Uu y.2.2 (ps.length-y.2.2) p y.2.1 S R v x P)]) 4 (fun y=>3-y.1) (0,[],i+1) ⟨by simp,by simp,by simp only;omega,rfl⟩ ?_;conv=>whnf
 rw[show ps.length-(i+1)=k by omega];refine⟨by exact vY.cA h0,?_⟩;rintro⟨c,E,a⟩ ⟨hc,hE,ha,hx⟩;dsimp only at hc hE ha hx⊢;conv=>whnf
 have fin:X5 (fun s=>Y8 s 3 3 true) ps a=false\/c=3->eW 3 (ps.drop (i+1))=ps.drop a:=by
  rintro(h|h);rw[hx,Zk3 h];subst h;rw[hx];rfl
 refine IF.mk (fun h=>?_) (fun h=>?_)
 .have h:c<3:=by simp at h;omega
  conv=>whnf
  repeat'(first|refine AU ?_)<;>conv=>whnf
  refine CALL.hA (JL 261 _ ps (fun s hs=>Zbm s (j8 s hs)) a (ps.length-a) ha p E S R v x P) ?_ ?_;rintro r O' vZ ⟨rfl,rfl,rfl⟩;exact⟨rfl,rfl,rfl⟩;rintro r O' ⟨rfl,rfl,_⟩;conv=>whnf
  repeat'(first|refine AU ?_|refine IW ?_ ?_<;>intro h<;>try omega)<;>conv=>whnf
  .obtain⟨q,hq,lq⟩:=YA (by assumption);have hql:=B0 lq;obtain⟨k',hk'⟩:∃k',ps.length-a=k'+1:=⟨ps.length-a-1,by have:=(zg.1 hq).1;omega⟩;rw[hk'];repeat'(first|refine Zs 11 Lj ?_|refine qW.mk (fun _ _=>?_)|refine w6.mk ?_ ?_)<;>conv=>whnf
   all_goals
    refine CALL.hA (Ys ps a k' (by omega) q hq p (E++ [45]) S R v x P) ?_ ?_;rintro r O' vZ ⟨rfl,rfl,rfl⟩;exact⟨rfl,rfl,rfl⟩;rintro r O' ⟨rfl,rfl,_⟩;conv=>whnf
    repeat'(first|refine AU ?_)<;>conv=>whnf
    refine⟨(c+1,(E++ [45])++q,a+1),⟨by simp only;omega,by simp only[ze,List.length_cons,List.length_nil];omega,by simp only;omega,?_⟩,by simp only;omega,?_⟩;rw[hx,Xt hq,show 3-c=(3-(c+1))+1 by omega];simp only[eW];rw[z8 lq]
    .dsimp only;rw[show ps.length-(a+1)=k' by omega];conv=>whnf
     exact vY.cA h0
  .obtain⟨q,hq,lq⟩:=YA (by assumption);have hql:=B0 lq;obtain⟨k',hk'⟩:∃k',ps.length-a=k'+1:=⟨ps.length-a-1,by have:=(zg.1 hq).1;omega⟩;rw[hk'];have hc0:c=0:=by omega
   repeat'(first|refine Zs 11 Lj ?_|refine qW.mk (fun _ _=>?_)|refine w6.mk ?_ ?_)<;>conv=>whnf
   all_goals
    refine CALL.hA (Ys ps a k' (by omega) q hq p (E) S R v x P) ?_ ?_;rintro r O' vZ ⟨rfl,rfl,rfl⟩;exact⟨rfl,rfl,rfl⟩;rintro r O' ⟨rfl,rfl,_⟩;conv=>whnf
    repeat'(first|refine AU ?_)<;>conv=>whnf
    refine⟨(c+1,(E)++q,a+1),⟨by simp only;omega,by simp only[ze,List.length_cons,List.length_nil];omega,by simp only;omega,?_⟩,by simp only;omega,?_⟩;rw[hx,Xt hq,show 3-c=(3-(c+1))+1 by omega];simp only[eW];rw[z8 lq]
    .dsimp only;rw[show ps.length-(a+1)=k' by omega];conv=>whnf
     exact vY.cA h0
  exact u9.here h0 (Oc:=[(0,Uu a (ps.length-a) p E S R v x P)]) rfl rfl rfl ⟨rfl,trivial⟩ ⟨a,ps.length-a,p,E,ha,by rw[hL];rfl,by rw[hL];rintro l ⟨⟩;exact fin (.inl (by assumption)),rfl,rfl⟩
 .have h:c=3:=by simp at h;omega
  conv=>whnf
  repeat'(first|refine AU ?_)<;>conv=>whnf
  exact u9.here h0 (Oc:=[(0,Uu a (ps.length-a) p E S R v x P)]) rfl rfl rfl ⟨rfl,trivial⟩ ⟨a,ps.length-a,p,E,ha,by rw[hL];rfl,by rw[hL];rintro l ⟨⟩;exact fin (.inr h),rfl,rfl⟩
theorem B1{p:List UInt8->Bool}{ps:List (List UInt8)}{i:Nat}(h:X5 p ps i=false):V3 p (ps.drop i)=ps.drop i:=by
 rcases J3 h with h|⟨s,_,h1,h2⟩
 rw[h];rfl;rw[h1];simp only[V3];rw[z6 (by simp[h2])]
theorem B2{p:List UInt8->Bool}{ps:List (List UInt8)}{i:Nat}{s:List UInt8}(h:ps[i]?=some s)(hp:p s=true):V3 p (ps.drop i)=ps.drop (i+1):=by
 rw[Xt h];simp only[V3];rw[z8 hp]
theorem Z5X(l:List (List UInt8))(s:List UInt8)(hl:l.length<=1152921504606846976):vW prog uv 300 1 [.sl (.loc 0) 0 1 l.length none, .str s] [] [(0, .rows 1 (l.map Zx))]
 (fun r O nx=> ∃n:Int,(0<=n<->s∈l)/\r= .int .i64 n/\O=[]/\nx=1):=by
 refine vW.enter Z3 call300 func300 rfl 19 rfl rfl [.tmp 4] rfl ?_;intro w0 F η0 h0;conv=>whnf
 refine ua.go Z3 [0,1,7] (X:=Nat) (fun i=>i<=l.length/\s∉l.take i) (fun i=>[(8, .int .i64 (i:Int))]) (fun i=>[]) 1 (fun i=>l.length-i) 0 ⟨by omega,by simp⟩ ?_;conv=>whnf
 refine⟨by exact vY.cA h0,?_⟩;rintro i ⟨hi,hc⟩;conv=>whnf
 repeat'(first|refine GET.at (row:=Zx (l[i]'(by omega))) (by rw[z7,show 0+(i:Int).toNat=i by omega,z1 (by omega)];rfl) ?_|refine AU ?_|refine IW ?_ ?_<;>intro h<;>try omega)<;>conv=>whnf
 .have hl:i<l.length:=by omega
  exact u9.val h0 rfl ⟨i,⟨fun _=>by subst h;exact zq hl,fun _=>by omega⟩,rfl,rfl,rfl⟩
 .have hl:i<l.length:=by omega
  refine⟨i+1,⟨by omega,?_⟩,by omega,?_⟩
  .rw[zB hl];simp only[zX,zJ];rintro(h1|h1);exact hc h1;exact h h1
  .conv=>whnf
   exact vY.cA h0
 .refine u9.val h0 rfl ⟨-1,⟨fun h=>by omega,fun h1=>?_⟩,rfl,rfl,rfl⟩;rw[zo (by omega)]at hc;exact(hc h1).elim
theorem Yt(l:List (List UInt8))(s:List UInt8)(hl:l.length<=1152921504606846976):vW prog uv 265 1 [.sl (.loc 0) 0 1 l.length none, .str s] [] [(0, .rows 1 (l.map Zx))] (qd 1 (.bool (decide (s∈l)))):=by
 refine vW.enter Z3 call265 func265 rfl 9 rfl rfl [.tmp 4] rfl ?_;intro w0 F η0 h0;conv=>whnf
 refine CALL.hA (Z5X l s hl) ?_ ?_;rintro r O' vZ ⟨n,_,rfl,rfl,rfl⟩;exact⟨rfl,rfl,rfl⟩;rintro r O' ⟨n,hn,rfl,rfl,_⟩;conv=>whnf
 exact u9.uh h0 rfl (zf SV.bool (ve.2 hn))
def rM:List Int->Int
 | []=>0
 |a::l=>if a≠0 then a else rM l
def Ll(a:Int):List SV:=[.int .i64 a]
theorem Z5Y(xs:List Int)(hn:xs.length<=1152921504606846976):vW prog uv 163 1 [.sl (.loc 0) 0 1 xs.length none] [] [(0, .rows 1 (xs.map Ll))] (qd 1 (.int .i64 (rM xs))):=by
 refine vW.enter Z3 call163 func163 rfl 18 rfl rfl [.tmp 2] rfl ?_;intro w0 F η0 h0;conv=>whnf
 refine ua.go Z3 [3,6,7] (X:=Nat) (fun i=>i<=xs.length/\rM xs=rM (xs.drop i)) (fun i=>[(8, .int .i64 (i:Int))]) (fun i=>[]) 1 (fun i=>xs.length-i) 0 ⟨by omega,rfl⟩ ?_;conv=>whnf
 refine⟨by exact vY.cA h0,?_⟩;rintro i ⟨hi,ho⟩;conv=>whnf
 repeat'(first|refine GET.at (row:=Ll (xs[i]'(by omega))) (by rw[z7,show 0+(i:Int).toNat=i by omega,z1 (by omega)];rfl) ?_|refine AU ?_|refine IW ?_ ?_<;>intro h<;>try omega)<;>conv=>whnf
 .have hl:i<xs.length:=by omega
  refine u9.uh h0 rfl (zf (SV.int _) ?_);rw[ho,zQ hl];simp only[rM];rw[z8 h]
 .have hl:i<xs.length:=by omega
  refine⟨i+1,⟨by omega,?_⟩,by omega,?_⟩;rw[ho,zQ hl];simp only[rM];rw[z6 (by simpa using h)]
  .conv=>whnf
   exact vY.cA h0
 .refine u9.uh h0 rfl (zf (SV.int _) ?_);rw[ho,yG (by omega)];rfl
open _root_.Go.Proofs.Tryz
theorem Zdz(ps:List (List UInt8))(hb:oC ps+ps.length<=68719476736)(i m:Nat)(him:i+m=ps.length)(L E:List UInt8)(P:List UInt8):
 vW prog uv 213 4 [.ptr (.loc 0) 0 0 0] [(0,Uu i m L E [] [] 0 0 P),(2, .rows 1 []),(3, .rows 1 [])] [(1, .rows 1 (ps.map Zx))]
  (fun r O nx=> ∃(i' m':Nat) (S R:List UInt8),i'+m'=ps.length/\r= .bool (Xk (ps.drop i)).isSome/\(∀l,Xk (ps.drop i)=some l->l=ps.drop i')/\O=[(0,Wq i' m' L E S R 0 0 P)]/\nx=4):=by
 have j8:=CZ (ps:=ps) (by omega);refine vW.enter Z3 call213 func213 rfl 85 rfl rfl [.tmp 2] rfl ?_;intro w0 F η0 h0;conv=>whnf
 refine CALL.hA (JL 262 _ ps (fun s hs=>Zbn s (j8 s hs)) i m him L E [] [] 0 0 P) ?_ ?_;rintro r O' vZ ⟨rfl,rfl,rfl⟩;exact⟨rfl,rfl,rfl⟩;rintro r O' ⟨rfl,rfl,_⟩;conv=>whnf
 refine IF.mk (fun h1=>?_) (fun h1=>?_)
 .obtain⟨p,hp,cO⟩:=YA h1;have hlt:=(zg.1 hp).1;have nD:=B2 (p:=fun s=>Y8 s 4 4 true) hp cO;obtain⟨k,rfl⟩:∃k,m=k+1:=⟨m-1,by omega⟩;conv=>whnf
  refine CALL.hA (Ys ps i k him p hp L E [] [] 0 0 P) ?_ ?_;rintro r O' vZ ⟨rfl,rfl,rfl⟩;exact⟨rfl,rfl,rfl⟩;rintro r O' ⟨rfl,rfl,_⟩;conv=>whnf
  refine CALL.hA (JL 263 _ ps (fun s hs=>Li s (j8 s hs)) (i+1) k (by omega) L E p [] 0 0 P) ?_ ?_;rintro r O' vZ ⟨rfl,rfl,rfl⟩;exact⟨rfl,rfl,rfl⟩;rintro r O' ⟨rfl,rfl,_⟩;conv=>whnf
  refine IF.mk (fun h1=>?_) (fun h1=>?_)
  .obtain⟨q,hq,lq⟩:=YA h1;have hlt:=(zg.1 hq).1;obtain⟨k2,rfl⟩:∃k2,k=k2+1:=⟨k-1,by omega⟩;have he:V3 WK (V3 (fun s=>Y8 s 4 4 true) (ps.drop i))=ps.drop (i+1+1):=by rw[nD,B2 hq lq]
   conv=>whnf
   refine CALL.hA (Ys ps (i+1) k2 (by omega) q hq L E p [] 0 0 P) ?_ ?_;rintro r O' vZ ⟨rfl,rfl,rfl⟩;exact⟨rfl,rfl,rfl⟩;rintro r O' ⟨rfl,rfl,_⟩;conv=>whnf
   refine ua.nil 3 1 rfl ?_;refine ua.go Z3 [0] (X:=Nat×List (List UInt8)×List (List UInt8)) (fun y=>y.1<=ps.length/\y.2.1.length<=y.1/\y.2.2.length<=y.1/\XE [] (ps.drop (i+1+1))=XE y.2.1 (ps.drop y.1)) (fun y=>[(3, .sl (.loc 6) 0 1 y.2.1.length none)]) (fun y=>[(0,Je y.1 (ps.length-y.1) L E (p) (q) y.2.2.length 0 P),(4, .rows 1 (y.2.2.map Zx)),(5, .rows 1 []),(6, .rows 1 (y.2.1.map Zx))]) 7 (fun y=>ps.length-y.1) (i+1+1,[],[]) ⟨by simp only;omega,by simp,by simp,rfl⟩ ?_;conv=>whnf
   try rw[show ps.length-(i+1+1)=k2 by omega]
   refine⟨by exact vY.kA h0 [2,3,4],?_⟩;rintro⟨a,seen,vs⟩ ⟨ha,hs,hv,hx⟩;dsimp only at ha hs hv hx⊢;conv=>whnf
   refine CALL.hA (XC 264 _ ps (fun s hs=>V5 s (j8 s hs)) a (ps.length-a) (by omega) L E (p) (q) vs.length 0 P) ?_ ?_;rintro r O' vZ ⟨rfl,rfl,rfl⟩;exact⟨rfl,rfl,rfl⟩;rintro r O' ⟨rfl,rfl,_⟩;conv=>whnf
   refine IF.mk (fun h=>?_) (fun h=>?_)
   .obtain⟨w,hw,eH⟩:=YA h;have hlt:=(zg.1 hw).1;obtain⟨k',hk'⟩:∃k',ps.length-a=k'+1:=⟨ps.length-a-1,by omega⟩;have jB:=j8 w (y8 hw)
    have fe:XE seen (ps.drop a)=if Zw w∈seen then none else XE (seen++ [Zw w]) (ps.drop (a+1)):=by
     rw[Xt hw];simp only[XE];rw[z8 eH]
    rw[hk'];conv=>whnf
    refine CALL.hA (Y6 ps a k' (by omega) w hw L E (p) (q) vs.length 0 P) ?_ ?_;rintro r O' vZ ⟨rfl,rfl,rfl⟩;exact⟨rfl,rfl,rfl⟩;rintro r O' ⟨rfl,rfl,_⟩;conv=>whnf
    repeat'(first|refine CALL.value (Xf _ jB) rfl rfl ?_|refine CALL.gE 6 (Yt seen (Zw w) (by omega)) rfl rfl rfl rfl (YD _) rfl ?_|refine AU ?_|refine IW ?_ ?_<;>intro h<;>try omega)<;>conv=>whnf
    .have hin:Zw w∈seen:=by simpa using h
     have hn:Xk (ps.drop i)=none:=by unfold Xk;rw[he,hx,fe,z8 hin]
     exact u9.loose h0 0 [.sl (.loc 1) (a+1) 1 (k') none, .str L, .str E, .str (p), .str (q), .any, .any, .str P] rfl rfl rfl ⟨.inr ⟨rfl,rfl⟩, .inr ⟨rfl,rfl⟩, .inr ⟨rfl,rfl⟩, .inr ⟨rfl,rfl⟩, .inr ⟨rfl,rfl⟩, .inl rfl, .inl rfl, .inr ⟨rfl,rfl⟩,trivial⟩ ⟨a+1,k',p,q,by omega,by rw[hn];rfl,by simp[hn],rfl,rfl⟩
    .have hin:¬Zw w∈seen:=by simpa using h
     refine⟨(a+1,seen++ [Zw w],vs++ [w]),⟨by simp only;omega,by simp;omega,by simp;omega,by simp only;rw[hx,fe,z6 hin]⟩,by simp only;omega,?_⟩;dsimp only;rw[show ps.length-(a+1)=k' by omega,show(vs++ [w]).length=vs.length+1 by simp];conv=>whnf
     exact vY.kA h0 [10,5,8]
   .have kY:XE seen (ps.drop a)=some (ps.drop a,seen):=by
     rcases J3 h with h|⟨s,_,h1,h2⟩
     rw[h];rfl;rw[h1];simp only[XE];rw[z6 (by simp[h2])]
    have nG:Xk (ps.drop i)=Xe seen (ps.drop a):=by unfold Xk;rw[he,hx,kY]
    conv=>whnf
    refine ua.go Z3 [0] (X:=Nat×List (List UInt8)×List (List UInt8)) (fun y=>y.1<=ps.length/\y.2.1.length<=y.1/\y.2.2.length<=y.1/\Xk (ps.drop i)=Xe y.2.1 (ps.drop y.1)) (fun y=>[(3, .sl (.loc 6) 0 1 y.2.1.length none)]) (fun y=>[(0,Je y.1 (ps.length-y.1) L E (p) (q) vs.length y.2.2.length P),(4, .rows 1 (vs.map Zx)),(5, .rows 1 (y.2.2.map Zx)),(6, .rows 1 (y.2.1.map Zx))]) 7 (fun y=>ps.length-y.1) (a,seen,[]) ⟨by simp only;omega,by simp only;omega,by simp,nG⟩ ?_;conv=>whnf
    refine⟨by exact vY.kA h0 [4,5,6],?_⟩;clear nG kY hx hs hv;rintro⟨a,seen,xs⟩ ⟨ha,hs,hv,hx⟩;dsimp only at ha hs hv hx⊢;conv=>whnf
    refine CALL.hA (XC 266 _ ps (fun s hs=>UY s (j8 s hs)) a (ps.length-a) (by omega) L E (p) (q) vs.length xs.length P) ?_ ?_;rintro r O' vZ ⟨rfl,rfl,rfl⟩;exact⟨rfl,rfl,rfl⟩;rintro r O' ⟨rfl,rfl,_⟩;conv=>whnf
    refine IF.mk (fun h=>?_) (fun h=>?_)
    .obtain⟨w,hw,eH⟩:=YA h;have hlt:=(zg.1 hw).1;obtain⟨k',hk'⟩:∃k',ps.length-a=k'+1:=⟨ps.length-a-1,by omega⟩;have jB:=j8 w (y8 hw);rw[hk'];conv=>whnf
     refine CALL.hA (Y6 ps a k' (by omega) w hw L E (p) (q) vs.length xs.length P) ?_ ?_;rintro r O' vZ ⟨rfl,rfl,rfl⟩;exact⟨rfl,rfl,rfl⟩;rintro r O' ⟨rfl,rfl,_⟩;conv=>whnf
     refine CALL.hA (UZ 2 ps (by omega) (a+1) k' (by omega) L E (p) (q) vs.length xs.length P) ?_ ?_;rintro r O' vZ ⟨n,s,_,_,rfl,rfl,rfl⟩;exact⟨rfl,rfl,rfl⟩;rintro r O' ⟨n,s,hn,fZ,rfl,rfl,_⟩;have er:n<=(ps.drop (a+1)).length:=by rw[hn];exact WL _ _
     rw[zW]at er
     have fe:Xe seen (ps.drop a)=if n=0\/Zw w∈seen then none else Xe (seen++ [Zw w]) (ps.drop (a+1+n)):=by
      rw[Xt hw,Xe,z8 eH,<-hn,x4]
     conv=>whnf
     refine IF.mk (fun h1=>?_) (fun h1=>?_)
     .have aj:n=0:=by simpa using h1
      have hn:Xk (ps.drop i)=none:=by rw[hx,fe,z8 (.inl aj)]
      conv=>whnf
      repeat'(first|refine AU ?_)<;>conv=>whnf
      exact u9.loose h0 0 [.sl (.loc 1) (a+1+n) 1 (k'-n) none, .str L, .str E, .str (p), .str (q), .any, .any, .str P] rfl rfl rfl ⟨.inr ⟨rfl,rfl⟩, .inr ⟨rfl,rfl⟩, .inr ⟨rfl,rfl⟩, .inr ⟨rfl,rfl⟩, .inr ⟨rfl,rfl⟩, .inl rfl, .inl rfl, .inr ⟨rfl,rfl⟩,trivial⟩ ⟨a+1+n,k'-n,p,q,by omega,by rw[hn];rfl,by simp[hn],rfl,rfl⟩
     .have aj:n≠0:=by simpa using h1
      conv=>whnf
      repeat'(first|refine CALL.value (Xf _ jB) rfl rfl ?_|refine CALL.gE 6 (Yt seen (Zw w) (by omega)) rfl rfl rfl rfl (YD _) rfl ?_|refine AU ?_|refine IW ?_ ?_<;>intro h<;>try omega)<;>conv=>whnf
      .have hin:Zw w∈seen:=by simp_all
       have hn:Xk (ps.drop i)=none:=by rw[hx,fe,z8 (.inr hin)]
       exact u9.loose h0 0 [.sl (.loc 1) (a+1+n) 1 (k'-n) none, .str L, .str E, .str (p), .str (q), .any, .any, .str P] rfl rfl rfl ⟨.inr ⟨rfl,rfl⟩, .inr ⟨rfl,rfl⟩, .inr ⟨rfl,rfl⟩, .inr ⟨rfl,rfl⟩, .inr ⟨rfl,rfl⟩, .inl rfl, .inl rfl, .inr ⟨rfl,rfl⟩,trivial⟩ ⟨a+1+n,k'-n,p,q,by omega,by rw[hn];rfl,by simp[hn],rfl,rfl⟩
      .have hin:¬Zw w∈seen:=by simp_all
       refine⟨(a+1+n,seen++ [Zw w],xs++ [w++s]),⟨by simp only;omega,by simp;omega,by simp;omega,by simp only;rw[hx,fe,z6 (by simp[aj,hin])]⟩,by simp only;omega,?_⟩;dsimp only;rw[show ps.length-(a+1+n)=k'-n by omega,show(xs++ [w++s]).length=xs.length+1 by simp];conv=>whnf
       exact vY.kA h0 [4,10,8]
    .have kY:Xe seen (ps.drop a)=some (ps.drop a):=by
      rcases J3 h with h|⟨s,_,h1,h2⟩
      rw[h,Xe];rw[h1,Xe,z6 (by simp[h2])]
     conv=>whnf
     exact u9.loose h0 0 [.sl (.loc 1) (a) 1 (ps.length-a) none, .str L, .str E, .str (p), .str (q), .any, .any, .str P] rfl rfl rfl ⟨.inr ⟨rfl,rfl⟩, .inr ⟨rfl,rfl⟩, .inr ⟨rfl,rfl⟩, .inr ⟨rfl,rfl⟩, .inr ⟨rfl,rfl⟩, .inl rfl, .inl rfl, .inr ⟨rfl,rfl⟩,trivial⟩ ⟨a,ps.length-a,p,q,by omega,by rw[hx,kY];rfl,by rw[hx,kY];rintro l ⟨⟩;rfl,rfl,rfl⟩
  .have he:V3 WK (V3 (fun s=>Y8 s 4 4 true) (ps.drop i))=ps.drop (i+1):=by rw[nD,B1 h1]
   conv=>whnf
   refine ua.nil 3 1 rfl ?_;refine ua.go Z3 [0] (X:=Nat×List (List UInt8)×List (List UInt8)) (fun y=>y.1<=ps.length/\y.2.1.length<=y.1/\y.2.2.length<=y.1/\XE [] (ps.drop (i+1))=XE y.2.1 (ps.drop y.1)) (fun y=>[(3, .sl (.loc 6) 0 1 y.2.1.length none)]) (fun y=>[(0,Je y.1 (ps.length-y.1) L E (p) ([]) y.2.2.length 0 P),(4, .rows 1 (y.2.2.map Zx)),(5, .rows 1 []),(6, .rows 1 (y.2.1.map Zx))]) 7 (fun y=>ps.length-y.1) (i+1,[],[]) ⟨by simp only;omega,by simp,by simp,rfl⟩ ?_;conv=>whnf
   try rw[show ps.length-(i+1)=k by omega]
   refine⟨by exact vY.kA h0 [2,3,4],?_⟩;rintro⟨a,seen,vs⟩ ⟨ha,hs,hv,hx⟩;dsimp only at ha hs hv hx⊢;conv=>whnf
   refine CALL.hA (XC 264 _ ps (fun s hs=>V5 s (j8 s hs)) a (ps.length-a) (by omega) L E (p) ([]) vs.length 0 P) ?_ ?_;rintro r O' vZ ⟨rfl,rfl,rfl⟩;exact⟨rfl,rfl,rfl⟩;rintro r O' ⟨rfl,rfl,_⟩;conv=>whnf
   refine IF.mk (fun h=>?_) (fun h=>?_)
   .obtain⟨w,hw,eH⟩:=YA h;have hlt:=(zg.1 hw).1;obtain⟨k',hk'⟩:∃k',ps.length-a=k'+1:=⟨ps.length-a-1,by omega⟩;have jB:=j8 w (y8 hw)
    have fe:XE seen (ps.drop a)=if Zw w∈seen then none else XE (seen++ [Zw w]) (ps.drop (a+1)):=by
     rw[Xt hw];simp only[XE];rw[z8 eH]
    rw[hk'];conv=>whnf
    refine CALL.hA (Y6 ps a k' (by omega) w hw L E (p) ([]) vs.length 0 P) ?_ ?_;rintro r O' vZ ⟨rfl,rfl,rfl⟩;exact⟨rfl,rfl,rfl⟩;rintro r O' ⟨rfl,rfl,_⟩;conv=>whnf
    repeat'(first|refine CALL.value (Xf _ jB) rfl rfl ?_|refine CALL.gE 6 (Yt seen (Zw w) (by omega)) rfl rfl rfl rfl (YD _) rfl ?_|refine AU ?_|refine IW ?_ ?_<;>intro h<;>try omega)<;>conv=>whnf
    .have hin:Zw w∈seen:=by simpa using h
     have hn:Xk (ps.drop i)=none:=by unfold Xk;rw[he,hx,fe,z8 hin]
     exact u9.loose h0 0 [.sl (.loc 1) (a+1) 1 (k') none, .str L, .str E, .str (p), .str ([]), .any, .any, .str P] rfl rfl rfl ⟨.inr ⟨rfl,rfl⟩, .inr ⟨rfl,rfl⟩, .inr ⟨rfl,rfl⟩, .inr ⟨rfl,rfl⟩, .inr ⟨rfl,rfl⟩, .inl rfl, .inl rfl, .inr ⟨rfl,rfl⟩,trivial⟩ ⟨a+1,k',p,[],by omega,by rw[hn];rfl,by simp[hn],rfl,rfl⟩
    .have hin:¬Zw w∈seen:=by simpa using h
     refine⟨(a+1,seen++ [Zw w],vs++ [w]),⟨by simp only;omega,by simp;omega,by simp;omega,by simp only;rw[hx,fe,z6 hin]⟩,by simp only;omega,?_⟩;dsimp only;rw[show ps.length-(a+1)=k' by omega,show(vs++ [w]).length=vs.length+1 by simp];conv=>whnf
     exact vY.kA h0 [10,5,8]
   .have kY:XE seen (ps.drop a)=some (ps.drop a,seen):=by
     rcases J3 h with h|⟨s,_,h1,h2⟩
     rw[h];rfl;rw[h1];simp only[XE];rw[z6 (by simp[h2])]
    have nG:Xk (ps.drop i)=Xe seen (ps.drop a):=by unfold Xk;rw[he,hx,kY]
    conv=>whnf
    refine ua.go Z3 [0] (X:=Nat×List (List UInt8)×List (List UInt8)) (fun y=>y.1<=ps.length/\y.2.1.length<=y.1/\y.2.2.length<=y.1/\Xk (ps.drop i)=Xe y.2.1 (ps.drop y.1)) (fun y=>[(3, .sl (.loc 6) 0 1 y.2.1.length none)]) (fun y=>[(0,Je y.1 (ps.length-y.1) L E (p) ([]) vs.length y.2.2.length P),(4, .rows 1 (vs.map Zx)),(5, .rows 1 (y.2.2.map Zx)),(6, .rows 1 (y.2.1.map Zx))]) 7 (fun y=>ps.length-y.1) (a,seen,[]) ⟨by simp only;omega,by simp only;omega,by simp,nG⟩ ?_;conv=>whnf
    refine⟨by exact vY.kA h0 [4,5,6],?_⟩;clear nG kY hx hs hv;rintro⟨a,seen,xs⟩ ⟨ha,hs,hv,hx⟩;dsimp only at ha hs hv hx⊢;conv=>whnf
    refine CALL.hA (XC 266 _ ps (fun s hs=>UY s (j8 s hs)) a (ps.length-a) (by omega) L E (p) ([]) vs.length xs.length P) ?_ ?_;rintro r O' vZ ⟨rfl,rfl,rfl⟩;exact⟨rfl,rfl,rfl⟩;rintro r O' ⟨rfl,rfl,_⟩;conv=>whnf
    refine IF.mk (fun h=>?_) (fun h=>?_)
    .obtain⟨w,hw,eH⟩:=YA h;have hlt:=(zg.1 hw).1;obtain⟨k',hk'⟩:∃k',ps.length-a=k'+1:=⟨ps.length-a-1,by omega⟩;have jB:=j8 w (y8 hw);rw[hk'];conv=>whnf
     refine CALL.hA (Y6 ps a k' (by omega) w hw L E (p) ([]) vs.length xs.length P) ?_ ?_;rintro r O' vZ ⟨rfl,rfl,rfl⟩;exact⟨rfl,rfl,rfl⟩;rintro r O' ⟨rfl,rfl,_⟩;conv=>whnf
     refine CALL.hA (UZ 2 ps (by omega) (a+1) k' (by omega) L E (p) ([]) vs.length xs.length P) ?_ ?_;rintro r O' vZ ⟨n,s,_,_,rfl,rfl,rfl⟩;exact⟨rfl,rfl,rfl⟩;rintro r O' ⟨n,s,hn,fZ,rfl,rfl,_⟩;have er:n<=(ps.drop (a+1)).length:=by rw[hn];exact WL _ _
     rw[zW]at er
     have fe:Xe seen (ps.drop a)=if n=0\/Zw w∈seen then none else Xe (seen++ [Zw w]) (ps.drop (a+1+n)):=by
      rw[Xt hw,Xe,z8 eH,<-hn,x4]
     conv=>whnf
     refine IF.mk (fun h1=>?_) (fun h1=>?_)
     .have aj:n=0:=by simpa using h1
      have hn:Xk (ps.drop i)=none:=by rw[hx,fe,z8 (.inl aj)]
      conv=>whnf
      repeat'(first|refine AU ?_)<;>conv=>whnf
      exact u9.loose h0 0 [.sl (.loc 1) (a+1+n) 1 (k'-n) none, .str L, .str E, .str (p), .str ([]), .any, .any, .str P] rfl rfl rfl ⟨.inr ⟨rfl,rfl⟩, .inr ⟨rfl,rfl⟩, .inr ⟨rfl,rfl⟩, .inr ⟨rfl,rfl⟩, .inr ⟨rfl,rfl⟩, .inl rfl, .inl rfl, .inr ⟨rfl,rfl⟩,trivial⟩ ⟨a+1+n,k'-n,p,[],by omega,by rw[hn];rfl,by simp[hn],rfl,rfl⟩
     .have aj:n≠0:=by simpa using h1
      conv=>whnf
      repeat'(first|refine CALL.value (Xf _ jB) rfl rfl ?_|refine CALL.gE 6 (Yt seen (Zw w) (by omega)) rfl rfl rfl rfl (YD _) rfl ?_|refine AU ?_|refine IW ?_ ?_<;>intro h<;>try omega)<;>conv=>whnf
      .have hin:Zw w∈seen:=by simp_all
       have hn:Xk (ps.drop i)=none:=by rw[hx,fe,z8 (.inr hin)]
       exact u9.loose h0 0 [.sl (.loc 1) (a+1+n) 1 (k'-n) none, .str L, .str E, .str (p), .str ([]), .any, .any, .str P] rfl rfl rfl ⟨.inr ⟨rfl,rfl⟩, .inr ⟨rfl,rfl⟩, .inr ⟨rfl,rfl⟩, .inr ⟨rfl,rfl⟩, .inr ⟨rfl,rfl⟩, .inl rfl, .inl rfl, .inr ⟨rfl,rfl⟩,trivial⟩ ⟨a+1+n,k'-n,p,[],by omega,by rw[hn];rfl,by simp[hn],rfl,rfl⟩
      .have hin:¬Zw w∈seen:=by simp_all
       refine⟨(a+1+n,seen++ [Zw w],xs++ [w++s]),⟨by simp only;omega,by simp;omega,by simp;omega,by simp only;rw[hx,fe,z6 (by simp[aj,hin])]⟩,by simp only;omega,?_⟩;dsimp only;rw[show ps.length-(a+1+n)=k'-n by omega,show(xs++ [w++s]).length=xs.length+1 by simp];conv=>whnf
       exact vY.kA h0 [4,10,8]
    .have kY:Xe seen (ps.drop a)=some (ps.drop a):=by
      rcases J3 h with h|⟨s,_,h1,h2⟩
      rw[h,Xe];rw[h1,Xe,z6 (by simp[h2])]
     conv=>whnf
     exact u9.loose h0 0 [.sl (.loc 1) (a) 1 (ps.length-a) none, .str L, .str E, .str (p), .str ([]), .any, .any, .str P] rfl rfl rfl ⟨.inr ⟨rfl,rfl⟩, .inr ⟨rfl,rfl⟩, .inr ⟨rfl,rfl⟩, .inr ⟨rfl,rfl⟩, .inr ⟨rfl,rfl⟩, .inl rfl, .inl rfl, .inr ⟨rfl,rfl⟩,trivial⟩ ⟨a,ps.length-a,p,[],by omega,by rw[hx,kY];rfl,by rw[hx,kY];rintro l ⟨⟩;rfl,rfl,rfl⟩
 .have nD:=B1 h1;conv=>whnf
  refine CALL.hA (JL 263 _ ps (fun s hs=>Li s (j8 s hs)) i m (by omega) L E [] [] 0 0 P) ?_ ?_;rintro r O' vZ ⟨rfl,rfl,rfl⟩;exact⟨rfl,rfl,rfl⟩;rintro r O' ⟨rfl,rfl,_⟩;conv=>whnf
  refine IF.mk (fun h1=>?_) (fun h1=>?_)
  .obtain⟨q,hq,lq⟩:=YA h1;have hlt:=(zg.1 hq).1;obtain⟨k2,rfl⟩:∃k2,m=k2+1:=⟨m-1,by omega⟩;have he:V3 WK (V3 (fun s=>Y8 s 4 4 true) (ps.drop i))=ps.drop (i+1):=by rw[nD,B2 hq lq]
   conv=>whnf
   refine CALL.hA (Ys ps i k2 (by omega) q hq L E [] [] 0 0 P) ?_ ?_;rintro r O' vZ ⟨rfl,rfl,rfl⟩;exact⟨rfl,rfl,rfl⟩;rintro r O' ⟨rfl,rfl,_⟩;conv=>whnf
   refine ua.nil 3 1 rfl ?_;refine ua.go Z3 [0] (X:=Nat×List (List UInt8)×List (List UInt8)) (fun y=>y.1<=ps.length/\y.2.1.length<=y.1/\y.2.2.length<=y.1/\XE [] (ps.drop (i+1))=XE y.2.1 (ps.drop y.1)) (fun y=>[(3, .sl (.loc 6) 0 1 y.2.1.length none)]) (fun y=>[(0,Je y.1 (ps.length-y.1) L E ([]) (q) y.2.2.length 0 P),(4, .rows 1 (y.2.2.map Zx)),(5, .rows 1 []),(6, .rows 1 (y.2.1.map Zx))]) 7 (fun y=>ps.length-y.1) (i+1,[],[]) ⟨by simp only;omega,by simp,by simp,rfl⟩ ?_;conv=>whnf
   try rw[show ps.length-(i+1)=k2 by omega]
   refine⟨by exact vY.kA h0 [2,3,4],?_⟩;rintro⟨a,seen,vs⟩ ⟨ha,hs,hv,hx⟩;dsimp only at ha hs hv hx⊢;conv=>whnf
   refine CALL.hA (XC 264 _ ps (fun s hs=>V5 s (j8 s hs)) a (ps.length-a) (by omega) L E ([]) (q) vs.length 0 P) ?_ ?_;rintro r O' vZ ⟨rfl,rfl,rfl⟩;exact⟨rfl,rfl,rfl⟩;rintro r O' ⟨rfl,rfl,_⟩;conv=>whnf
   refine IF.mk (fun h=>?_) (fun h=>?_)
   .obtain⟨w,hw,eH⟩:=YA h;have hlt:=(zg.1 hw).1;obtain⟨k',hk'⟩:∃k',ps.length-a=k'+1:=⟨ps.length-a-1,by omega⟩;have jB:=j8 w (y8 hw)
    have fe:XE seen (ps.drop a)=if Zw w∈seen then none else XE (seen++ [Zw w]) (ps.drop (a+1)):=by
     rw[Xt hw];simp only[XE];rw[z8 eH]
    rw[hk'];conv=>whnf
    refine CALL.hA (Y6 ps a k' (by omega) w hw L E ([]) (q) vs.length 0 P) ?_ ?_;rintro r O' vZ ⟨rfl,rfl,rfl⟩;exact⟨rfl,rfl,rfl⟩;rintro r O' ⟨rfl,rfl,_⟩;conv=>whnf
    repeat'(first|refine CALL.value (Xf _ jB) rfl rfl ?_|refine CALL.gE 6 (Yt seen (Zw w) (by omega)) rfl rfl rfl rfl (YD _) rfl ?_|refine AU ?_|refine IW ?_ ?_<;>intro h<;>try omega)<;>conv=>whnf
    .have hin:Zw w∈seen:=by simpa using h
     have hn:Xk (ps.drop i)=none:=by unfold Xk;rw[he,hx,fe,z8 hin]
     exact u9.loose h0 0 [.sl (.loc 1) (a+1) 1 (k') none, .str L, .str E, .str ([]), .str (q), .any, .any, .str P] rfl rfl rfl ⟨.inr ⟨rfl,rfl⟩, .inr ⟨rfl,rfl⟩, .inr ⟨rfl,rfl⟩, .inr ⟨rfl,rfl⟩, .inr ⟨rfl,rfl⟩, .inl rfl, .inl rfl, .inr ⟨rfl,rfl⟩,trivial⟩ ⟨a+1,k',[],q,by omega,by rw[hn];rfl,by simp[hn],rfl,rfl⟩
    .have hin:¬Zw w∈seen:=by simpa using h
     refine⟨(a+1,seen++ [Zw w],vs++ [w]),⟨by simp only;omega,by simp;omega,by simp;omega,by simp only;rw[hx,fe,z6 hin]⟩,by simp only;omega,?_⟩;dsimp only;rw[show ps.length-(a+1)=k' by omega,show(vs++ [w]).length=vs.length+1 by simp];conv=>whnf
     exact vY.kA h0 [10,5,8]
   .have kY:XE seen (ps.drop a)=some (ps.drop a,seen):=by
     rcases J3 h with h|⟨s,_,h1,h2⟩
     rw[h];rfl;rw[h1];simp only[XE];rw[z6 (by simp[h2])]
    have nG:Xk (ps.drop i)=Xe seen (ps.drop a):=by unfold Xk;rw[he,hx,kY]
    conv=>whnf
    refine ua.go Z3 [0] (X:=Nat×List (List UInt8)×List (List UInt8)) (fun y=>y.1<=ps.length/\y.2.1.length<=y.1/\y.2.2.length<=y.1/\Xk (ps.drop i)=Xe y.2.1 (ps.drop y.1)) (fun y=>[(3, .sl (.loc 6) 0 1 y.2.1.length none)]) (fun y=>[(0,Je y.1 (ps.length-y.1) L E ([]) (q) vs.length y.2.2.length P),(4, .rows 1 (vs.map Zx)),(5, .rows 1 (y.2.2.map Zx)),(6, .rows 1 (y.2.1.map Zx))]) 7 (fun y=>ps.length-y.1) (a,seen,[]) ⟨by simp only;omega,by simp only;omega,by simp,nG⟩ ?_;conv=>whnf
    refine⟨by exact vY.kA h0 [4,5,6],?_⟩;clear nG kY hx hs hv;rintro⟨a,seen,xs⟩ ⟨ha,hs,hv,hx⟩;dsimp only at ha hs hv hx⊢;conv=>whnf
    refine CALL.hA (XC 266 _ ps (fun s hs=>UY s (j8 s hs)) a (ps.length-a) (by omega) L E ([]) (q) vs.length xs.length P) ?_ ?_;rintro r O' vZ ⟨rfl,rfl,rfl⟩;exact⟨rfl,rfl,rfl⟩;rintro r O' ⟨rfl,rfl,_⟩;conv=>whnf
    refine IF.mk (fun h=>?_) (fun h=>?_)
    .obtain⟨w,hw,eH⟩:=YA h;have hlt:=(zg.1 hw).1;obtain⟨k',hk'⟩:∃k',ps.length-a=k'+1:=⟨ps.length-a-1,by omega⟩;have jB:=j8 w (y8 hw);rw[hk'];conv=>whnf
     refine CALL.hA (Y6 ps a k' (by omega) w hw L E ([]) (q) vs.length xs.length P) ?_ ?_;rintro r O' vZ ⟨rfl,rfl,rfl⟩;exact⟨rfl,rfl,rfl⟩;rintro r O' ⟨rfl,rfl,_⟩;conv=>whnf
     refine CALL.hA (UZ 2 ps (by omega) (a+1) k' (by omega) L E ([]) (q) vs.length xs.length P) ?_ ?_;rintro r O' vZ ⟨n,s,_,_,rfl,rfl,rfl⟩;exact⟨rfl,rfl,rfl⟩;rintro r O' ⟨n,s,hn,fZ,rfl,rfl,_⟩;have er:n<=(ps.drop (a+1)).length:=by rw[hn];exact WL _ _
     rw[zW]at er
     have fe:Xe seen (ps.drop a)=if n=0\/Zw w∈seen then none else Xe (seen++ [Zw w]) (ps.drop (a+1+n)):=by
      rw[Xt hw,Xe,z8 eH,<-hn,x4]
     conv=>whnf
     refine IF.mk (fun h1=>?_) (fun h1=>?_)
     .have aj:n=0:=by simpa using h1
      have hn:Xk (ps.drop i)=none:=by rw[hx,fe,z8 (.inl aj)]
      conv=>whnf
      repeat'(first|refine AU ?_)<;>conv=>whnf
      exact u9.loose h0 0 [.sl (.loc 1) (a+1+n) 1 (k'-n) none, .str L, .str E, .str ([]), .str (q), .any, .any, .str P] rfl rfl rfl ⟨.inr ⟨rfl,rfl⟩, .inr ⟨rfl,rfl⟩, .inr ⟨rfl,rfl⟩, .inr ⟨rfl,rfl⟩, .inr ⟨rfl,rfl⟩, .inl rfl, .inl rfl, .inr ⟨rfl,rfl⟩,trivial⟩ ⟨a+1+n,k'-n,[],q,by omega,by rw[hn];rfl,by simp[hn],rfl,rfl⟩
     .have aj:n≠0:=by simpa using h1
      conv=>whnf
      repeat'(first|refine CALL.value (Xf _ jB) rfl rfl ?_|refine CALL.gE 6 (Yt seen (Zw w) (by omega)) rfl rfl rfl rfl (YD _) rfl ?_|refine AU ?_|refine IW ?_ ?_<;>intro h<;>try omega)<;>conv=>whnf
      .have hin:Zw w∈seen:=by simp_all
       have hn:Xk (ps.drop i)=none:=by rw[hx,fe,z8 (.inr hin)]
       exact u9.loose h0 0 [.sl (.loc 1) (a+1+n) 1 (k'-n) none, .str L, .str E, .str ([]), .str (q), .any, .any, .str P] rfl rfl rfl ⟨.inr ⟨rfl,rfl⟩, .inr ⟨rfl,rfl⟩, .inr ⟨rfl,rfl⟩, .inr ⟨rfl,rfl⟩, .inr ⟨rfl,rfl⟩, .inl rfl, .inl rfl, .inr ⟨rfl,rfl⟩,trivial⟩ ⟨a+1+n,k'-n,[],q,by omega,by rw[hn];rfl,by simp[hn],rfl,rfl⟩
      .have hin:¬Zw w∈seen:=by simp_all
       refine⟨(a+1+n,seen++ [Zw w],xs++ [w++s]),⟨by simp only;omega,by simp;omega,by simp;omega,by simp only;rw[hx,fe,z6 (by simp[aj,hin])]⟩,by simp only;omega,?_⟩;dsimp only;rw[show ps.length-(a+1+n)=k'-n by omega,show(xs++ [w++s]).length=xs.length+1 by simp];conv=>whnf
       exact vY.kA h0 [4,10,8]
    .have kY:Xe seen (ps.drop a)=some (ps.drop a):=by
      rcases J3 h with h|⟨s,_,h1,h2⟩
      rw[h,Xe];rw[h1,Xe,z6 (by simp[h2])]
     conv=>whnf
     exact u9.loose h0 0 [.sl (.loc 1) (a) 1 (ps.length-a) none, .str L, .str E, .str ([]), .str (q), .any, .any, .str P] rfl rfl rfl ⟨.inr ⟨rfl,rfl⟩, .inr ⟨rfl,rfl⟩, .inr ⟨rfl,rfl⟩, .inr ⟨rfl,rfl⟩, .inr ⟨rfl,rfl⟩, .inl rfl, .inl rfl, .inr ⟨rfl,rfl⟩,trivial⟩ ⟨a,ps.length-a,[],q,by omega,by rw[hx,kY];rfl,by rw[hx,kY];rintro l ⟨⟩;rfl,rfl,rfl⟩
  .have he:V3 WK (V3 (fun s=>Y8 s 4 4 true) (ps.drop i))=ps.drop i:=by rw[nD,B1 h1]
   conv=>whnf
   refine ua.nil 3 1 rfl ?_;refine ua.go Z3 [0] (X:=Nat×List (List UInt8)×List (List UInt8)) (fun y=>y.1<=ps.length/\y.2.1.length<=y.1/\y.2.2.length<=y.1/\XE [] (ps.drop (i))=XE y.2.1 (ps.drop y.1)) (fun y=>[(3, .sl (.loc 6) 0 1 y.2.1.length none)]) (fun y=>[(0,Je y.1 (ps.length-y.1) L E ([]) ([]) y.2.2.length 0 P),(4, .rows 1 (y.2.2.map Zx)),(5, .rows 1 []),(6, .rows 1 (y.2.1.map Zx))]) 7 (fun y=>ps.length-y.1) (i,[],[]) ⟨by simp only;omega,by simp,by simp,rfl⟩ ?_;conv=>whnf
   try rw[show ps.length-(i)=m by omega]
   refine⟨by exact vY.kA h0 [2,3,4],?_⟩;rintro⟨a,seen,vs⟩ ⟨ha,hs,hv,hx⟩;dsimp only at ha hs hv hx⊢;conv=>whnf
   refine CALL.hA (XC 264 _ ps (fun s hs=>V5 s (j8 s hs)) a (ps.length-a) (by omega) L E ([]) ([]) vs.length 0 P) ?_ ?_;rintro r O' vZ ⟨rfl,rfl,rfl⟩;exact⟨rfl,rfl,rfl⟩;rintro r O' ⟨rfl,rfl,_⟩;conv=>whnf
   refine IF.mk (fun h=>?_) (fun h=>?_)
   .obtain⟨w,hw,eH⟩:=YA h;have hlt:=(zg.1 hw).1;obtain⟨k',hk'⟩:∃k',ps.length-a=k'+1:=⟨ps.length-a-1,by omega⟩;have jB:=j8 w (y8 hw)
    have fe:XE seen (ps.drop a)=if Zw w∈seen then none else XE (seen++ [Zw w]) (ps.drop (a+1)):=by
     rw[Xt hw];simp only[XE];rw[z8 eH]
    rw[hk'];conv=>whnf
    refine CALL.hA (Y6 ps a k' (by omega) w hw L E ([]) ([]) vs.length 0 P) ?_ ?_;rintro r O' vZ ⟨rfl,rfl,rfl⟩;exact⟨rfl,rfl,rfl⟩;rintro r O' ⟨rfl,rfl,_⟩;conv=>whnf
    repeat'(first|refine CALL.value (Xf _ jB) rfl rfl ?_|refine CALL.gE 6 (Yt seen (Zw w) (by omega)) rfl rfl rfl rfl (YD _) rfl ?_|refine AU ?_|refine IW ?_ ?_<;>intro h<;>try omega)<;>conv=>whnf
    .have hin:Zw w∈seen:=by simpa using h
     have hn:Xk (ps.drop i)=none:=by unfold Xk;rw[he,hx,fe,z8 hin]
     exact u9.loose h0 0 [.sl (.loc 1) (a+1) 1 (k') none, .str L, .str E, .str ([]), .str ([]), .any, .any, .str P] rfl rfl rfl ⟨.inr ⟨rfl,rfl⟩, .inr ⟨rfl,rfl⟩, .inr ⟨rfl,rfl⟩, .inr ⟨rfl,rfl⟩, .inr ⟨rfl,rfl⟩, .inl rfl, .inl rfl, .inr ⟨rfl,rfl⟩,trivial⟩ ⟨a+1,k',[],[],by omega,by rw[hn];rfl,by simp[hn],rfl,rfl⟩
    .have hin:¬Zw w∈seen:=by simpa using h
     refine⟨(a+1,seen++ [Zw w],vs++ [w]),⟨by simp only;omega,by simp;omega,by simp;omega,by simp only;rw[hx,fe,z6 hin]⟩,by simp only;omega,?_⟩;dsimp only;rw[show ps.length-(a+1)=k' by omega,show(vs++ [w]).length=vs.length+1 by simp];conv=>whnf
     exact vY.kA h0 [10,5,8]
   .have kY:XE seen (ps.drop a)=some (ps.drop a,seen):=by
     rcases J3 h with h|⟨s,_,h1,h2⟩
     rw[h];rfl;rw[h1];simp only[XE];rw[z6 (by simp[h2])]
    have nG:Xk (ps.drop i)=Xe seen (ps.drop a):=by unfold Xk;rw[he,hx,kY]
    conv=>whnf
    refine ua.go Z3 [0] (X:=Nat×List (List UInt8)×List (List UInt8)) (fun y=>y.1<=ps.length/\y.2.1.length<=y.1/\y.2.2.length<=y.1/\Xk (ps.drop i)=Xe y.2.1 (ps.drop y.1)) (fun y=>[(3, .sl (.loc 6) 0 1 y.2.1.length none)]) (fun y=>[(0,Je y.1 (ps.length-y.1) L E ([]) ([]) vs.length y.2.2.length P),(4, .rows 1 (vs.map Zx)),(5, .rows 1 (y.2.2.map Zx)),(6, .rows 1 (y.2.1.map Zx))]) 7 (fun y=>ps.length-y.1) (a,seen,[]) ⟨by simp only;omega,by simp only;omega,by simp,nG⟩ ?_;conv=>whnf
    refine⟨by exact vY.kA h0 [4,5,6],?_⟩;clear nG kY hx hs hv;rintro⟨a,seen,xs⟩ ⟨ha,hs,hv,hx⟩;dsimp only at ha hs hv hx⊢;conv=>whnf
    refine CALL.hA (XC 266 _ ps (fun s hs=>UY s (j8 s hs)) a (ps.length-a) (by omega) L E ([]) ([]) vs.length xs.length P) ?_ ?_;rintro r O' vZ ⟨rfl,rfl,rfl⟩;exact⟨rfl,rfl,rfl⟩;rintro r O' ⟨rfl,rfl,_⟩;conv=>whnf
    refine IF.mk (fun h=>?_) (fun h=>?_)
    .obtain⟨w,hw,eH⟩:=YA h;have hlt:=(zg.1 hw).1;obtain⟨k',hk'⟩:∃k',ps.length-a=k'+1:=⟨ps.length-a-1,by omega⟩;have jB:=j8 w (y8 hw);rw[hk'];conv=>whnf
     refine CALL.hA (Y6 ps a k' (by omega) w hw L E ([]) ([]) vs.length xs.length P) ?_ ?_;rintro r O' vZ ⟨rfl,rfl,rfl⟩;exact⟨rfl,rfl,rfl⟩;rintro r O' ⟨rfl,rfl,_⟩;conv=>whnf
     refine CALL.hA (UZ 2 ps (by omega) (a+1) k' (by omega) L E ([]) ([]) vs.length xs.length P) ?_ ?_;rintro r O' vZ ⟨n,s,_,_,rfl,rfl,rfl⟩;exact⟨rfl,rfl,rfl⟩;rintro r O' ⟨n,s,hn,fZ,rfl,rfl,_⟩;have er:n<=(ps.drop (a+1)).length:=by rw[hn];exact WL _ _
     rw[zW]at er
     have fe:Xe seen (ps.drop a)=if n=0\/Zw w∈seen then none else Xe (seen++ [Zw w]) (ps.drop (a+1+n)):=by
      rw[Xt hw,Xe,z8 eH,<-hn,x4]
     conv=>whnf
     refine IF.mk (fun h1=>?_) (fun h1=>?_)
     .have aj:n=0:=by simpa using h1
      have hn:Xk (ps.drop i)=none:=by rw[hx,fe,z8 (.inl aj)]
      conv=>whnf
      repeat'(first|refine AU ?_)<;>conv=>whnf
      exact u9.loose h0 0 [.sl (.loc 1) (a+1+n) 1 (k'-n) none, .str L, .str E, .str ([]), .str ([]), .any, .any, .str P] rfl rfl rfl ⟨.inr ⟨rfl,rfl⟩, .inr ⟨rfl,rfl⟩, .inr ⟨rfl,rfl⟩, .inr ⟨rfl,rfl⟩, .inr ⟨rfl,rfl⟩, .inl rfl, .inl rfl, .inr ⟨rfl,rfl⟩,trivial⟩ ⟨a+1+n,k'-n,[],[],by omega,by rw[hn];rfl,by simp[hn],rfl,rfl⟩
     .have aj:n≠0:=by simpa using h1
      conv=>whnf
      repeat'(first|refine CALL.value (Xf _ jB) rfl rfl ?_|refine CALL.gE 6 (Yt seen (Zw w) (by omega)) rfl rfl rfl rfl (YD _) rfl ?_|refine AU ?_|refine IW ?_ ?_<;>intro h<;>try omega)<;>conv=>whnf
      .have hin:Zw w∈seen:=by simp_all
       have hn:Xk (ps.drop i)=none:=by rw[hx,fe,z8 (.inr hin)]
       exact u9.loose h0 0 [.sl (.loc 1) (a+1+n) 1 (k'-n) none, .str L, .str E, .str ([]), .str ([]), .any, .any, .str P] rfl rfl rfl ⟨.inr ⟨rfl,rfl⟩, .inr ⟨rfl,rfl⟩, .inr ⟨rfl,rfl⟩, .inr ⟨rfl,rfl⟩, .inr ⟨rfl,rfl⟩, .inl rfl, .inl rfl, .inr ⟨rfl,rfl⟩,trivial⟩ ⟨a+1+n,k'-n,[],[],by omega,by rw[hn];rfl,by simp[hn],rfl,rfl⟩
      .have hin:¬Zw w∈seen:=by simp_all
       refine⟨(a+1+n,seen++ [Zw w],xs++ [w++s]),⟨by simp only;omega,by simp;omega,by simp;omega,by simp only;rw[hx,fe,z6 (by simp[aj,hin])]⟩,by simp only;omega,?_⟩;dsimp only;rw[show ps.length-(a+1+n)=k'-n by omega,show(xs++ [w++s]).length=xs.length+1 by simp];conv=>whnf
       exact vY.kA h0 [4,10,8]
    .have kY:Xe seen (ps.drop a)=some (ps.drop a):=by
      rcases J3 h with h|⟨s,_,h1,h2⟩
      rw[h,Xe];rw[h1,Xe,z6 (by simp[h2])]
     conv=>whnf
     exact u9.loose h0 0 [.sl (.loc 1) (a) 1 (ps.length-a) none, .str L, .str E, .str ([]), .str ([]), .any, .any, .str P] rfl rfl rfl ⟨.inr ⟨rfl,rfl⟩, .inr ⟨rfl,rfl⟩, .inr ⟨rfl,rfl⟩, .inr ⟨rfl,rfl⟩, .inr ⟨rfl,rfl⟩, .inl rfl, .inl rfl, .inr ⟨rfl,rfl⟩,trivial⟩ ⟨a,ps.length-a,[],[],by omega,by rw[hx,kY];rfl,by rw[hx,kY];rintro l ⟨⟩;rfl,rfl,rfl⟩
open _root_.Go.Proofs.Tryz
theorem ZdA{p:List UInt8->Bool}{ps:List (List UInt8)}:X5 p ps 0=Hu p ps:=by
 unfold X5;cases ps<;>rfl
theorem Zg2(s:List UInt8)(hs:s.length<=34359738368):vW prog uv 161 0 [.str s] [] [] (wF (.uI [.agg (bZ 7), .int .i64 (if gZ (ZK s)=true then 0 else 61)])):=by
 have Lm:=Lc s;have hlen:=L8 s;generalize hps:ZK s=ps at*;have hb:oC ps+ps.length<=68719476736:=by unfold oC;omega
 have j8:=CZ (ps:=ps) (by omega);refine vW.enter Z3 call161 func161 rfl 56 rfl rfl [.cell 2 223, .tmp 3] rfl ?_;intro w0 F η0 h0;conv=>whnf
 refine CALL.KM (Zbk s (by omega)) rfl (YD _) ?_;rw[hps,zj];conv=>whnf
 refine CALL.w9 2 5 1 rfl rfl ?_;refine CALL.w9 2 6 1 rfl rfl ?_;refine CALL.aA [2,1,3,4] (JL 211 _ ps (fun s hs=>V4 s) 0 ps.length (by omega) [] [] [] [] 0 0 []) ?_;rintro r O' vZ ⟨rfl,rfl,rfl⟩;rw[ZdA];conv=>whnf
 refine IF.mk (fun h1=>?_) (fun h1=>?_)
 .have h1:Hu VX ps=false:=by simpa using h1
  conv=>whnf
  repeat'(first|refine AU ?_)<;>conv=>whnf
  refine CALL.aA [2,1,3,4] (Z5V ps (by omega) 0 ps.length (by omega) [] [] 0 0 []) ?_;rintro r O' vZ ⟨i1,m1,L,E,B3,rfl,hL,rfl,rfl⟩;cases h2:oA (ps.drop 0)with
  |none=>
   have dZ:gZ ps=false:=by
    have h2:oA ps=none:=h2;unfold gZ;rw[z6 (by simp[h1]),h2]
   rw[Option.isSome_none];conv=>whnf
   repeat'(first|refine AU ?_|refine IW ?_ ?_<;>intro h<;>try omega)<;>conv=>whnf
   refine u9.ox 7 h0 rfl rfl rfl ⟨?_,rfl,rfl⟩;rw[dZ];rfl
  |some l1=>
   have kZ:=hL l1 h2;subst kZ;rw[Option.isSome_some];conv=>whnf
   repeat'(first|refine AU ?_|refine IW ?_ ?_<;>intro h<;>try omega)<;>conv=>whnf
   refine CALL.aA [2,1,3,4] (Zdz ps (by omega) i1 m1 B3 L E []) ?_;rintro r O' vZ ⟨i2,m2,S,R,z4B,rfl,hR,rfl,rfl⟩;cases h3:Xk (ps.drop i1)with
   |none=>
    have dZ:gZ ps=false:=by
     have h2:oA ps=_:=h2;unfold gZ;rw[z6 (by simp[h1]),h2];simp only[h3]
    rw[Option.isSome_none];conv=>whnf
    repeat'(first|refine AU ?_|refine IW ?_ ?_<;>intro h<;>try omega)<;>conv=>whnf
    refine u9.ox 7 h0 rfl rfl rfl ⟨?_,rfl,rfl⟩;rw[dZ];rfl
   |some l2=>
    have o9:=hR l2 h3;subst o9
    have dZ:gZ ps=aV (ps.drop i2):=by
     have h2:oA ps=_:=h2;unfold gZ;rw[z6 (by simp[h1]),h2];simp only[h3]
    rw[Option.isSome_some];conv=>whnf
    repeat'(first|refine AU ?_|refine IW ?_ ?_<;>intro h<;>try omega)<;>conv=>whnf
    refine CALL.aA [2,1,3,4] (Zbo 211 _ ps (fun s hs=>V4 s) (i2) (m2) (by omega) L E S R 0 0 []) ?_;rintro r O' vZ ⟨rfl,rfl,rfl⟩;conv=>whnf
    refine IF.mk (fun h1=>?_) (fun h1=>?_)
    .obtain⟨w,hw,eH⟩:=YA h1;have hlt:=(zg.1 hw).1;have qq:aV (ps.drop (i2))=decide (YO (Wo 1) (ps.drop (i2+1))≠0/\YO (Wo 1) (ps.drop (i2+1))=(ps.drop (i2+1)).length):=by rw[Xt hw];simp only[aV];rw[z8 eH]
     rw[zW]at qq;obtain⟨k',hk'⟩:∃k',m2=k'+1:=⟨m2-1,by omega⟩;have hwl:=j8 w (y8 hw);rw[hk'];conv=>whnf
     refine CALL.aA [2,1,3,4] (Wr ps (i2) k' (by omega) w hw L E S R 0 0 []) ?_;rintro r O' vZ ⟨rfl,rfl,rfl⟩;conv=>whnf
     refine CALL.aA [2,1,3,4] (Zbp 1 ps (by omega) (i2+1) k' (by omega) L E S R 0 0 []) ?_;rintro r O' vZ ⟨n,x,hn,hxl,rfl,rfl,rfl⟩;have hn:n=YO (Wo 1) (ps.drop (i2+1)):=hn;have er:n<=(ps.drop (i2+1)).length:=by rw[hn];exact WL _ _
     rw[zW]at er;rw[<-hn]at qq;conv=>whnf
     repeat'(first|refine AU ?_|refine IW ?_ ?_<;>intro h<;>try omega)<;>conv=>whnf
     all_goals
      refine u9.ox 7 h0 rfl rfl rfl ⟨?_,rfl,rfl⟩;rw[dZ,qq]
     rw[z6 (by simp_all)];rw[z6 (by simp;omega)];rw[z8 (by simp;simp at*;omega)]
    .have qq:aV (ps.drop (i2))=decide (m2=0):=by
      rcases J3 h1 with h2|⟨x,h3,h2,h4⟩
      rw[h2];have:=zf List.length h2;rw[zW,List.length_nil]at this;simp only[aV];symm;exact yA (by omega)
      .have:=(zg.1 h3).1;rw[h2];simp only[aV];rw[z6 (by simp[h4])];symm;exact yp (by omega)
     conv=>whnf
     repeat'(first|refine IW ?_ ?_<;>intro h<;>try omega)<;>conv=>whnf
     all_goals
      refine u9.ox 7 h0 rfl rfl rfl ⟨?_,rfl,rfl⟩;rw[dZ,qq]
     rw[z6 (by rw[yt];omega)];rw[z8 (by rw[yt];omega)]
 .have h1:Hu VX ps=true:=by simpa using h1
  have dZ:gZ ps=aV (ps.drop 0):=by unfold gZ;rw[z8 h1];rfl
  conv=>whnf
  repeat'(first|refine AU ?_)<;>conv=>whnf
  refine CALL.aA [2,1,3,4] (JL 211 _ ps (fun s hs=>V4 s) (0) (ps.length) (by omega) [] [] [] [] 0 0 []) ?_;rintro r O' vZ ⟨rfl,rfl,rfl⟩;conv=>whnf
  refine IF.mk (fun h1=>?_) (fun h1=>?_)
  .obtain⟨w,hw,eH⟩:=YA h1;have hlt:=(zg.1 hw).1;have qq:aV (ps.drop (0))=decide (YO (Wo 1) (ps.drop (0+1))≠0/\YO (Wo 1) (ps.drop (0+1))=(ps.drop (0+1)).length):=by rw[Xt hw];simp only[aV];rw[z8 eH]
   rw[zW]at qq;obtain⟨k',hk'⟩:∃k',ps.length=k'+1:=⟨ps.length-1,by omega⟩;have hwl:=j8 w (y8 hw);rw[hk'];conv=>whnf
   refine CALL.aA [2,1,3,4] (Ys ps (0) k' (by omega) w hw [] [] [] [] 0 0 []) ?_;rintro r O' vZ ⟨rfl,rfl,rfl⟩;conv=>whnf
   refine CALL.aA [2,1,3,4] (Zdw 1 ps (by omega) (0+1) k' (by omega) [] [] [] [] 0 0 []) ?_;rintro r O' vZ ⟨n,x,hn,hxl,rfl,rfl,rfl⟩;have hn:n=YO (Wo 1) (ps.drop (0+1)):=hn;have er:n<=(ps.drop (0+1)).length:=by rw[hn];exact WL _ _
   rw[zW]at er;rw[<-hn]at qq;conv=>whnf
   repeat'(first|refine AU ?_|refine IW ?_ ?_<;>intro h<;>try omega)<;>conv=>whnf
   all_goals
    refine u9.ox 7 h0 rfl rfl rfl ⟨?_,rfl,rfl⟩;rw[dZ,qq]
   rw[z6 (by simp_all)];rw[z6 (by simp;omega)];rw[z8 (by simp;simp at*;omega)]
  .have qq:aV (ps.drop (0))=decide (ps.length=0):=by
    rcases J3 h1 with h2|⟨x,h3,h2,h4⟩
    rw[h2];have:=zf List.length h2;rw[zW,List.length_nil]at this;simp only[aV];symm;exact yA (by omega)
    .have:=(zg.1 h3).1;rw[h2];simp only[aV];rw[z6 (by simp[h4])];symm;exact yp (by omega)
   conv=>whnf
   repeat'(first|refine IW ?_ ?_<;>intro h<;>try omega)<;>conv=>whnf
   all_goals
    refine u9.ox 7 h0 rfl rfl rfl ⟨?_,rfl,rfl⟩;rw[dZ,qq]
   rw[z6 (by rw[yt];omega)];rw[z8 (by rw[yt];omega)]
open _root_.Go.Proofs.Tryz
def Zg3:uJ:=(ZI [(0,1),(1,1),(2,1),(3,1),(6,1),(4,2),(7,2),(5,3),(8,1),(9,1)])
theorem Z7r(k:Int)(t y l:List UInt8)(ht:Sm t)(hy:Sm y)(hl:Sm l):vW prog uv 123 0 [.agg [.int .i64 k, .str t, .str y, .str l]] [] [] (wF (.int .i64 (nF t y l))):=by
 refine vW.enter Z3 call123 func123 rfl 55 rfl rfl [.tmp 2] rfl ?_;intro w0 F η0 h0;conv=>whnf
 repeat'(first|refine Zs 12 Zg3 ?_|refine qW.mk (fun _ _=>?_)|refine CALL.value (Ld _ ht) rfl rfl ?_|refine CALL.value (Lf _ hy) rfl rfl ?_|refine CALL.value (Zg2 _ (by omega)) rfl rfl ?_|refine CALL.value (Xf _ hl) rfl rfl ?_|refine CALL.gE 2 (Z5Y [(if gZ (ZK l)=true then 0 else 61),61] (by simp)) rfl rfl rfl rfl rfl rfl ?_|refine AU ?_|refine IW ?_ ?_<;>intro h<;>try omega)<;>conv=>whnf
 all_goals
  refine u9.value h0 rfl (zf (SV.int _) ?_);by_cases hy0:y=VY
  .have G9:(y==VY)=true:=by simp[hy0]
   unfold VY at G9;try rw[G9]at h
   by_cases htg:gZ (ZK l)=true<;>by_cases hlw:Zw l=l<;>by_cases hl0:l=[]<;>simp_all[nF,VY,rM]<;>omega
  .have G9:(y==VY)=false:=by simp[hy0]
   unfold VY at G9;try rw[G9]at h
   by_cases htg:gZ (ZK l)=true<;>by_cases hlw:Zw l=l<;>by_cases hl0:l=[]<;>simp_all[nF,VY,rM]<;>omega
theorem VZ(x:Tm)(hx:e8 x):vW prog uv 86 0 [.agg [.int .i64 x.k, .str x.t, .str x.y, .str x.l]] [] [] (wF (.int .i64 (uF x))):=by
 obtain⟨ht,hy,hl⟩:=hx;obtain⟨k,t,y,l⟩:=x;dsimp only at ht hy hl⊢;refine vW.enter Z3 call86 func86 rfl 33 rfl rfl [.tmp 2] rfl ?_;intro w0 F η0 h0;conv=>whnf
 repeat'(first|refine CALL.value (Z7r _ _ _ _ ht hy hl) rfl rfl ?_|refine CALL.value (Lf _ ht) rfl rfl ?_|refine CALL.value (Z8O _ ht) rfl rfl ?_|refine AU ?_|refine IW ?_ ?_<;>intro h<;>try omega)<;>conv=>whnf
 all_goals
  refine u9.value h0 rfl (zf (SV.int _) ?_);unfold uF
  first
   |(simp_all;done)
   |(simp_all<;>omega)
theorem Z7s(x:Tm):vW prog uv 85 0 [.int .i64 0, .agg [.int .i64 x.k, .str x.t, .str x.y, .str x.l]] [] [] (wF (.bool (decide (x.k=1\/x.k=2)))):=by
 refine vW.enter Z3 call85 func85 rfl 49 rfl rfl [.tmp 4] rfl ?_;intro w0 F η0 h0;conv=>whnf
 repeat'(first|refine IW ?_ ?_<;>intro h<;>try omega)<;>conv=>whnf
 all_goals
  refine u9.value h0 rfl (zf SV.bool ?_);by_cases h1:x.k=1<;>by_cases h2:x.k=2<;>simp_all
theorem Z7t(x:Tm):vW prog uv 85 0 [.int .i64 1, .agg [.int .i64 x.k, .str x.t, .str x.y, .str x.l]] [] [] (wF (.bool (decide (x.k=1)))):=by
 refine vW.enter Z3 call85 func85 rfl 49 rfl rfl [.tmp 4] rfl ?_;intro w0 F η0 h0;conv=>whnf
 repeat'(first|refine IW ?_ ?_<;>intro h<;>try omega)<;>conv=>whnf
 all_goals
  refine u9.value h0 rfl (zf SV.bool ?_);by_cases h1:x.k=1<;>simp_all
theorem Z7u(x:Tm):vW prog uv 85 0 [.int .i64 2, .agg [.int .i64 x.k, .str x.t, .str x.y, .str x.l]] [] [] (wF (.bool (decide (x.k=1\/x.k=2\/x.k=3)))):=by
 refine vW.enter Z3 call85 func85 rfl 49 rfl rfl [.tmp 4] rfl ?_;intro w0 F η0 h0;conv=>whnf
 repeat'(first|refine IW ?_ ?_<;>intro h<;>try omega)<;>conv=>whnf
 all_goals
  refine u9.value h0 rfl (zf SV.bool ?_);by_cases h1:x.k=1<;>by_cases h2:x.k=2<;>by_cases h3:x.k=3<;>simp_all
theorem Z7v(x:Tm):vW prog uv 85 0 [.int .i64 3, .agg [.int .i64 x.k, .str x.t, .str x.y, .str x.l]] [] [] (wF (.bool (decide (x.k=1\/x.k=2\/x=ZF)))):=by
 obtain⟨k,t,y,l⟩:=x;dsimp only;refine vW.enter Z3 call85 func85 rfl 49 rfl rfl [.tmp 4] rfl ?_;intro w0 F η0 h0;conv=>whnf
 repeat'(first|refine IW ?_ ?_<;>intro h<;>try omega)<;>conv=>whnf
 all_goals
  refine u9.value h0 rfl (zf SV.bool ?_);unfold ZF;by_cases h1:k=1<;>by_cases h2:k=2<;>by_cases h3:k=0<;>cases t<;>cases y<;>cases l<;>simp_all
theorem Z3F(q:Qd)(hq:n5 q):vW prog uv 46 0 [q.sv] [] [] (wF (.int .i64 (XB q))):=by
 obtain⟨hs,hp,ho,hg⟩:=hq;unfold Qd.sv;refine vW.enter Z3 call46 func46 rfl 36 rfl rfl [.tmp 2] rfl ?_;intro w0 F η0 h0;conv=>whnf
 repeat'(first|refine ua.once Z3 ?_|refine CALL.value (Z7s q.s) rfl rfl ?_|refine CALL.value (Z7t q.p) rfl rfl ?_|refine CALL.value (Z7u q.o) rfl rfl ?_|refine CALL.value (Z7v q.g) rfl rfl ?_|refine CALL.value (VZ q.s hs) rfl rfl ?_|refine CALL.value (VZ q.p hp) rfl rfl ?_|refine CALL.value (VZ q.o ho) rfl rfl ?_|refine CALL.value (VZ q.g hg) rfl rfl ?_|refine AU ?_|refine IW ?_ ?_<;>intro h<;>try omega)<;>conv=>whnf
 all_goals
  refine u9.value h0 rfl (zf (SV.int _) ?_);have hco:= @Z8K q.o;have hz:q.g=ZF->q.g.k=0:=fun h=>by rw[h];rfl
  unfold XB;clear hs hp ho hg;by_cases B4:q.g=ZF
  have:=hz B4;simp_all
  .by_cases g1:q.g.k=1
   simp_all
   .by_cases g2:q.g.k=2
    simp_all
    simp_all
end Go.Proofs.YtlcbipfmodcedaaGreatDoor
