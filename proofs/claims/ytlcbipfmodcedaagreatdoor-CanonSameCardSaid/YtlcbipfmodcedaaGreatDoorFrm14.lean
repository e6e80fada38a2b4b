/- Part 14: Split1, Tag1, Tag2, Tag5, Tag6, Tag7. Conditions: as each part says. -/
import Derived.Test.YtlcbipfmodcedaaGreatDoorFrm12
import Derived.Test.YtlcbipfmodcedaaGreatDoorFrm13
set_option linter.unusedVariables false
set_option linter.unusedSimpArgs false
set_option maxRecDepth 20000
set_option maxHeartbeats 8000000
namespace Go.Proofs.YtlcbipfmodcedaaGreatDoor
open Go.Sx Go.Our
open _root_.Go.Proofs.Tryz
theorem Z2t(s:List UInt8)(c:Int):vS prog uf 313 0 [.str s, .int .u8 c] [] [] (uN (.int .i64 (Lib.countByte s c.toNat.toUInt8:Nat))):=by
 refine vS.says fun K w vs hd=>?_;simp only[vV,Den]at hd;obtain⟨u,us,rfl,rfl,u',us',rfl,rfl,rfl⟩:=hd;refine⟨_,?_,rfl⟩;rw[run_callFunc_extern func313 (by kernel_rfl) (by kernel_rfl) (by kernel_rfl) (e:=Extern.BytealgCount.count) (by kernel_rfl),Lib.run_countString]
 rfl
theorem Zcf(s:List UInt8):vS prog uf 297 0 [.str s, .str [45]] [] [] (uN (.int .i64 (s.count 45:Nat))):=by
 refine vS.enter Z0 call297 func297 rfl 34 rfl rfl [.tmp 4] rfl ?_;intro w0 F η0 h0;conv=>whnf
 repeat'(first|refine CALL.value (Z2t _ _) rfl rfl ?_|refine AU ?_|refine IW ?_ ?_<;>intro h<;>try omega)<;>conv=>whnf
 all_goals first
  |exact u0.value h0 rfl rfl
  |(exfalso;simp at*;done)
theorem Z8n(s:List UInt8):vS prog uf 314 0 [.str s, .str [45]] [] [] (uN (.int .i64 (Lib.indexByte s 45))):=by
 refine vS.enter Z0 call314 func314 rfl 143 rfl rfl [.tmp 4] rfl ?_;intro w0 F η0 h0;conv=>whnf
 repeat'(first|refine CALL.value (UD _ _) rfl rfl ?_|refine AU ?_|refine IW ?_ ?_<;>intro h<;>try omega)<;>conv=>whnf
 all_goals first
  |exact u0.value h0 rfl rfl
  |(subst h;exact u0.value h0 rfl rfl)
  |(rcases h with h|h
    exact absurd h (by decide)
    subst h;exact u0.value h0 rfl rfl)
  |exact absurd (by assumption:¬((0+1:Nat):Int)=1) (by decide)
theorem Zcg(s:List UInt8):vS prog uf 298 0 [.str s, .str [45]] [] [] (uN (.int .i64 (Lib.indexByte s 45))):=by
 refine vS.enter Z0 call298 func298 rfl 8 rfl rfl [.tmp 4] rfl ?_;intro w0 F η0 h0;conv=>whnf
 repeat'(first|refine CALL.value (Z8n _) rfl rfl ?_)<;>conv=>whnf
 exact u0.value h0 rfl rfl
theorem Zgj{l c:Int}{b:Nat}(B:Nat)(hb:Nat.ble b B=true)(h0:0<=l)(h1:l<=c)(h2:(B:Int)*c<=281474976710656/\c<=9223372036854775807):0<=l/\l<=c/\c<=9223372036854775807/\(b:Int)*c<=281474976710656:=
 ⟨h0,h1,h2.2,Int.le_trans (v8 (by have:=zU hb;omega) (by omega)) h2.1⟩
theorem Z6y(s:List UInt8)(hs:s.length<=68719476736):vS prog uf 258 0 [.str s, .str [45], .int .i64 0, .int .i64 (-1)] [] [] (mK 1 ((Zu s).map Zf)):=by
 have z3K:=Jj s;have hlen:=FY s;have hne:=FX s;refine vS.enter Z0 call258 func258 rfl 66 rfl rfl [.tmp 8] rfl ?_;intro w0 F η0 h0;conv=>whnf
 repeat'(first|refine CALL.value (Zcf _) rfl rfl ?_|refine IW ?_ ?_<;>intro h<;>try omega)<;>conv=>whnf
 have hn:(if IntKind.i64.wrap ((s.length:Int)+1)<IntKind.i64.wrap (((s.count 45:Nat):Int)+1)then IntKind.i64.wrap ((s.length:Int)+1)else IntKind.i64.wrap (((s.count 45:Nat):Int)+1))=((Zu s).length:Int):=by
  simp(disch:=omega) only[Z9];rw[z7 (by omega)];omega
 rw[hn];refine u6.mk (Zgj 16 rfl (by omega) (by omega) (by omega)) ?_;conv=>whnf
 rw[show List.replicate ((Zu s).length:Int).toNat [SV.str []]=nq [] (Zu s).length by rw[Int.toNat_natCast];rfl];refine vZ.go Z0 [1,2,3,9] (X:=List (List UInt8)×List UInt8) (fun x=>Zu s=x.1++Zu x.2/\x.2.length<=s.length) (fun x=>[(10, .int .i64 (x.1.length:Int)),(0, .str x.2)]) (fun x=>[(0, .rows 1 (nq x.1 ((Zu s).length-x.1.length)))]) 1 (fun x=>(Zu s).length-x.1.length) ([],s) ⟨rfl,zo _⟩ ?_;conv=>whnf
 refine⟨by(refine vU.wE h0 rfl rfl rfl (by first|rfl|(simp only[Zl,Zh,Z2 _ (L5 _ _),zB,zF]<;>rfl)) ?_ ?_<;>(repeat'(first|(with_reducible rfl)|(exact YA rfl (by first|(simp;done)|omega|(simp;omega)))|(exact z8 (SV.int _) (by first|omega|(simp(disch:=omega) only[wI,Z9,Zp]<;>omega)|(simp;done)|(simp<;>omega)))|(exact z8 (Hp.rows _) (by rfl))|((conv=>whnf);refine⟨?_,?_⟩)|exact trivial|rfl))),?_⟩;rintro⟨d,u⟩ ⟨he,hu⟩;dsimp only at he hu⊢;have hd:d.length+(Zu u).length=(Zu s).length:=by rw[he,zh]
 have hun:1<=(Zu u).length:=by have:=Jj u;omega
 have hm:Lib.indexByte u 45= -1/\Zu u=[u]\/∃m:Nat,Lib.indexByte u 45=m/\m<u.length/\Zu u=u.take m::Zu (u.drop (m+1)):=by
  have hge:=Lib.indexByte_ge u 45;by_cases h:Lib.indexByte u 45= -1
  exact .inl ⟨h,L3 h⟩
  .have e:Lib.indexByte u 45=((Lib.indexByte u 45).toNat:Int):=by omega
   have:=L4 e;exact .inr ⟨_,e,this.1,this.2⟩
 conv=>whnf
 rcases hm with⟨hm,hs1⟩|⟨m,hm,hml,hs1⟩
 .have h1:(Zu u).length=1:=by rw[hs1];rfl
  repeat'(first|refine GET.at (row:=Zf []) (L6 (by omega) (by omega)) ?_|refine u6.mk (by rw[Z9 (by omega) (by omega)];refine⟨by omega,?_⟩;show _<=((max (((Zu s).length:Int).toNat) (_-0):Nat):Int);omega) ?_|refine AU ?_|refine IW ?_ ?_<;>intro h<;>try omega)<;>conv=>whnf
  rw[L7 (by omega) (by omega)]
  have hw:(IntKind.i64.wrap ((d.length:Int)+1)).toNat=((Zu s).map Zf).length:=by
   rw[Z9 (by omega) (by omega),zy];omega
  rw[hw,show(Zu s).length-d.length-1=0 by omega,show nq (d++ [u]) 0=(Zu s).map Zf by rw[he,hs1];simp[nq]];exact u0.rows h0 0 1 _ rfl rfl rfl (Yj _) ⟨rfl,rfl,rfl⟩
 .have h1:2<=(Zu u).length:=by rw[hs1];have:=Jj (u.drop (m+1));simp;omega
  repeat'(first|refine CALL.value (Zcg _) rfl rfl ?_|refine GET.at (row:=Zf []) (L6 (by omega) (by omega)) ?_|refine AU ?_|refine IW ?_ ?_<;>intro h<;>try omega)<;>conv=>whnf
  have hw1:(IntKind.i64.wrap (Lib.indexByte u 45+(([45]:List UInt8).length:Int))).toNat=m+1:=by
   rw[hm];simp only[List.length_cons,List.length_nil];rw[Z9 (by omega) (by omega)];omega
  have hw2:(IntKind.i64.wrap (Lib.indexByte u 45+0)).toNat=m:=by
   rw[hm,Z9 (by omega) (by omega)];omega
  rw[hw1,hw2,L7 (by omega) (by omega)];refine⟨(d++ [u.take m],u.drop (m+1)),⟨by rw[he,hs1];simp,by simp;omega⟩,by simp;omega,?_⟩;dsimp only;conv=>whnf
  (refine vU.wE h0 rfl rfl rfl (by first|rfl|(simp only[Zl,Zh,Z2 _ (L5 _ _),zB,zF]<;>rfl)) ?_ ?_<;>(repeat'(first|(with_reducible rfl)|(exact YA rfl (by first|(simp;done)|omega|(simp;omega)))|(exact z8 (SV.int _) (by first|omega|(simp(disch:=omega) only[wI,Z9,Zp]<;>omega)|(simp;done)|(simp<;>omega)))|(exact z8 (Hp.rows _) (by congr 1;simp;omega))|((conv=>whnf);refine⟨?_,?_⟩)|exact trivial|rfl)))
theorem Zch(s:List UInt8)(hs:s.length<=68719476736):vS prog uf 209 0 [.str s, .str [45]] [] [] (mK 1 ((Zu s).map Zf)):=by
 refine vS.enter Z0 call209 func209 rfl 8 rfl rfl [.tmp 4] rfl ?_;intro w0 F η0 h0;conv=>whnf
 refine CALL.sZ (Z6y s hs) rfl (Yj _) ?_;conv=>whnf
 exact u0.rows h0 0 1 _ rfl rfl rfl (Yj _) ⟨rfl,rfl,rfl⟩
end Go.Proofs.YtlcbipfmodcedaaGreatDoor
namespace Go.Proofs.YtlcbipfmodcedaaGreatDoor
open Go.Sx Go.Our
open _root_.Go.Proofs.Tryz
theorem Zci(s:List UInt8)(hs:Sm s):vS prog uf 259 0 [.str s] [] [] (uN (.bool (ZH s 2 8 true))):=by
 refine vS.enter Z0 call259 func259 rfl 5 rfl rfl [.tmp 2] rfl ?_;intro w0 F η0 h0;conv=>whnf
 repeat'(first|refine CALL.value (Vl _ _ _ _ hs) rfl rfl ?_)<;>conv=>whnf
 exact u0.value h0 rfl rfl
theorem Zcj(s:List UInt8)(hs:Sm s):vS prog uf 261 0 [.str s] [] [] (uN (.bool (ZH s 3 3 true))):=by
 refine vS.enter Z0 call261 func261 rfl 5 rfl rfl [.tmp 2] rfl ?_;intro w0 F η0 h0;conv=>whnf
 repeat'(first|refine CALL.value (Vl _ _ _ _ hs) rfl rfl ?_)<;>conv=>whnf
 exact u0.value h0 rfl rfl
theorem Zck(s:List UInt8)(hs:Sm s):vS prog uf 262 0 [.str s] [] [] (uN (.bool (ZH s 4 4 true))):=by
 refine vS.enter Z0 call262 func262 rfl 5 rfl rfl [.tmp 2] rfl ?_;intro w0 F η0 h0;conv=>whnf
 repeat'(first|refine CALL.value (Vl _ _ _ _ hs) rfl rfl ?_)<;>conv=>whnf
 exact u0.value h0 rfl rfl
theorem Ww(s:List UInt8)(hs:Sm s):vS prog uf 266 0 [.str s] [] [] (uN (.bool (Xp s))):=by
 refine vS.enter Z0 call266 func266 rfl 10 rfl rfl [.tmp 2] rfl ?_;intro w0 F η0 h0;conv=>whnf
 repeat'(first|refine CALL.value (Vl _ _ _ _ hs) rfl rfl ?_|refine CALL.value (VD _) rfl rfl ?_|refine AU ?_|refine IW ?_ ?_<;>intro h<;>try omega)<;>conv=>whnf
 all_goals
  refine u0.value h0 rfl (z8 SV.bool ?_);unfold Xp
  simp_all
theorem CH(s:List UInt8)(least:Int)(hs:Sm s):vS prog uf 267 1 [.str s, .ptr (.loc 0) 0 0 0] [] [(0, .box [.int .i64 least])] (w6 1 (.bool (ZH s least 8 false))):=by
 refine vS.enter Z0 call267 func267 rfl 7 rfl rfl [.tmp 3] rfl ?_;intro w0 F η0 h0;conv=>whnf
 repeat'(first|refine CALL.value (Vl _ _ _ _ hs) rfl rfl ?_)<;>conv=>whnf
 exact u0.ua h0 rfl rfl
def W6(i m:Nat)(L E S R:List UInt8)(v x:Nat)(P:List UInt8):Hp:= .box [.sl (.loc 1) i 1 m none, .str L, .str E, .str S, .str R, .sl (.loc 2) 0 1 v none, .sl (.loc 3) 0 1 x none, .str P]
def WS(i m:Nat)(L E S R:List UInt8)(v x:Nat)(P:List UInt8):Hp:= .box [.sl (.loc 1) i 1 m none, .str L, .str E, .str S, .str R, .any, .any, .str P]
def JB(i m:Nat)(L E S R:List UInt8)(v x:Nat)(P:List UInt8):Hp:= .box [.sl (.loc 1) i 1 m none, .str L, .str E, .str S, .str R, .sl (.loc 4) 0 1 v none, .sl (.loc 5) 0 1 x none, .str P]
def YB(p:List UInt8->Bool)(ps:List (List UInt8))(i:Nat):Bool:=match ps[i]? with|some s=>p s|none=>false
theorem WT{ps:List (List UInt8)}{i:Nat}{p:List UInt8}(h:ps[i]?=some p):((ps.take (i+1)).map List.length).sum=((ps.take i).map List.length).sum+p.length:=by
 obtain⟨h1,rfl⟩:=ze.1 h;rw[zH h1,yz,List.sum_append];simp
abbrev JC(ps:List (List UInt8)):Nat:=(ps.map List.length).sum
theorem YO(ps:List (List UInt8))(i:Nat):((ps.take i).map List.length).sum<=JC ps:=by
 conv=>rhs;unfold JC;rw[<-yW i ps]
 rw[yz,List.sum_append];omega
theorem Vm(g:Nat)(p:List UInt8->Bool)(ps:List (List UInt8))(hp:∀s∈ps,vS prog uf g 0 [.str s] [] [] (uN (.bool (p s))))(i m:Nat)(him:i+m=ps.length)(L E S R:List UInt8)(v x:Nat)(P:List UInt8):
 vS prog uf 210 4 [.ptr (.loc 0) 0 0 0, .fn (.func g) [] []] [] [(0,W6 i m L E S R v x P),(1, .rows 1 (ps.map Zf))] (w6 4 (.bool (YB p ps i))):=by
 refine vS.enter Z0 call210 func210 rfl 21 rfl rfl [.tmp 4] rfl ?_;intro w0 F η0 h0;conv=>whnf
 repeat'(first|refine GET.at (row:=Zf (ps[i]'(by omega))) (by rw[z6,show i+(0:Int).toNat=i by simp,z1 (by omega)];rfl) ?_|refine CALL.value (hp _ (zk (by omega))) rfl rfl ?_|refine AU ?_|refine IW ?_ ?_<;>intro h<;>try omega)<;>conv=>whnf
 .refine u0.ua h0 rfl (z8 SV.bool ?_);unfold YB;rw[z1 (by omega)];rfl
 .refine u0.ua h0 rfl (z8 SV.bool ?_);unfold YB;rw[zW (by omega)]
theorem Z6z(least:Int)(ps:List (List UInt8))(hp:∀s∈ps,Sm s)(i m:Nat)(him:i+m=ps.length)(L E S R:List UInt8)(v x:Nat)(P:List UInt8):
 vS prog uf 210 5 [.ptr (.loc 0) 0 0 0, .fn (.func 267) [] [.ptr (.loc 4) 0 0 0]] [] [(0,W6 i m L E S R v x P),(1, .rows 1 (ps.map Zf)),(4, .box [.int .i64 least])] (w6 5 (.bool (YB (fun s=>ZH s least 8 false) ps i))):=by
 refine vS.enter Z0 call210 func210 rfl 21 rfl rfl [.tmp 4] rfl ?_;intro w0 F η0 h0;conv=>whnf
 repeat'(first|refine GET.at (row:=Zf (ps[i]'(by omega))) (by rw[z6,show i+(0:Int).toNat=i by simp,z1 (by omega)];rfl) ?_|refine CALL.looks [4] (CH (ps[i]'(by omega)) least (hp _ (zk (by omega)))) rfl rfl rfl rfl ⟨⟨rfl,rfl,rfl⟩,trivial⟩ ?_|refine AU ?_|refine IW ?_ ?_<;>intro h<;>try omega)<;>conv=>whnf
 .refine u0.ua h0 rfl (z8 SV.bool ?_);unfold YB;rw[z1 (by omega)];rfl
 .refine u0.ua h0 rfl (z8 SV.bool ?_);unfold YB;rw[zW (by omega)]
theorem YC(ps:List (List UInt8))(i m:Nat)(him:i+(m+1)=ps.length)(p:List UInt8)(hp:ps[i]?=some p)(L E S R:List UInt8)(v x:Nat)(P:List UInt8):
 vS prog uf 214 4 [.ptr (.loc 0) 0 0 0] [(0,W6 i (m+1) L E S R v x P)] [(1, .rows 1 (ps.map Zf))] (fun r O nx=>r= .str p/\O=[(0,W6 (i+1) m L E S R v x P)]/\nx=4):=by
 refine vS.enter Z0 call214 func214 rfl 19 rfl rfl [.tmp 2] rfl ?_;intro w0 F η0 h0;conv=>whnf
 repeat'(first|refine GET.at (row:=Zf p) (by rw[z6,show i+(0:Int).toNat=i by simp,hp];rfl) ?_|refine AU ?_)<;>conv=>whnf
 exact u0.here h0 (Oc:=[(0,W6 (i+1) m L E S R v x P)]) rfl rfl rfl ⟨rfl,trivial⟩ ⟨rfl,rfl,rfl⟩
theorem Zeo(least:Int)(ps:List (List UInt8))(hb:JC ps+ps.length<=1152921504606846976)(i m:Nat)(him:i+m=ps.length)(L E S R:List UInt8)(v x:Nat)(P:List UInt8):
 vS prog uf 215 4 [.ptr (.loc 0) 0 0 0, .int .i64 least] [(0,W6 i m L E S R v x P)] [(1, .rows 1 (ps.map Zf))]
  (fun r O nx=> ∃(n:Nat) (s:List UInt8),n=ZW (fun s=>ZH s least 8 false) (ps.drop i)/\s.length<=JC ps+ps.length/\r= .uz [.str s, .bool (decide (n≠0))]/\O=[(0,W6 (i+n) (m-n) L E S R v x P)]/\nx=4):=by
 have wS:∀s∈ps,Sm s:=by
  intro s hs;obtain⟨j,hj,rfl⟩:=vD hs;have h1:=WT (z1 hj);have h2:=YO ps (j+1);omega
 refine vS.enter Z0 call215 func215 rfl 18 rfl rfl [.tmp 4, .tmp 5] rfl ?_;intro w0 F η0 h0;conv=>whnf
 refine vZ.go Z0 [0,3] (X:=Nat×List UInt8) (fun y=>y.1<=m/\y.2.length<=((ps.take (i+y.1)).map List.length).sum+(i+y.1)/\(y.1=0<->y.2=[])/\ZW (fun s=>ZH s least 8 false) (ps.drop i)=y.1+ZW (fun s=>ZH s least 8 false) (ps.drop (i+y.1))) (fun y=>[(6, .str y.2)]) (fun y=>[(0,W6 (i+y.1) (m-y.1) L E S R v x P),(4, .box [.int .i64 least])]) 5 (fun y=>m-y.1) (0,[]) ⟨by simp,by simp,by simp,by simp⟩ ?_;conv=>whnf
 refine⟨by exact vU.cA h0,?_⟩;rintro⟨n,s⟩ ⟨hn,hl,rC,fZ⟩;dsimp only at hn hl rC fZ⊢;conv=>whnf
 refine CALL.hA (Z6z least ps wS (i+n) (m-n) (by omega) L E S R v x P) ?_ ?_;rintro r O' vW ⟨rfl,rfl,rfl⟩;exact⟨rfl,rfl,rfl⟩;rintro r O' ⟨rfl,rfl,_⟩;conv=>whnf
 refine⟨fun h=>?_,fun h=>?_⟩
 .obtain⟨p,hp,cg⟩:∃p,ps[i+n]?=some p/\ZH p least 8 false=true:=by
   unfold YB at h;cases hp:ps[i+n]? with
   |none=>rw[hp]at h;cases h
   |some p=>rw[hp]at h;exact⟨p,rfl,h⟩
  have hlt:=(ze.1 hp).1;have hs1:=WT hp;have hs2:=YO ps (i+n+1);obtain⟨k,hk⟩:∃k,m-n=k+1:=⟨m-n-1,by omega⟩;rw[hk];conv=>whnf
  refine CALL.hA (YC ps (i+n) k (by omega) p hp L E S R v x P) ?_ ?_;rintro r O' vW ⟨rfl,rfl,rfl⟩;exact⟨rfl,rfl,rfl⟩;rintro r O' ⟨rfl,rfl,_⟩;conv=>whnf
  repeat'(first|refine AU ?_)<;>conv=>whnf
  have hsp:ZW (fun s=>ZH s least 8 false) (ps.drop (i+n))=ZW (fun s=>ZH s least 8 false) (ps.drop (i+(n+1)))+1:=by
   rw[zm hlt]
   have:ps[i+n]=p:=by
    have:=z1 hlt;rw[hp]at this;injection this with this;exact this.symm
   rw[this];simp only[ZW,cg,yJ]
   rfl
  refine⟨(n+1,s++([45]++p)),⟨by simp only;omega,?_,by simp,by simp only;omega⟩,by simp only;omega,?_⟩
  .simp only[zh,List.length_cons,List.length_nil];rw[show i+(n+1)=i+n+1 by omega,hs1];omega
  .dsimp only;rw[show i+(n+1)=i+n+1 by omega,show m-(n+1)=k by omega];conv=>whnf
   exact vU.cA h0
 .have hsp:ZW (fun s=>ZH s least 8 false) (ps.drop (i+n))=0:=by
   unfold YB at h;cases hp:ps[i+n]? with
   |none=>rw[zN (by simpa using hp)];rfl
   |some p=>
    rw[hp]at h;have hlt:=(ze.1 hp).1;rw[zm hlt]
    have:ps[i+n]=p:=by
     have:=z1 hlt;rw[hp]at this;injection this with this;exact this.symm
    rw[this];simp only[ZW];simp only at h;simp[h]
  have hs2:=YO ps (i+n);conv=>whnf
  skip
  refine u0.here h0 (rc:= .uz [.str s, .bool (decide (n≠0))]) (Oc:=[(0,W6 (i+n) (m-n) L E S R v x P)]) ?_ rfl rfl ⟨rfl,trivial⟩ ⟨n,s,by omega,by omega,rfl,rfl,rfl⟩;show SV.uz [SV.str s,SV.bool (s !=[])]=SV.uz [SV.str s,SV.bool (decide (n≠0))]
  have:(s !=[])=decide (n≠0):=by rw[zX];simp[rC]
  rw[this]
theorem Zcl(g:Nat)(p:List UInt8->Bool)(ps:List (List UInt8))(hp:∀s∈ps,vS prog uf g 0 [.str s] [] [] (uN (.bool (p s))))(i m:Nat)(him:i+m=ps.length)(L E S R:List UInt8)(v x:Nat)(P:List UInt8):
 vS prog uf 210 4 [.ptr (.loc 0) 0 0 0, .fn (.func g) [] []] [] [(0,WS i m L E S R v x P),(1, .rows 1 (ps.map Zf))] (w6 4 (.bool (YB p ps i))):=by
 refine vS.enter Z0 call210 func210 rfl 21 rfl rfl [.tmp 4] rfl ?_;intro w0 F η0 h0;conv=>whnf
 repeat'(first|refine GET.at (row:=Zf (ps[i]'(by omega))) (by rw[z6,show i+(0:Int).toNat=i by simp,z1 (by omega)];rfl) ?_|refine CALL.value (hp _ (zk (by omega))) rfl rfl ?_|refine AU ?_|refine IW ?_ ?_<;>intro h<;>try omega)<;>conv=>whnf
 .refine u0.ua h0 rfl (z8 SV.bool ?_);unfold YB;rw[z1 (by omega)];rfl
 .refine u0.ua h0 rfl (z8 SV.bool ?_);unfold YB;rw[zW (by omega)]
theorem Z4R(least:Int)(ps:List (List UInt8))(hp:∀s∈ps,Sm s)(i m:Nat)(him:i+m=ps.length)(L E S R:List UInt8)(v x:Nat)(P:List UInt8):
 vS prog uf 210 5 [.ptr (.loc 0) 0 0 0, .fn (.func 267) [] [.ptr (.loc 4) 0 0 0]] [] [(0,WS i m L E S R v x P),(1, .rows 1 (ps.map Zf)),(4, .box [.int .i64 least])] (w6 5 (.bool (YB (fun s=>ZH s least 8 false) ps i))):=by
 refine vS.enter Z0 call210 func210 rfl 21 rfl rfl [.tmp 4] rfl ?_;intro w0 F η0 h0;conv=>whnf
 repeat'(first|refine GET.at (row:=Zf (ps[i]'(by omega))) (by rw[z6,show i+(0:Int).toNat=i by simp,z1 (by omega)];rfl) ?_|refine CALL.looks [4] (CH (ps[i]'(by omega)) least (hp _ (zk (by omega)))) rfl rfl rfl rfl ⟨⟨rfl,rfl,rfl⟩,trivial⟩ ?_|refine AU ?_|refine IW ?_ ?_<;>intro h<;>try omega)<;>conv=>whnf
 .refine u0.ua h0 rfl (z8 SV.bool ?_);unfold YB;rw[z1 (by omega)];rfl
 .refine u0.ua h0 rfl (z8 SV.bool ?_);unfold YB;rw[zW (by omega)]
theorem WU(ps:List (List UInt8))(i m:Nat)(him:i+(m+1)=ps.length)(p:List UInt8)(hp:ps[i]?=some p)(L E S R:List UInt8)(v x:Nat)(P:List UInt8):
 vS prog uf 214 4 [.ptr (.loc 0) 0 0 0] [(0,WS i (m+1) L E S R v x P)] [(1, .rows 1 (ps.map Zf))] (fun r O nx=>r= .str p/\O=[(0,WS (i+1) m L E S R v x P)]/\nx=4):=by
 refine vS.enter Z0 call214 func214 rfl 19 rfl rfl [.tmp 2] rfl ?_;intro w0 F η0 h0;conv=>whnf
 repeat'(first|refine GET.at (row:=Zf p) (by rw[z6,show i+(0:Int).toNat=i by simp,hp];rfl) ?_|refine AU ?_)<;>conv=>whnf
 exact u0.here h0 (Oc:=[(0,WS (i+1) m L E S R v x P)]) rfl rfl rfl ⟨rfl,trivial⟩ ⟨rfl,rfl,rfl⟩
theorem Zcm(least:Int)(ps:List (List UInt8))(hb:JC ps+ps.length<=1152921504606846976)(i m:Nat)(him:i+m=ps.length)(L E S R:List UInt8)(v x:Nat)(P:List UInt8):
 vS prog uf 215 4 [.ptr (.loc 0) 0 0 0, .int .i64 least] [(0,WS i m L E S R v x P)] [(1, .rows 1 (ps.map Zf))]
  (fun r O nx=> ∃(n:Nat) (s:List UInt8),n=ZW (fun s=>ZH s least 8 false) (ps.drop i)/\s.length<=JC ps+ps.length/\r= .uz [.str s, .bool (decide (n≠0))]/\O=[(0,WS (i+n) (m-n) L E S R v x P)]/\nx=4):=by
 have wS:∀s∈ps,Sm s:=by
  intro s hs;obtain⟨j,hj,rfl⟩:=vD hs;have h1:=WT (z1 hj);have h2:=YO ps (j+1);omega
 refine vS.enter Z0 call215 func215 rfl 18 rfl rfl [.tmp 4, .tmp 5] rfl ?_;intro w0 F η0 h0;conv=>whnf
 refine vZ.go Z0 [0,3] (X:=Nat×List UInt8) (fun y=>y.1<=m/\y.2.length<=((ps.take (i+y.1)).map List.length).sum+(i+y.1)/\(y.1=0<->y.2=[])/\ZW (fun s=>ZH s least 8 false) (ps.drop i)=y.1+ZW (fun s=>ZH s least 8 false) (ps.drop (i+y.1))) (fun y=>[(6, .str y.2)]) (fun y=>[(0,WS (i+y.1) (m-y.1) L E S R v x P),(4, .box [.int .i64 least])]) 5 (fun y=>m-y.1) (0,[]) ⟨by simp,by simp,by simp,by simp⟩ ?_;conv=>whnf
 refine⟨by exact vU.cA h0,?_⟩;rintro⟨n,s⟩ ⟨hn,hl,rC,fZ⟩;dsimp only at hn hl rC fZ⊢;conv=>whnf
 refine CALL.hA (Z4R least ps wS (i+n) (m-n) (by omega) L E S R v x P) ?_ ?_;rintro r O' vW ⟨rfl,rfl,rfl⟩;exact⟨rfl,rfl,rfl⟩;rintro r O' ⟨rfl,rfl,_⟩;conv=>whnf
 refine⟨fun h=>?_,fun h=>?_⟩
 .obtain⟨p,hp,cg⟩:∃p,ps[i+n]?=some p/\ZH p least 8 false=true:=by
   unfold YB at h;cases hp:ps[i+n]? with
   |none=>rw[hp]at h;cases h
   |some p=>rw[hp]at h;exact⟨p,rfl,h⟩
  have hlt:=(ze.1 hp).1;have hs1:=WT hp;have hs2:=YO ps (i+n+1);obtain⟨k,hk⟩:∃k,m-n=k+1:=⟨m-n-1,by omega⟩;rw[hk];conv=>whnf
  refine CALL.hA (WU ps (i+n) k (by omega) p hp L E S R v x P) ?_ ?_;rintro r O' vW ⟨rfl,rfl,rfl⟩;exact⟨rfl,rfl,rfl⟩;rintro r O' ⟨rfl,rfl,_⟩;conv=>whnf
  repeat'(first|refine AU ?_)<;>conv=>whnf
  have hsp:ZW (fun s=>ZH s least 8 false) (ps.drop (i+n))=ZW (fun s=>ZH s least 8 false) (ps.drop (i+(n+1)))+1:=by
   rw[zm hlt]
   have:ps[i+n]=p:=by
    have:=z1 hlt;rw[hp]at this;injection this with this;exact this.symm
   rw[this];simp only[ZW,cg,yJ]
   rfl
  refine⟨(n+1,s++([45]++p)),⟨by simp only;omega,?_,by simp,by simp only;omega⟩,by simp only;omega,?_⟩
  .simp only[zh,List.length_cons,List.length_nil];rw[show i+(n+1)=i+n+1 by omega,hs1];omega
  .dsimp only;rw[show i+(n+1)=i+n+1 by omega,show m-(n+1)=k by omega];conv=>whnf
   exact vU.cA h0
 .have hsp:ZW (fun s=>ZH s least 8 false) (ps.drop (i+n))=0:=by
   unfold YB at h;cases hp:ps[i+n]? with
   |none=>rw[zN (by simpa using hp)];rfl
   |some p=>
    rw[hp]at h;have hlt:=(ze.1 hp).1;rw[zm hlt]
    have:ps[i+n]=p:=by
     have:=z1 hlt;rw[hp]at this;injection this with this;exact this.symm
    rw[this];simp only[ZW];simp only at h;simp[h]
  have hs2:=YO ps (i+n);conv=>whnf
  skip
  refine u0.here h0 (rc:= .uz [.str s, .bool (decide (n≠0))]) (Oc:=[(0,WS (i+n) (m-n) L E S R v x P)]) ?_ rfl rfl ⟨rfl,trivial⟩ ⟨n,s,by omega,by omega,rfl,rfl,rfl⟩;show SV.uz [SV.str s,SV.bool (s !=[])]=SV.uz [SV.str s,SV.bool (decide (n≠0))]
  have:(s !=[])=decide (n≠0):=by rw[zX];simp[rC]
  rw[this]
theorem XK(g:Nat)(p:List UInt8->Bool)(ps:List (List UInt8))(hp:∀s∈ps,vS prog uf g 0 [.str s] [] [] (uN (.bool (p s))))(i m:Nat)(him:i+m=ps.length)(L E S R:List UInt8)(v x:Nat)(P:List UInt8):
 vS prog uf 210 7 [.ptr (.loc 0) 0 0 0, .fn (.func g) [] []] [] [(0,JB i m L E S R v x P),(1, .rows 1 (ps.map Zf))] (w6 7 (.bool (YB p ps i))):=by
 refine vS.enter Z0 call210 func210 rfl 21 rfl rfl [.tmp 4] rfl ?_;intro w0 F η0 h0;conv=>whnf
 repeat'(first|refine GET.at (row:=Zf (ps[i]'(by omega))) (by rw[z6,show i+(0:Int).toNat=i by simp,z1 (by omega)];rfl) ?_|refine CALL.value (hp _ (zk (by omega))) rfl rfl ?_|refine AU ?_|refine IW ?_ ?_<;>intro h<;>try omega)<;>conv=>whnf
 .refine u0.ua h0 rfl (z8 SV.bool ?_);unfold YB;rw[z1 (by omega)];rfl
 .refine u0.ua h0 rfl (z8 SV.bool ?_);unfold YB;rw[zW (by omega)]
theorem Z4S(least:Int)(ps:List (List UInt8))(hp:∀s∈ps,Sm s)(i m:Nat)(him:i+m=ps.length)(L E S R:List UInt8)(v x:Nat)(P:List UInt8):
 vS prog uf 210 8 [.ptr (.loc 0) 0 0 0, .fn (.func 267) [] [.ptr (.loc 7) 0 0 0]] [] [(0,JB i m L E S R v x P),(1, .rows 1 (ps.map Zf)),(7, .box [.int .i64 least])] (w6 8 (.bool (YB (fun s=>ZH s least 8 false) ps i))):=by
 refine vS.enter Z0 call210 func210 rfl 21 rfl rfl [.tmp 4] rfl ?_;intro w0 F η0 h0;conv=>whnf
 repeat'(first|refine GET.at (row:=Zf (ps[i]'(by omega))) (by rw[z6,show i+(0:Int).toNat=i by simp,z1 (by omega)];rfl) ?_|refine CALL.looks [7] (CH (ps[i]'(by omega)) least (hp _ (zk (by omega)))) rfl rfl rfl rfl ⟨⟨rfl,rfl,rfl⟩,trivial⟩ ?_|refine AU ?_|refine IW ?_ ?_<;>intro h<;>try omega)<;>conv=>whnf
 .refine u0.ua h0 rfl (z8 SV.bool ?_);unfold YB;rw[z1 (by omega)];rfl
 .refine u0.ua h0 rfl (z8 SV.bool ?_);unfold YB;rw[zW (by omega)]
theorem Y4(ps:List (List UInt8))(i m:Nat)(him:i+(m+1)=ps.length)(p:List UInt8)(hp:ps[i]?=some p)(L E S R:List UInt8)(v x:Nat)(P:List UInt8):
 vS prog uf 214 7 [.ptr (.loc 0) 0 0 0] [(0,JB i (m+1) L E S R v x P)] [(1, .rows 1 (ps.map Zf))] (fun r O nx=>r= .str p/\O=[(0,JB (i+1) m L E S R v x P)]/\nx=7):=by
 refine vS.enter Z0 call214 func214 rfl 19 rfl rfl [.tmp 2] rfl ?_;intro w0 F η0 h0;conv=>whnf
 repeat'(first|refine GET.at (row:=Zf p) (by rw[z6,show i+(0:Int).toNat=i by simp,hp];rfl) ?_|refine AU ?_)<;>conv=>whnf
 exact u0.here h0 (Oc:=[(0,JB (i+1) m L E S R v x P)]) rfl rfl rfl ⟨rfl,trivial⟩ ⟨rfl,rfl,rfl⟩
theorem Wx(least:Int)(ps:List (List UInt8))(hb:JC ps+ps.length<=1152921504606846976)(i m:Nat)(him:i+m=ps.length)(L E S R:List UInt8)(v x:Nat)(P:List UInt8):
 vS prog uf 215 7 [.ptr (.loc 0) 0 0 0, .int .i64 least] [(0,JB i m L E S R v x P)] [(1, .rows 1 (ps.map Zf))]
  (fun r O nx=> ∃(n:Nat) (s:List UInt8),n=ZW (fun s=>ZH s least 8 false) (ps.drop i)/\s.length<=JC ps+ps.length/\r= .uz [.str s, .bool (decide (n≠0))]/\O=[(0,JB (i+n) (m-n) L E S R v x P)]/\nx=7):=by
 have wS:∀s∈ps,Sm s:=by
  intro s hs;obtain⟨j,hj,rfl⟩:=vD hs;have h1:=WT (z1 hj);have h2:=YO ps (j+1);omega
 refine vS.enter Z0 call215 func215 rfl 18 rfl rfl [.tmp 4, .tmp 5] rfl ?_;intro w0 F η0 h0;conv=>whnf
 refine vZ.go Z0 [0,3] (X:=Nat×List UInt8) (fun y=>y.1<=m/\y.2.length<=((ps.take (i+y.1)).map List.length).sum+(i+y.1)/\(y.1=0<->y.2=[])/\ZW (fun s=>ZH s least 8 false) (ps.drop i)=y.1+ZW (fun s=>ZH s least 8 false) (ps.drop (i+y.1))) (fun y=>[(6, .str y.2)]) (fun y=>[(0,JB (i+y.1) (m-y.1) L E S R v x P),(7, .box [.int .i64 least])]) 8 (fun y=>m-y.1) (0,[]) ⟨by simp,by simp,by simp,by simp⟩ ?_;conv=>whnf
 refine⟨by exact vU.cA h0,?_⟩;rintro⟨n,s⟩ ⟨hn,hl,rC,fZ⟩;dsimp only at hn hl rC fZ⊢;conv=>whnf
 refine CALL.hA (Z4S least ps wS (i+n) (m-n) (by omega) L E S R v x P) ?_ ?_;rintro r O' vW ⟨rfl,rfl,rfl⟩;exact⟨rfl,rfl,rfl⟩;rintro r O' ⟨rfl,rfl,_⟩;conv=>whnf
 refine⟨fun h=>?_,fun h=>?_⟩
 .obtain⟨p,hp,cg⟩:∃p,ps[i+n]?=some p/\ZH p least 8 false=true:=by
   unfold YB at h;cases hp:ps[i+n]? with
   |none=>rw[hp]at h;cases h
   |some p=>rw[hp]at h;exact⟨p,rfl,h⟩
  have hlt:=(ze.1 hp).1;have hs1:=WT hp;have hs2:=YO ps (i+n+1);obtain⟨k,hk⟩:∃k,m-n=k+1:=⟨m-n-1,by omega⟩;rw[hk];conv=>whnf
  refine CALL.hA (Y4 ps (i+n) k (by omega) p hp L E S R v x P) ?_ ?_;rintro r O' vW ⟨rfl,rfl,rfl⟩;exact⟨rfl,rfl,rfl⟩;rintro r O' ⟨rfl,rfl,_⟩;conv=>whnf
  repeat'(first|refine AU ?_)<;>conv=>whnf
  have hsp:ZW (fun s=>ZH s least 8 false) (ps.drop (i+n))=ZW (fun s=>ZH s least 8 false) (ps.drop (i+(n+1)))+1:=by
   rw[zm hlt]
   have:ps[i+n]=p:=by
    have:=z1 hlt;rw[hp]at this;injection this with this;exact this.symm
   rw[this];simp only[ZW,cg,yJ]
   rfl
  refine⟨(n+1,s++([45]++p)),⟨by simp only;omega,?_,by simp,by simp only;omega⟩,by simp only;omega,?_⟩
  .simp only[zh,List.length_cons,List.length_nil];rw[show i+(n+1)=i+n+1 by omega,hs1];omega
  .dsimp only;rw[show i+(n+1)=i+n+1 by omega,show m-(n+1)=k by omega];conv=>whnf
   exact vU.cA h0
 .have hsp:ZW (fun s=>ZH s least 8 false) (ps.drop (i+n))=0:=by
   unfold YB at h;cases hp:ps[i+n]? with
   |none=>rw[zN (by simpa using hp)];rfl
   |some p=>
    rw[hp]at h;have hlt:=(ze.1 hp).1;rw[zm hlt]
    have:ps[i+n]=p:=by
     have:=z1 hlt;rw[hp]at this;injection this with this;exact this.symm
    rw[this];simp only[ZW];simp only at h;simp[h]
  have hs2:=YO ps (i+n);conv=>whnf
  skip
  refine u0.here h0 (rc:= .uz [.str s, .bool (decide (n≠0))]) (Oc:=[(0,JB (i+n) (m-n) L E S R v x P)]) ?_ rfl rfl ⟨rfl,trivial⟩ ⟨n,s,by omega,by omega,rfl,rfl,rfl⟩;show SV.uz [SV.str s,SV.bool (s !=[])]=SV.uz [SV.str s,SV.bool (decide (n≠0))]
  have:(s !=[])=decide (n≠0):=by rw[zX];simp[rC]
  rw[this]
open _root_.Go.Proofs.Tryz
def Li:uu:=(.take 0 1 (.take 1 1 (.take 2 1 (.take 3 1 (.take 5 1 (.fork 4 3 6 0 (Zs [(6,0),(7,1),(8,1),(9,1),(10,1),(11,0)]) (Zs [(4,2),(7,1),(8,1),(9,1),(10,1),(11,0)])))))))
theorem tF{ps:List (List UInt8)}(hb:JC ps+ps.length<=1152921504606846976):∀s∈ps,Sm s:=by
 intro s hs;obtain⟨j,hj,rfl⟩:=vD hs;have h1:=WT (z1 hj);have h2:=YO ps (j+1);omega
theorem ZN{p:List UInt8->Bool}{ps:List (List UInt8)}{i:Nat}(h:YB p ps i=true):∃s,ps[i]?=some s/\p s=true:=by
 unfold YB at h;cases hp:ps[i]? with
 |none=>rw[hp]at h;cases h
 |some s=>rw[hp]at h;exact⟨s,rfl,h⟩
theorem ZX{ps:List (List UInt8)}{i:Nat}{s:List UInt8}(h:ps[i]?=some s):ps.drop i=s::ps.drop (i+1):=by
 obtain⟨h1,rfl⟩:=ze.1 h;exact zm h1
theorem XC{p:List UInt8->Bool}{ps:List (List UInt8)}{i:Nat}(h:YB p ps i=false):ps.drop i=[]\/∃s,ps[i]?=some s/\ps.drop i=s::ps.drop (i+1)/\p s=false:=by
 unfold YB at h;cases hp:ps[i]? with
 |none=>exact .inl (zN (by simpa using hp))
 |some s=>rw[hp]at h;exact .inr ⟨s,rfl,ZX hp,h⟩
theorem Lj{n:Nat}{ps:List (List UInt8)}{i:Nat}(h:YB (fun s=>ZH s 3 3 true) ps i=false):jy n (ps.drop i)=ps.drop i:=by
 rcases XC h with h|⟨s,_,h1,h2⟩
 rw[h];cases n<;>rfl
 .rw[h1];cases n with
  |zero=>rfl
  |succ n=>simp only[jy];simp[h2]
theorem Jo{s:List UInt8}{a b:Int}{pure:Bool}(h:ZH s a b pure=true):a<=s.length/\(s.length:Int)<=b:=by
 unfold ZH at h;simp at h;omega
theorem Z6A(ps:List (List UInt8))(hb:JC ps+ps.length<=1152921504606846976)(i m:Nat)(him:i+m=ps.length)(S R:List UInt8)(v x:Nat)(P:List UInt8):
 vS prog uf 212 4 [.ptr (.loc 0) 0 0 0] [(0,W6 i m [] [] S R v x P)] [(1, .rows 1 (ps.map Zf))]
  (fun r O nx=> ∃(i' m':Nat) (L E:List UInt8),i'+m'=ps.length/\r= .bool (JK (ps.drop i)).isSome/\(∀l,JK (ps.drop i)=some l->l=ps.drop i')/\O=[(0,W6 i' m' L E S R v x P)]/\nx=4):=by
 have wS:=tF hb;refine vS.enter Z0 call212 func212 rfl 50 rfl rfl [.tmp 2] rfl ?_;intro w0 F η0 h0;conv=>whnf
 refine CALL.hA (Vm 259 _ ps (fun s hs=>Zci s (wS s hs)) i m him [] [] S R v x P) ?_ ?_;rintro r O' vW ⟨rfl,rfl,rfl⟩;exact⟨rfl,rfl,rfl⟩;rintro r O' ⟨rfl,rfl,_⟩;conv=>whnf
 refine IF.mk (fun h=>?_) (fun h=>?_)
 .conv=>whnf
  have h:YB (fun s=>ZH s 2 8 true) ps i=false:=by simpa using h
  have hn:JK (ps.drop i)=none:=by
   rcases XC h with h|⟨s,_,h1,h2⟩
   rw[h];rfl;rw[h1];simp only[JK];simp[h2]
  exact u0.here h0 (Oc:=[(0,W6 i m [] [] S R v x P)]) rfl rfl rfl ⟨rfl,trivial⟩ ⟨i,m,[],[],him,by rw[hn];rfl,by simp[hn],rfl,rfl⟩
 have h:YB (fun s=>ZH s 2 8 true) ps i=true:=by simpa using h
 obtain⟨p,hp,cg⟩:=ZN h;have hlt:=(ze.1 hp).1;have hd:=ZX hp;obtain⟨k,rfl⟩:∃k,m=k+1:=⟨m-1,by omega⟩;have hlen:=Jo cg;conv=>whnf
 refine CALL.hA (YC ps i k him p hp [] [] S R v x P) ?_ ?_;rintro r O' vW ⟨rfl,rfl,rfl⟩;exact⟨rfl,rfl,rfl⟩;rintro r O' ⟨rfl,rfl,_⟩;conv=>whnf
 refine IF.mk (fun h=>?_) (fun h=>?_)
 .conv=>whnf
  have h:3<p.length:=by simp at h;omega
  exact u0.here h0 (Oc:=[(0,W6 (i+1) k p [] S R v x P)]) rfl rfl rfl ⟨rfl,trivial⟩ ⟨i+1,k,p,[],by omega,by rw[hd];simp only[JK];simp[cg,h],by rw[hd];simp only[JK];simp[cg,h],rfl,rfl⟩
 have h:¬3<p.length:=by simp at h;omega
 have hL:JK (ps.drop i)=some (jy 3 (ps.drop (i+1))):=by rw[hd];simp only[JK];rw[zf cg,z7 h]
 conv=>whnf
 refine vZ.go Z0 [0] (X:=Nat×List UInt8×Nat) (fun y=>y.1<=3/\y.2.1.length<=4*y.1/\y.2.2+(ps.length-y.2.2)=ps.length/\jy 3 (ps.drop (i+1))=jy (3-y.1) (ps.drop y.2.2)) (fun y=>[(3, .int .i64 (y.1:Int))]) (fun y=>[(0,W6 y.2.2 (ps.length-y.2.2) p y.2.1 S R v x P)]) 4 (fun y=>3-y.1) (0,[],i+1) ⟨by simp,by simp,by simp only;omega,rfl⟩ ?_;conv=>whnf
 rw[show ps.length-(i+1)=k by omega];refine⟨by exact vU.cA h0,?_⟩;rintro⟨c,E,a⟩ ⟨hc,hE,ha,hx⟩;dsimp only at hc hE ha hx⊢;conv=>whnf
 have fin:YB (fun s=>ZH s 3 3 true) ps a=false\/c=3->jy 3 (ps.drop (i+1))=ps.drop a:=by
  rintro(h|h);rw[hx,Lj h];subst h;rw[hx];rfl
 refine IF.mk (fun h=>?_) (fun h=>?_)
 .have h:c<3:=by simp at h;omega
  conv=>whnf
  repeat'(first|refine AU ?_)<;>conv=>whnf
  refine CALL.hA (Vm 261 _ ps (fun s hs=>Zcj s (wS s hs)) a (ps.length-a) ha p E S R v x P) ?_ ?_;rintro r O' vW ⟨rfl,rfl,rfl⟩;exact⟨rfl,rfl,rfl⟩;rintro r O' ⟨rfl,rfl,_⟩;conv=>whnf
  repeat'(first|refine AU ?_|refine IW ?_ ?_<;>intro h<;>try omega)<;>conv=>whnf
  .obtain⟨q,hq,jg⟩:=ZN (by assumption);have hql:=Jo jg;obtain⟨k',hk'⟩:∃k',ps.length-a=k'+1:=⟨ps.length-a-1,by have:=(ze.1 hq).1;omega⟩;rw[hk'];repeat'(first|refine Z4 11 Li ?_|refine wh.mk (fun _ _=>?_)|refine qz.mk ?_ ?_)<;>conv=>whnf
   all_goals
    refine CALL.hA (YC ps a k' (by omega) q hq p (E++ [45]) S R v x P) ?_ ?_;rintro r O' vW ⟨rfl,rfl,rfl⟩;exact⟨rfl,rfl,rfl⟩;rintro r O' ⟨rfl,rfl,_⟩;conv=>whnf
    repeat'(first|refine AU ?_)<;>conv=>whnf
    refine⟨(c+1,(E++ [45])++q,a+1),⟨by simp only;omega,by simp only[zh,List.length_cons,List.length_nil];omega,by simp only;omega,?_⟩,by simp only;omega,?_⟩;rw[hx,ZX hq,show 3-c=(3-(c+1))+1 by omega];simp only[jy];rw[zf jg]
    .dsimp only;rw[show ps.length-(a+1)=k' by omega];conv=>whnf
     exact vU.cA h0
  .obtain⟨q,hq,jg⟩:=ZN (by assumption);have hql:=Jo jg;obtain⟨k',hk'⟩:∃k',ps.length-a=k'+1:=⟨ps.length-a-1,by have:=(ze.1 hq).1;omega⟩;rw[hk'];have hc0:c=0:=by omega
   repeat'(first|refine Z4 11 Li ?_|refine wh.mk (fun _ _=>?_)|refine qz.mk ?_ ?_)<;>conv=>whnf
   all_goals
    refine CALL.hA (YC ps a k' (by omega) q hq p (E) S R v x P) ?_ ?_;rintro r O' vW ⟨rfl,rfl,rfl⟩;exact⟨rfl,rfl,rfl⟩;rintro r O' ⟨rfl,rfl,_⟩;conv=>whnf
    repeat'(first|refine AU ?_)<;>conv=>whnf
    refine⟨(c+1,(E)++q,a+1),⟨by simp only;omega,by simp only[zh,List.length_cons,List.length_nil];omega,by simp only;omega,?_⟩,by simp only;omega,?_⟩;rw[hx,ZX hq,show 3-c=(3-(c+1))+1 by omega];simp only[jy];rw[zf jg]
    .dsimp only;rw[show ps.length-(a+1)=k' by omega];conv=>whnf
     exact vU.cA h0
  exact u0.here h0 (Oc:=[(0,W6 a (ps.length-a) p E S R v x P)]) rfl rfl rfl ⟨rfl,trivial⟩ ⟨a,ps.length-a,p,E,ha,by rw[hL];rfl,by rw[hL];rintro l ⟨⟩;exact fin (.inl (by assumption)),rfl,rfl⟩
 .have h:c=3:=by simp at h;omega
  conv=>whnf
  repeat'(first|refine AU ?_)<;>conv=>whnf
  exact u0.here h0 (Oc:=[(0,W6 a (ps.length-a) p E S R v x P)]) rfl rfl rfl ⟨rfl,trivial⟩ ⟨a,ps.length-a,p,E,ha,by rw[hL];rfl,by rw[hL];rintro l ⟨⟩;exact fin (.inr h),rfl,rfl⟩
theorem iY{p:List UInt8->Bool}{ps:List (List UInt8)}{i:Nat}(h:YB p ps i=false):J4 p (ps.drop i)=ps.drop i:=by
 rcases XC h with h|⟨s,_,h1,h2⟩
 rw[h];rfl;rw[h1];simp only[J4];rw[z7 (by simp[h2])]
theorem VF{p:List UInt8->Bool}{ps:List (List UInt8)}{i:Nat}{s:List UInt8}(h:ps[i]?=some s)(hp:p s=true):J4 p (ps.drop i)=ps.drop (i+1):=by
 rw[ZX h];simp only[J4];rw[zf hp]
theorem Z6B(l:List (List UInt8))(s:List UInt8)(hl:l.length<=1152921504606846976):vS prog uf 300 1 [.sl (.loc 0) 0 1 l.length none, .str s] [] [(0, .rows 1 (l.map Zf))]
 (fun r O nx=> ∃n:Int,(0<=n<->s∈l)/\r= .int .i64 n/\O=[]/\nx=1):=by
 refine vS.enter Z0 call300 func300 rfl 19 rfl rfl [.tmp 4] rfl ?_;intro w0 F η0 h0;conv=>whnf
 refine vZ.go Z0 [0,1,7] (X:=Nat) (fun i=>i<=l.length/\s∉l.take i) (fun i=>[(8, .int .i64 (i:Int))]) (fun i=>[]) 1 (fun i=>l.length-i) 0 ⟨by omega,by simp⟩ ?_;conv=>whnf
 refine⟨by exact vU.cA h0,?_⟩;rintro i ⟨hi,hc⟩;conv=>whnf
 repeat'(first|refine GET.at (row:=Zf (l[i]'(by omega))) (by rw[z6,show 0+(i:Int).toNat=i by omega,z1 (by omega)];rfl) ?_|refine AU ?_|refine IW ?_ ?_<;>intro h<;>try omega)<;>conv=>whnf
 .have hl:i<l.length:=by omega
  exact u0.val h0 rfl ⟨i,⟨fun _=>by subst h;exact zk hl,fun _=>by omega⟩,rfl,rfl,rfl⟩
 .have hl:i<l.length:=by omega
  refine⟨i+1,⟨by omega,?_⟩,by omega,?_⟩
  .rw[zH hl];simp only[zQ,zI];rintro(h1|h1);exact hc h1;exact h h1
  .conv=>whnf
   exact vU.cA h0
 .refine u0.val h0 rfl ⟨-1,⟨fun h=>by omega,fun h1=>?_⟩,rfl,rfl,rfl⟩;rw[zg (by omega)]at hc;exact(hc h1).elim
theorem YD(l:List (List UInt8))(s:List UInt8)(hl:l.length<=1152921504606846976):vS prog uf 265 1 [.sl (.loc 0) 0 1 l.length none, .str s] [] [(0, .rows 1 (l.map Zf))] (w6 1 (.bool (decide (s∈l)))):=by
 refine vS.enter Z0 call265 func265 rfl 9 rfl rfl [.tmp 4] rfl ?_;intro w0 F η0 h0;conv=>whnf
 refine CALL.hA (Z6B l s hl) ?_ ?_;rintro r O' vW ⟨n,_,rfl,rfl,rfl⟩;exact⟨rfl,rfl,rfl⟩;rintro r O' ⟨n,hn,rfl,rfl,_⟩;conv=>whnf
 exact u0.ua h0 rfl (z8 SV.bool (vv.2 hn))
def oG:List Int->Int
 | []=>0
 |a::l=>if a≠0 then a else oG l
def Ll(a:Int):List SV:=[.int .i64 a]
theorem Z6C(xs:List Int)(hn:xs.length<=1152921504606846976):vS prog uf 163 1 [.sl (.loc 0) 0 1 xs.length none] [] [(0, .rows 1 (xs.map Ll))] (w6 1 (.int .i64 (oG xs))):=by
 refine vS.enter Z0 call163 func163 rfl 18 rfl rfl [.tmp 2] rfl ?_;intro w0 F η0 h0;conv=>whnf
 refine vZ.go Z0 [3,6,7] (X:=Nat) (fun i=>i<=xs.length/\oG xs=oG (xs.drop i)) (fun i=>[(8, .int .i64 (i:Int))]) (fun i=>[]) 1 (fun i=>xs.length-i) 0 ⟨by omega,rfl⟩ ?_;conv=>whnf
 refine⟨by exact vU.cA h0,?_⟩;rintro i ⟨hi,ho⟩;conv=>whnf
 repeat'(first|refine GET.at (row:=Ll (xs[i]'(by omega))) (by rw[z6,show 0+(i:Int).toNat=i by omega,z1 (by omega)];rfl) ?_|refine AU ?_|refine IW ?_ ?_<;>intro h<;>try omega)<;>conv=>whnf
 .have hl:i<xs.length:=by omega
  refine u0.ua h0 rfl (z8 (SV.int _) ?_);rw[ho,zm hl];simp only[oG];rw[zf h]
 .have hl:i<xs.length:=by omega
  refine⟨i+1,⟨by omega,?_⟩,by omega,?_⟩;rw[ho,zm hl];simp only[oG];rw[z7 (by simpa using h)]
  .conv=>whnf
   exact vU.cA h0
 .refine u0.ua h0 rfl (z8 (SV.int _) ?_);rw[ho,zN (by omega)];rfl
open _root_.Go.Proofs.Tryz
theorem Lo{s:List UInt8}{i:Nat}{c:UInt8}(h:i<s.length):Z1 s i=(c.toNat:Int)<->s[i]?=some c:=by
 unfold Z1;rw[Int.toNat_natCast,List.getD,z1 h];simp only[Option.getD_some,zi];constructor
 intro h1;exact UInt8.toNat_inj.1 (by omega);intro h1;rw[h1]
theorem Z8v(s:List UInt8)(hs:s.length<=34359738368):vS prog uf 285 0 [.str s] [] [] (mK 1 ((Zu s).map Zf)):=by
 have hlen:=FY s;refine vS.enter Z0 call285 func285 rfl 31 rfl rfl [.tmp 2] rfl ?_;intro w0 F η0 h0;conv=>whnf
 refine vZ.nil 3 1 rfl ?_;refine vZ.go Z0 [0] (X:=List (List UInt8)×Nat×Nat) (fun y=>y.2.1<=y.2.2/\y.2.2<=s.length/\Zu s=y.1++Zu (s.drop y.2.1)/\∀c∈(s.drop y.2.1).take (y.2.2-y.2.1),c≠45) (fun y=>[(3, .sl (.loc 0) 0 1 y.1.length none),(4, .int .i64 (y.2.1:Int)),(5, .int .i64 (y.2.2:Int))]) (fun y=>[(0, .rows 1 (y.1.map Zf))]) 1 (fun y=>s.length-y.2.2) ([],0,0) ⟨by simp,by simp,by simp,by simp⟩ ?_;conv=>whnf
 refine⟨by exact vU.kA h0 [0],?_⟩;rintro⟨l,f,i⟩ ⟨hf,hi,he,hn⟩;dsimp only at hf hi he hn⊢;have hl:l.length+(Zu (s.drop f)).length=(Zu s).length:=by rw[he,zh]
 have kz:1<=(Zu (s.drop f)).length:=by have:=Jj (s.drop f);omega
 conv=>whnf
 repeat'(first|refine AU ?_|refine IW ?_ ?_<;>intro h<;>try omega)<;>conv=>whnf
 .have h45:(s.drop f)[i-f]?=some 45:=by rw[y6,show f+(i-f)=i by omega];exact(Lo (c:=45) (by omega)).1 h
  have hc:=L8 _ _ hn h45;rw[yB,show f+(i-f+1)=i+1 by omega]at hc;refine⟨(l++ [(s.drop f).take (i-f)],i+1,i+1),⟨by simp only;omega,by simp only;omega,by simp only;rw[he,hc];simp,by simp⟩,by simp only;omega,?_⟩;dsimp only;rw[show(l++ [(s.drop f).take (i-f)]).length=l.length+1 by simp];conv=>whnf
  exact vU.kA h0 [2]
 .refine⟨(l,f,i+1),⟨by simp only;omega,by simp only;omega,he,?_⟩,by simp only;omega,?_⟩
  .dsimp only;intro c hc;have hlt:i-f< (s.drop f).length:=by rw[zD];omega
   rw[show i+1-f=(i-f)+1 by omega,zH hlt]at hc;rcases zQ.1 hc with hc|hc
   exact hn c hc
   .have hc:=zI.1 hc;rintro rfl;refine h ((Lo (c:=45) (by omega)).2 ?_);have h1:(s.drop f)[i-f]?=some 45:=by rw[z1 hlt,<-hc]
    rwa [y6,show f+(i-f)=i by omega]at h1
  .dsimp only;conv=>whnf
   exact vU.kA h0 [0]
 .have hc:Zu (s.drop f)=[s.drop f]:=by
   refine L9 _ fun c hc=>hn c ?_;rwa [zg (by rw[zD];omega)]
  rw[he,hc]at*;refine u0.rows h0 2 1 (l.length+1) rfl rfl rfl (by simp[VN,ZD,Yj,Zj,YJ,plain,zg]) ⟨by simp,?_,rfl⟩;simp[Zf,zg]
theorem J2(ps:List (List UInt8))(hb:JC ps+ps.length<=68719476736)(a m:Nat)(H9:a+m=ps.length):vS prog uf 305 1 [.sl (.loc 0) a 1 m none] [] [(0, .rows 1 (ps.map Zf))]
 (fun r O nx=> ∃s,s.length<=JC ps+ps.length/\(∀p,ps[a]?=some p->∃t,s=p++t)/\r= .str s/\O=[]/\nx=1):=by
 refine vS.enter Z0 call305 func305 rfl 24 rfl rfl [.tmp 2] rfl ?_;intro w0 F η0 h0;conv=>whnf
 refine vZ.nil 3 1 rfl ?_;refine vZ.go Z0 [0] (X:=Nat×List UInt8) (fun y=>y.1<=m/\y.2.length<=((ps.take (a+y.1)).map List.length).sum+y.1/\(y.1≠0->∀p,ps[a]?=some p->∃t,y.2=p++t)/\(y.1=0->y.2=[])) (fun y=>[(3, .sl (.loc 1) 0 1 y.2.length none),(4, .int .i64 (y.1:Int))]) (fun y=>[(1, .rows 1 (y.2.map Sx.bytesRow))]) 2 (fun y=>m-y.1) (0,[]) ⟨by simp,by simp,by simp,by simp⟩ ?_;conv=>whnf
 refine⟨by exact vU.kA h0 [1],?_⟩;rintro⟨c,b⟩ ⟨hc,hl,hp,rD⟩;dsimp only at hc hl hp rD⊢;have Lp:=YO ps (a+c);rcases zY c m with CN|CN
 .have hlt:a+c<ps.length:=by omega
  have hs1:=WT (z1 hlt);have hs2:=YO ps (a+c+1)
  have key:∀b':List UInt8,(c=0->b'=[])->(c≠0->∃t,b'=b++t)->∀p,ps[a]?=some p->∃t,b'++ps[a+c]=p++t:=by
   intro b' h1 h2 p hpa;by_cases h:c=0
   .subst h;obtain⟨h3,h4⟩:=ze.1 hpa;exact⟨[],by rw[h1 rfl,<-h4];simp⟩
   .obtain⟨t,ht⟩:=hp h p hpa;obtain⟨t',ht'⟩:=h2 h;exact⟨t++t'++ps[a+c],by rw[ht',ht];simp⟩
  conv=>whnf
  repeat'(first|refine GET.at (row:=Zf (ps[a+c]'(by omega))) (by rw[z6,show a+(c:Int).toNat=a+c by omega,z1 (by omega)];rfl) ?_|refine AU ?_|refine IW ?_ ?_<;>intro h<;>try omega)<;>conv=>whnf
  .refine⟨(c+1,b++ [45]++ps[a+c]),⟨by simp only;omega,?_,fun _=>key _ (fun h1=>by omega) (fun _=>⟨[45],rfl⟩),by simp⟩,by simp only;omega,?_⟩
   .simp only[zh,List.length_cons,List.length_nil];rw[show a+(c+1)=a+c+1 by omega,hs1];omega
   .dsimp only;have e:(b++ [45]++ps[a+c]).length=b.length+1+ps[a+c].length:=by simp;omega
    rw[e];conv=>whnf
    exact vU.kA h0 [4]
  .refine⟨(c+1,b++ps[a+c]),⟨by simp only;omega,?_,fun _=>key _ (fun h1=>rD h1) (fun h1=>by omega),by simp⟩,by simp only;omega,?_⟩
   .simp only[zh];rw[show a+(c+1)=a+c+1 by omega,hs1];omega
   .dsimp only;have e:(b++ps[a+c]).length=b.length+ps[a+c].length:=by simp
    rw[e];conv=>whnf
    exact vU.kA h0 [2]
 .conv=>whnf
  repeat'(first|refine IW ?_ ?_<;>intro h<;>try omega)<;>conv=>whnf
  refine u6.mk (Uk (by simp)) ?_;conv=>whnf
  refine u0.val h0 rfl ⟨b,by omega,fun p hpa=>?_,by rw[DA],rfl,rfl⟩;have:=(ze.1 hpa).1;exact hp (by omega) p hpa
open _root_.Go.Proofs.Tryz
def eS(i m:Nat):Hp:= .box [.sl (.loc 1) i 1 m none]
def gw(L E S R:List UInt8)(jv v jx x:Nat)(P:List UInt8):Hp:= .box [.str L, .str E, .str S, .str R, .sl (.loc jv) 0 1 v none, .sl (.loc jx) 0 1 x none, .str P]
theorem JD(least most:Int)(digits:Bool)(ps:List (List UInt8))(wS:∀s∈ps,Sm s)(i m:Nat)(him:i+m=ps.length):
 vS prog uf 288 2 [.ptr (.loc 0) 0 0 0, .int .i64 least, .int .i64 most, .bool digits] [] [(0,eS i m),(1, .rows 1 (ps.map Zf))] (w6 2 (.bool (YB (oa least most digits) ps i))):=by
 refine vS.enter Z0 call288 func288 rfl 52 rfl rfl [.tmp 8] rfl ?_;intro w0 F η0 h0;conv=>whnf
 rcases xx m with hm|hm
 .subst hm;repeat'(first|refine gZ.mk ⟨Zf [],fun h=>(by simp at h),?_⟩|refine AU ?_|refine IW ?_ ?_<;>intro h<;>try omega)<;>conv=>whnf
  all_goals first
   |(refine u0.ua h0 rfl (z8 SV.bool ?_)
     unfold YB;rw[zW (by omega)])
   |(exfalso;simp_all;done)
 .have hlt:i<ps.length:=by omega
  have fe:YB (oa least most digits) ps i=oa least most digits ps[i]:=by unfold YB;rw[z1 hlt]
  have hs:=wS _ (zk hlt);repeat'(first|refine GET.at (row:=Zf (ps[i]'(by omega))) (by rw[z6,show i+(0:Int).toNat=i by simp,z1 (by omega)];rfl) ?_|refine gZ.at (row:=Zf (ps[i]'(by omega))) (by rw[z6,show i+(0:Int).toNat=i by simp,z1 (by omega)];rfl) ?_|refine CALL.value (WX _ hs) rfl rfl ?_|refine CALL.value (Vn _ hs) rfl rfl ?_|refine AU ?_|refine IW ?_ ?_<;>intro h<;>try omega)<;>conv=>whnf
  all_goals
   refine u0.ua h0 rfl (z8 SV.bool ?_);rw[fe];unfold oa
  rw[show decide (least<=(ps[i].length:Int)/\(ps[i].length:Int)<=most)=false from y5 (by omega)];rfl;rw[show decide (least<=(ps[i].length:Int)/\(ps[i].length:Int)<=most)=true from yq (by omega)];simp[h];rw[show decide (least<=(ps[i].length:Int)/\(ps[i].length:Int)<=most)=true from yq (by omega)];simp[h]
theorem YP(ps:List (List UInt8))(i m:Nat)(him:i+(m+1)=ps.length)(p:List UInt8)(hp:ps[i]?=some p):
 vS prog uf 289 2 [.ptr (.loc 0) 0 0 0] [(0,eS i (m+1))] [(1, .rows 1 (ps.map Zf))] (fun r O nx=>r= .str p/\O=[(0,eS (i+1) m)]/\nx=2):=by
 refine vS.enter Z0 call289 func289 rfl 19 rfl rfl [.tmp 2] rfl ?_;intro w0 F η0 h0;conv=>whnf
 repeat'(first|refine GET.at (row:=Zf p) (by rw[z6,show i+(0:Int).toNat=i by simp,hp];rfl) ?_|refine AU ?_)<;>conv=>whnf
 exact u0.here h0 (Oc:=[(0,eS (i+1) m)]) rfl rfl rfl ⟨rfl,trivial⟩ ⟨rfl,rfl,rfl⟩
theorem Lq{b:Nat}:∀{l:List (List UInt8)},(∀s∈l,s.length<=b)->JC l<=b*l.length
 | [],_=>by simp[JC]
 |s::l,h=>by
  have h1:=h s (by simp);have h2:=Lq (l:=l) fun x hx=>h x (by simp[hx]);unfold JC at*;simp only[zG,List.sum_cons,List.length_cons,Nat.mul_add];omega
theorem ZjW:oa 3 3 false=fun s=>ZH s 3 3 true:=funext (J0 3 3)
theorem Z4U(ps:List (List UInt8))(hb:JC ps+ps.length<=68719476736)(i m:Nat)(him:i+m=ps.length):
 vS prog uf 287 5 [.ptr (.loc 0) 0 0 0, .ptr (.loc 2) 0 0 0] [(0,eS i m),(2,gw [] [] [] [] 3 0 4 0 [])] [(1, .rows 1 (ps.map Zf))]
  (fun r O nx=> ∃(i' m':Nat) (L E:List UInt8),i'+m'=ps.length/\r= .bool (JK (ps.drop i)).isSome/\(∀l,JK (ps.drop i)=some l->l=ps.drop i'/\L≠ [])/\O=[(0,eS i' m'),(2,gw L E [] [] 3 0 4 0 [])]/\nx=5):=by
 have wS:=tF (ps:=ps) (by omega);refine vS.enter Z0 call287 func287 rfl 41 rfl rfl [.tmp 4] rfl ?_;intro w0 F η0 h0;conv=>whnf
 refine CALL.aA [0,1] (JD 2 3 false ps wS i m him) ?_;rintro r O' vW ⟨rfl,rfl,rfl⟩;conv=>whnf
 refine IF.mk (fun h1=>?_) (fun h1=>?_)
 .obtain⟨w,hw,gu⟩:=ZN h1;rw[J0]at gu;have oH:=Jo gu;have hlt:=(ze.1 hw).1;obtain⟨k,rfl⟩:∃k,m=k+1:=⟨m-1,by omega⟩;have hne:w≠ []:=by rintro rfl;simp at oH
  have hL:JK (ps.drop i)=some (jy 3 (ps.drop (i+1))):=by
   rw[ZX hw];simp only[JK];rw[zf (by rw[CC,J0,gu];rfl),z7 (by omega)]
  conv=>whnf
  refine CALL.aA [0,1] (YP ps i k him w hw) ?_;rintro r O' vW ⟨rfl,rfl,rfl⟩;conv=>whnf
  refine vZ.nil 5 1 rfl ?_;refine vZ.go Z0 [0,1] (X:=List (List UInt8)×Nat) (fun y=>y.1.length<=3/\(∀s∈y.1,s.length<=3)/\y.2+(ps.length-y.2)=ps.length/\jy 3 (ps.drop (i+1))=jy (3-y.1.length) (ps.drop y.2)) (fun y=>[(5, .sl (.loc 5) 0 1 y.1.length none)]) (fun y=>[(0,eS y.2 (ps.length-y.2)),(2,gw w [] [] [] 3 0 4 0 []),(5, .rows 1 (y.1.map Zf))]) 6 (fun y=>3-y.1.length) ([],i+1) ⟨by simp,by simp,by simp only;omega,rfl⟩ ?_;conv=>whnf
  rw[show ps.length-(i+1)=k by omega];refine⟨by exact vU.kA h0 [5],?_⟩;rintro⟨l,a⟩ ⟨hl,hls,ha,hx⟩;dsimp only at hl hls ha hx⊢
  have fin:YB (fun s=>ZH s 3 3 true) ps a=false\/l.length=3->jy 3 (ps.drop (i+1))=ps.drop a:=by
   rintro(h|h);rw[hx,Lj h];rw[hx,h];rfl
  have kP:=Lq hls;conv=>whnf
  refine IF.mk (fun h=>?_) (fun h=>?_)
  .have h:l.length<3:=by simp at h;omega
   conv=>whnf
   repeat'(first|refine AU ?_)<;>conv=>whnf
   refine CALL.aA [0,1] (JD 3 3 false ps wS a (ps.length-a) ha) ?_;rintro r O' vW ⟨rfl,rfl,rfl⟩;conv=>whnf
   repeat'(first|refine IW ?_ ?_<;>intro h<;>try omega)<;>conv=>whnf
   .obtain⟨u,hu,CO⟩:=ZN h;rw[J0]at CO;have iZ:=Jo CO;have mX:=(ze.1 hu).1;obtain⟨k',hk'⟩:∃k',ps.length-a=k'+1:=⟨ps.length-a-1,by omega⟩;rw[hk'];refine CALL.aA [0,1] (YP ps a k' (by omega) u hu) ?_;rintro r O' vW ⟨rfl,rfl,rfl⟩;conv=>whnf
    repeat'(first|refine AU ?_)<;>conv=>whnf
    refine⟨(l++ [u],a+1),⟨by simp;omega,?_,by simp only;omega,?_⟩,by simp;omega,?_⟩
    .intro x hx';rcases zQ.1 hx' with h|h
     exact hls x h;rw[zI.1 h];omega
    .dsimp only;rw[hx,ZX hu,show 3-l.length=(3-(l++ [u]).length)+1 by simp;omega];simp only[jy];rw[zf CO]
    .dsimp only;rw[show ps.length-(a+1)=k' by omega,show(l++ [u]).length=l.length+1 by simp];conv=>whnf
     exact vU.kA h0 [7]
   .rw[ZjW]at h;refine CALL.aA [5] (J2 l (by omega) 0 l.length (by omega)) ?_;rintro r O' vW ⟨E,hE,_,rfl,rfl,rfl⟩;conv=>whnf
    exact u0.here h0 (Oc:=[(0,eS (a) (ps.length-a)),(2,gw (w) (E) [] [] 3 0 4 0 [])]) rfl rfl rfl ⟨rfl,rfl,trivial⟩ ⟨a,ps.length-a,w,E,by omega,by rw[hL];rfl,by rw[hL];rintro x ⟨⟩;exact⟨fin (.inl h),hne⟩,rfl,rfl⟩
  .have h:l.length=3:=by simp at h;omega
   conv=>whnf
   repeat'(first|refine AU ?_)<;>conv=>whnf
   refine CALL.aA [5] (J2 l (by omega) 0 l.length (by omega)) ?_;rintro r O' vW ⟨E,hE,_,rfl,rfl,rfl⟩;conv=>whnf
   exact u0.here h0 (Oc:=[(0,eS (a) (ps.length-a)),(2,gw (w) (E) [] [] 3 0 4 0 [])]) rfl rfl rfl ⟨rfl,rfl,trivial⟩ ⟨a,ps.length-a,w,E,by omega,by rw[hL];rfl,by rw[hL];rintro x ⟨⟩;exact⟨fin (.inr h),hne⟩,rfl,rfl⟩
 .conv=>whnf
  refine CALL.aA [0,1] (JD 4 8 false ps wS i m him) ?_;rintro r O' vW ⟨rfl,rfl,rfl⟩;conv=>whnf
  refine IF.mk (fun h2=>?_) (fun h2=>?_)
  .obtain⟨w,hw,gu⟩:=ZN h2;have CP:=gu;rw[J0]at gu;have oH:=Jo gu;have hlt:=(ze.1 hw).1;obtain⟨k,rfl⟩:∃k,m=k+1:=⟨m-1,by omega⟩;have hne:w≠ []:=by rintro rfl;simp at oH
   have hL:JK (ps.drop i)=some (ps.drop (i+1)):=by
    rw[ZX hw];simp only[JK];rw[zf (by rw[CC,CP,Bool.or_true]),zf (by omega)]
   conv=>whnf
   refine CALL.aA [0,1] (YP ps i k him w hw) ?_;rintro r O' vW ⟨rfl,rfl,rfl⟩;conv=>whnf
   exact u0.here h0 (Oc:=[(0,eS (i+1) (k)),(2,gw (w) ([]) [] [] 3 0 4 0 [])]) rfl rfl rfl ⟨rfl,rfl,trivial⟩ ⟨i+1,k,w,[],by omega,by rw[hL];rfl,by rw[hL];rintro x ⟨⟩;exact⟨rfl,hne⟩,rfl,rfl⟩
  .have hL:JK (ps.drop i)=none:=by
    rcases XC h1 with h|⟨s,hs,h3,h4⟩
    rw[h];rfl
    .rcases XC h2 with h|⟨s',hs',h5,h6⟩
     rw[h]at h3;cases h3
     .rw[hs]at hs';cases hs';rw[h3];simp only[JK];rw[z7 (by rw[CC,h4,h6];simp)]
   conv=>whnf
   exact u0.here h0 (Oc:=[(0,eS (i) (m)),(2,gw ([]) ([]) [] [] 3 0 4 0 [])]) rfl rfl rfl ⟨rfl,rfl,trivial⟩ ⟨i,m,[],[],by omega,by rw[hL];rfl,by simp[hL],rfl,rfl⟩
open _root_.Go.Proofs.Tryz
def Lr:uu:=(Zs [(0,1),(1,1),(2,1),(4,1),(9,1),(10,1),(3,2),(5,1),(6,2),(7,1),(11,2),(8,3),(12,3),(13,1)])
def Lt:uu:=(Zs [(0,1),(1,1),(2,1),(3,1),(5,1),(4,2),(6,3),(7,3),(8,0),(9,1),(10,1),(11,0)])
def wX(xs:List (List UInt8))(w:List UInt8):Bool:=xs.any fun x=>Z7 (x.take 1)==Z7 w
theorem He{xs:List (List UInt8)}{w:List UInt8}{i:Nat}(h:i<xs.length):wX (xs.drop i) w=(Z7 (xs[i].take 1)==Z7 w||wX (xs.drop (i+1)) w):=by
 unfold wX;rw[zm h];rfl
theorem W7(ps:List (List UInt8))(hb:JC ps+ps.length<=34359738368)(a m:Nat)(H9:a+(m+1)=ps.length)(w:List UInt8)(hw:ps[a]?=some w)(hw1:w.length=1)
 (L E S R:List UInt8) (v:Nat) (P:List UInt8) (xs:List (List UInt8)) (hxs:∀x∈xs,1<=x.length/\Sm x) (hxl:xs.length<=34359738368):
 vS prog uf 292 5 [.ptr (.loc 0) 0 0 0, .ptr (.loc 2) 0 0 0] [(0,eS a (m+1)),(2,gw L E S R 3 v 4 xs.length P),(4, .rows 1 (xs.map Zf))] [(1, .rows 1 (ps.map Zf))]
  (fun r O nx=> ∃(n:Nat) (xs':List (List UInt8)),n=ZW (YK 2) (ps.drop (a+1))/\r= .bool (!wX xs w&&decide (n≠0))/\(wX xs w=false->∃z,xs'=xs++ [z]/\z.take 1=w/\Sm z)/\
    O=[(0,eS (a+1+n) (m-n)),(2,gw L E S R 3 v 5 xs'.length P),(5, .rows 1 (xs'.map Zf))]/\nx=6):=by
 have wS:=tF (ps:=ps) (by omega);have oH:Sm w:=wS w (zV hw);refine vS.enter Z0 call292 func292 rfl 69 rfl rfl [.tmp 4] rfl ?_;intro w0 F η0 h0;conv=>whnf
 refine CALL.aA [0,1] (YP ps a m H9 w hw) ?_;rintro r O' vW ⟨rfl,rfl,rfl⟩;conv=>whnf
 refine vZ.go Z0 [0,1] (X:=Nat×List (List UInt8)) (fun y=>y.1<=m/\y.2.length=y.1+1/\y.2[0]?=some w/\JC y.2<=((ps.take (a+1+y.1)).map List.length).sum/\ZW (YK 2) (ps.drop (a+1))=y.1+ZW (YK 2) (ps.drop (a+1+y.1))) (fun y=>[(5, .sl (.loc 5) 0 1 y.2.length none)]) (fun y=>[(0,eS (a+1+y.1) (m-y.1)),(2,gw L E S R 3 v 4 xs.length P),(4, .rows 1 (xs.map Zf)),(5, .rows 1 (y.2.map Zf))]) 6 (fun y=>m-y.1) (0,[w]) ⟨by simp,by simp,by simp,?_,by simp⟩ ?_
 .simp only[Nat.add_zero];rw[WT hw];simp[JC]
 conv=>whnf
 refine⟨by exact vU.kA h0 [5],?_⟩;rintro⟨c,l⟩ ⟨hc,hl,hl0,hlb,hx⟩;dsimp only at hc hl hl0 hlb hx⊢;have z4u:=YO ps (a+1+c);have out:∀(n:Nat),ZW (YK 2) (ps.drop (a+1+c))=0->ZW (YK 2) (ps.drop (a+1))=c:=by intro n h;omega
 conv=>whnf
 rcases zY c m with CN|CN
 .have hlt:a+1+c<ps.length:=by omega
  have hs:=wS _ (zk hlt);have hs1:=WT (z1 hlt);repeat'(first|refine GET.at (row:=Zf (ps[a+1+c]'(by omega))) (by rw[z6,show a+1+c+(0:Int).toNat=a+1+c by simp,z1 (by omega)];rfl) ?_|refine CALL.value (Vo _ _ _ hs) rfl rfl ?_|refine AU ?_|refine IW ?_ ?_<;>intro h<;>try omega)<;>conv=>whnf
  .obtain⟨k',hk'⟩:∃k',m-c=k'+1:=⟨m-c-1,by omega⟩;rw[hk'];refine CALL.aA [0,1] (YP ps (a+1+c) k' (by omega) _ (z1 hlt)) ?_;rintro r O' vW ⟨rfl,rfl,rfl⟩;conv=>whnf
   repeat'(first|refine AU ?_)<;>conv=>whnf
   have e:(l++ [ps[a+1+c]]).length=l.length+1:=by simp
   refine⟨(c+1,l++ [ps[a+1+c]]),⟨by simp only;omega,by simp;omega,by simp only;rw[zn (by omega),hl0],?_,?_⟩,by simp only;omega,?_⟩
   .simp only;rw[show a+1+(c+1)=a+1+c+1 by omega,hs1];simp[JC]at hlb⊢;omega
   .simp only;rw[hx,zm hlt];simp only[ZW];rw[zf h];show c+(ZW _ _+1)=_
    rw[show a+1+(c+1)=a+1+c+1 by omega];omega
   .dsimp only;rw[e,show a+1+(c+1)=a+1+c+1 by omega,show m-(c+1)=k' by omega];conv=>whnf
    exact vU.kA h0 [7]
  .have hn:ZW (YK 2) (ps.drop (a+1))=c:=by
    rw[hx,zm hlt];simp only[ZW];rw[z7 (by simp[h])];rfl
   refine vZ.go Z0 [1,5] (X:=Nat) (fun i=>i<=xs.length/\wX xs w=wX (xs.drop i) w) (fun i=>[(7, .int .i64 (i:Int))]) (fun i=>[(0,eS (a+1+c) (m-c)),(2,gw L E S R 3 v 4 xs.length P),(4, .rows 1 (xs.map Zf)),(5, .rows 1 (l.map Zf))]) 6 (fun i=>xs.length-i) 0 ⟨by omega,rfl⟩ ?_;conv=>whnf
   refine⟨by exact vU.kA h0 [5],?_⟩;rintro i ⟨hi,hd⟩;dsimp only at hi hd⊢;conv=>whnf
   rcases zY i xs.length with him|him
   .obtain⟨hx1,hx2⟩:=hxs _ (zk him);have hsub:Sm (xs[i].take (1:Int).toNat):=by simp;omega
    repeat'(first|refine Z4 8 Lr ?_|refine wh.mk (fun _ _=>?_)|refine AD ?_|refine GET.at (row:=Zf (xs[i]'(by omega))) (by rw[z6,show 0+(i:Int).toNat=i by simp,z1 (by omega)];rfl) ?_|refine GET.at (row:=Zf w) (by rw[z6,show 0+(0:Int).toNat=0 by simp,hl0];rfl) ?_|refine CALL.value (YE _ hsub) rfl rfl ?_|refine CALL.value (YE _ oH) rfl rfl ?_|refine AU ?_|refine IW ?_ ?_<;>intro h<;>try omega)<;>conv=>whnf
    .have dQ:wX xs w=true:=by rw[hd,He him,xh.2 h];rfl
     refine u0.aA h0 [4] (.bool false) [(0,eS (a+1+c) (m-c)),(2,gw L E S R 3 v 5 xs.length P),(5, .rows 1 (xs.map Zf))] ?_;exact⟨c,xs,hn.symm,by rw[dQ];rfl,by simp[dQ],rfl,rfl⟩
    .refine⟨i+1,⟨by omega,?_⟩,by omega,?_⟩
     .rw[hd,He him];have:(Z7 (xs[i].take 1)==Z7 w)=false:=by simpa using h
      rw[this,xE]
     .conv=>whnf
      exact vU.kA h0 [5]
   .have dQ:wX xs w=false:=by rw[hd,zN (by omega)];rfl
    repeat'(first|refine Z4 10 Lt ?_|refine wh.mk (fun _ _=>?_)|refine AD ?_|refine IW ?_ ?_<;>intro h<;>try omega)<;>conv=>whnf
    refine CALL.aA [5] (J2 l (by omega) 0 l.length (by omega)) ?_;rintro r O' vW ⟨z,hz,CQ,rfl,rfl,rfl⟩;conv=>whnf
    repeat'(first|refine wh.mk (fun _ _=>?_)|refine AU ?_)<;>conv=>whnf
    obtain⟨t,rfl⟩:=CQ w hl0;have e:(xs++ [w++t]).length=xs.length+1:=by simp
    have ec:decide ((1:Int)< (l.length:Int))=decide (c≠0):=vv.2 (by omega);rw[ec];refine u0.aA h0 [7] (.bool (decide (c≠0))) [(0,eS (a+1+c) (m-c)),(2,gw L E S R 3 v 5 (xs.length+1) P),(5, .rows 1 ((xs++ [w++t]).map Zf))] ?_;exact⟨c,xs++ [w++t],hn.symm,by rw[dQ];rfl,fun _=>⟨_,rfl,by rw[xl (by omega),zg (by omega)],by omega⟩,by rw[e],rfl⟩
 .repeat'(first|refine AU ?_|refine IW ?_ ?_<;>intro h<;>try omega)<;>conv=>whnf
  have hn:ZW (YK 2) (ps.drop (a+1))=c:=by
   rw[hx,zN (by omega)];rfl
  refine vZ.go Z0 [1,5] (X:=Nat) (fun i=>i<=xs.length/\wX xs w=wX (xs.drop i) w) (fun i=>[(7, .int .i64 (i:Int))]) (fun i=>[(0,eS (a+1+c) (m-c)),(2,gw L E S R 3 v 4 xs.length P),(4, .rows 1 (xs.map Zf)),(5, .rows 1 (l.map Zf))]) 6 (fun i=>xs.length-i) 0 ⟨by omega,rfl⟩ ?_;conv=>whnf
  refine⟨by exact vU.kA h0 [5],?_⟩;rintro i ⟨hi,hd⟩;dsimp only at hi hd⊢;conv=>whnf
  rcases zY i xs.length with him|him
  .obtain⟨hx1,hx2⟩:=hxs _ (zk him);have hsub:Sm (xs[i].take (1:Int).toNat):=by simp;omega
   repeat'(first|refine Z4 8 Lr ?_|refine wh.mk (fun _ _=>?_)|refine AD ?_|refine GET.at (row:=Zf (xs[i]'(by omega))) (by rw[z6,show 0+(i:Int).toNat=i by simp,z1 (by omega)];rfl) ?_|refine GET.at (row:=Zf w) (by rw[z6,show 0+(0:Int).toNat=0 by simp,hl0];rfl) ?_|refine CALL.value (YE _ hsub) rfl rfl ?_|refine CALL.value (YE _ oH) rfl rfl ?_|refine AU ?_|refine IW ?_ ?_<;>intro h<;>try omega)<;>conv=>whnf
   .have dQ:wX xs w=true:=by rw[hd,He him,xh.2 h];rfl
    refine u0.aA h0 [4] (.bool false) [(0,eS (a+1+c) (m-c)),(2,gw L E S R 3 v 5 xs.length P),(5, .rows 1 (xs.map Zf))] ?_;exact⟨c,xs,hn.symm,by rw[dQ];rfl,by simp[dQ],rfl,rfl⟩
   .refine⟨i+1,⟨by omega,?_⟩,by omega,?_⟩
    .rw[hd,He him];have:(Z7 (xs[i].take 1)==Z7 w)=false:=by simpa using h
     rw[this,xE]
    .conv=>whnf
     exact vU.kA h0 [5]
  .have dQ:wX xs w=false:=by rw[hd,zN (by omega)];rfl
   repeat'(first|refine Z4 10 Lt ?_|refine wh.mk (fun _ _=>?_)|refine AD ?_|refine IW ?_ ?_<;>intro h<;>try omega)<;>conv=>whnf
   refine CALL.aA [5] (J2 l (by omega) 0 l.length (by omega)) ?_;rintro r O' vW ⟨z,hz,CQ,rfl,rfl,rfl⟩;conv=>whnf
   repeat'(first|refine wh.mk (fun _ _=>?_)|refine AU ?_)<;>conv=>whnf
   obtain⟨t,rfl⟩:=CQ w hl0;have e:(xs++ [w++t]).length=xs.length+1:=by simp
   have ec:decide ((1:Int)< (l.length:Int))=decide (c≠0):=vv.2 (by omega);rw[ec];refine u0.aA h0 [7] (.bool (decide (c≠0))) [(0,eS (a+1+c) (m-c)),(2,gw L E S R 3 v 5 (xs.length+1) P),(5, .rows 1 ((xs++ [w++t]).map Zf))] ?_;exact⟨c,xs++ [w++t],hn.symm,by rw[dQ];rfl,fun _=>⟨_,rfl,by rw[xl (by omega),zg (by omega)],by omega⟩,by rw[e],rfl⟩
theorem Lu(ps:List (List UInt8))(hb:JC ps+ps.length<=34359738368)(a m:Nat)(H9:a+m=ps.length)(ha:a<ps.length)
 (L E S R:List UInt8) (v x:Nat) (P:List UInt8):
 vS prog uf 293 5 [.ptr (.loc 0) 0 0 0, .ptr (.loc 2) 0 0 0] [(2,gw L E S R 3 v 4 x P)] [(0,eS a m),(1, .rows 1 (ps.map Zf))]
  (fun r O nx=> ∃P',r= .bool (decide (ZW (YK 1) (ps.drop (a+1))≠0/\ZW (YK 1) (ps.drop (a+1))=(ps.drop (a+1)).length))/\O=[(2,gw L E S R 3 v 4 x P')]/\nx=5):=by
 have wS:=tF (ps:=ps) (by omega);have fZ:=VQ (YK 1) (ps.drop (a+1));rw[zD]at fZ⊢;refine vS.enter Z0 call293 func293 rfl 40 rfl rfl [.tmp 4] rfl ?_;intro w0 F η0 h0;conv=>whnf
 refine CALL.aA [1] (J2 ps (by omega) a m H9) ?_;rintro r O' vW ⟨z,hz,_,rfl,rfl,rfl⟩;conv=>whnf
 refine IF.mk (fun h=>?_) (fun h=>?_)
 .have h:m<2:=by simp at h;omega
  conv=>whnf
  exact u0.here h0 (rc:= .bool _) (Oc:=[(2,gw L E S R 3 v 4 x z)]) rfl rfl rfl ⟨rfl,trivial⟩ ⟨z,z8 SV.bool (y5 (by omega)).symm,rfl,rfl⟩
 have h:2<=m:=by simp at h;omega
 conv=>whnf
 refine vZ.go Z0 [0] (X:=Nat) (fun i=>1<=i/\i<=m/\ZW (YK 1) (ps.drop (a+1))=(i-1)+ZW (YK 1) (ps.drop (a+i))) (fun i=>[(5, .int .i64 (i:Int))]) (fun i=>[(2,gw L E S R 3 v 4 x z)]) 5 (fun i=>m-i) 1 ⟨by omega,by omega,by simp⟩ ?_;conv=>whnf
 refine⟨by exact vU.cA h0,?_⟩;rintro i ⟨hi1,hi,hx⟩;dsimp only at hi1 hi hx⊢;conv=>whnf
 rcases zY i m with him|him
 .have hlt:a+i<ps.length:=by omega
  have hs:=wS _ (zk hlt);rw[zm hlt]at hx;simp only[ZW]at hx;repeat'(first|refine GET.at (row:=Zf (ps[a+i]'(by omega))) (by rw[z6,show a+(i:Int).toNat=a+i by simp,z1 (by omega)];rfl) ?_|refine CALL.value (Vo _ _ _ hs) rfl rfl ?_|refine AU ?_|refine IW ?_ ?_<;>intro h<;>try omega)<;>conv=>whnf
  .rw[z7 (by simp[YK,h])]at hx;exact u0.here h0 (rc:= .bool _) (Oc:=[(2,gw L E S R 3 v 4 x z)]) rfl rfl rfl ⟨rfl,trivial⟩ ⟨z,z8 SV.bool (y5 (by omega)).symm,rfl,rfl⟩
  .rw[zf (by simp[YK,h])]at hx;refine⟨i+1,⟨by omega,by omega,by rw[hx,show a+(i+1)=a+i+1 by omega];omega⟩,by omega,?_⟩;conv=>whnf
   exact vU.cA h0
 .rw[show ps.drop (a+i)=[]from zN (by omega)]at hx;simp only[ZW]at hx;repeat'(first|refine IW ?_ ?_<;>intro h<;>try omega)<;>conv=>whnf
  exact u0.here h0 (rc:= .bool _) (Oc:=[(2,gw L E S R 3 v 4 x z)]) rfl rfl rfl ⟨rfl,trivial⟩ ⟨z,z8 SV.bool (yq (by omega)).symm,rfl,rfl⟩
end Go.Proofs.YtlcbipfmodcedaaGreatDoor
