/- Part 16: Split1, Tag1, Tag2, Tag5, Tag6, Tag7. Conditions: as each part says. -/
import Derived.Test.YtlcbipfmodcedaaGreatDoorRfn14
import Derived.Test.YtlcbipfmodcedaaGreatDoorRfn15
set_option linter.unusedVariables false
set_option linter.unusedSimpArgs false
set_option maxRecDepth 20000
set_option maxHeartbeats 8000000
namespace Go.Proofs.YtlcbipfmodcedaaGreatDoor
open Go.Sx Go.Our
open Tryz
theorem Z28(s:List UInt8)(c:Int):Does prog tab 313 0 [.str s, .int .u8 c] [] [] (Val (.int .i64 (Lib.countByte s c.toNat.toUInt8:Nat))):=by
 refine Does.says fun η w vs hd=>?_;simp only[DenL,Den]at hd;obtain⟨u,us,rfl,rfl,u',us',rfl,rfl,rfl⟩:=hd;refine⟨_,?_,rfl⟩;rw[run_callFunc_extern func313 (by kernel_rfl) (by kernel_rfl) (by kernel_rfl) (e:=Extern.BytealgCount.count) (by kernel_rfl),Lib.run_countString]
 rfl
theorem Zbk(s:List UInt8):Does prog tab 297 0 [.str s, .str [45]] [] [] (Val (.int .i64 (s.count 45:Nat))):=by
 refine Does.enter Z0 call297 func297 rfl 34 rfl rfl [.tmp 4] rfl ?_;intro w0 F η0 h0;conv=>whnf
 repeat'((first|refine CALL.value (Z28 _ _) rfl rfl ?_|refine AU ?_|(refine IW ?_ ?_<;>intro h<;>try(exfalso;omega)))<;>conv=>whnf)
 all_goals first
  |exact FIN.value h0 rfl rfl
  |(exfalso;simp at*;done)
theorem Z7F(s:List UInt8):Does prog tab 314 0 [.str s, .str [45]] [] [] (Val (.int .i64 (Lib.indexByte s 45))):=by
 refine Does.enter Z0 call314 func314 rfl 143 rfl rfl [.tmp 4] rfl ?_;intro w0 F η0 h0;conv=>whnf
 repeat'((first|refine CALL.value (JP _ _) rfl rfl ?_|refine CALL.value (UB _ _) rfl rfl ?_|refine CALL.value (VK _ _) rfl rfl ?_|refine AU ?_|(refine IW ?_ ?_<;>intro h<;>try(exfalso;omega)))<;>conv=>whnf)
 all_goals first
  |exact FIN.value h0 rfl rfl
  |(subst h;exact FIN.value h0 rfl rfl)
  |(rcases h with h|h
    ·exact absurd h (by decide)
    ·subst h;exact FIN.value h0 rfl rfl)
  |exact absurd (by assumption:¬((0+1:Nat):Int)=1) (by decide)
theorem Z57(s:List UInt8):Does prog tab 298 0 [.str s, .str [45]] [] [] (Val (.int .i64 (Lib.indexByte s 45))):=by
 refine Does.enter Z0 call298 func298 rfl 8 rfl rfl [.tmp 4] rfl ?_;intro w0 F η0 h0;conv=>whnf
 repeat'((first|refine CALL.value (Z7F _) rfl rfl ?_|refine AU ?_|(refine IW ?_ ?_<;>intro h<;>try(exfalso;omega)))<;>conv=>whnf)
 exact FIN.value h0 rfl rfl
theorem ZeU{l c:Int}{b:Nat}(B:Nat)(hb:Nat.ble b B=true)(h0:0<=l)(h1:l<=c)(h2:(B:Int)*c<=281474976710656/\c<=9223372036854775807):0<=l/\l<=c/\c<=9223372036854775807/\(b:Int)*c<=281474976710656:=
 ⟨h0,h1,h2.2,Int.le_trans (Int.mul_le_mul_of_nonneg_right (by have:=Nat.le_of_ble_eq_true hb;omega) (by omega)) h2.1⟩
theorem Z5Y(s:List UInt8)(hs:s.length<=68719476736):Does prog tab 258 0 [.str s, .str [45], .int .i64 0, .int .i64 (-1)] [] [] (NewS 1 ((Zr s).map Zc)):=by
 have hcnt:=Jn s;have hlen:=Z0C s;have hne:=Z2s s;refine Does.enter Z0 call258 func258 rfl 66 rfl rfl [.tmp 8] rfl ?_;intro w0 F η0 h0;conv=>whnf
 repeat'((first|refine CALL.value (Zbk _) rfl rfl ?_|refine AU ?_|(refine IW ?_ ?_<;>intro h<;>try(exfalso;omega)))<;>conv=>whnf)
 have hn:(if IntKind.i64.wrap ((s.length:Int)+1)<IntKind.i64.wrap (((s.count 45:Nat):Int)+1)then IntKind.i64.wrap ((s.length:Int)+1)else IntKind.i64.wrap (((s.count 45:Nat):Int)+1))=((Zr s).length:Int):=by
  simp(disch:=omega) only[Z9];rw[if_neg (by omega)];omega
 rw[hn];refine NEED.mk (ZeU 16 rfl (by omega) (by omega) (by omega)) ?_;conv=>whnf
 rw[show List.replicate ((Zr s).length:Int).toNat [SV.str []]=Z3K [] (Zr s).length by rw[Int.toNat_natCast];rfl];refine LOOP.go Z0 [1,2,3,9] (X:=List (List UInt8)×List UInt8) (fun x=>Zr s=x.1++Zr x.2/\x.2.length<=s.length) (fun x=>[(10, .int .i64 (x.1.length:Int)),(0, .str x.2)]) (fun x=>[(0, .rows 1 (Z3K x.1 ((Zr s).length-x.1.length)))]) 1 (fun x=>(Zr s).length-x.1.length) ([],s) ⟨rfl,Nat.le_refl _⟩ ?_;conv=>whnf
 refine⟨by(refine GOES.cutting h0 rfl rfl rfl (by first|rfl|(simp only[Zl,Zg,Z2 _ (Z7A _ _),Bool.and_self,Bool.and_true]<;>rfl)) ?_ ?_<;>(repeat'(first|(with_reducible rfl)|(exact X6 rfl (by first|(simp;done)|omega|(simp;omega)))|(exact congrArg (SV.int _) (by first|omega|(simp(disch:=omega) only[lnB,Z9,Zo]<;>omega)|(simp;done)|(simp<;>omega)))|(exact congrArg (Hp.rows _) (by rfl))|((conv=>whnf);refine⟨?_,?_⟩)|exact trivial|rfl))),?_⟩;rintro⟨d,u⟩ ⟨he,hu⟩;dsimp only at he hu⊢;have hd:d.length+(Zr u).length=(Zr s).length:=by rw[he,List.length_append]
 have hun:1<=(Zr u).length:=by have:=Jn u;omega
 have hm:Lib.indexByte u 45= -1/\Zr u=[u]\/∃m:Nat,Lib.indexByte u 45=m/\m<u.length/\Zr u=u.take m::Zr (u.drop (m+1)):=by
  have hge:=Lib.indexByte_ge u 45;by_cases h:Lib.indexByte u 45= -1
  ·exact .inl ⟨h,Z53 h⟩
  ·have e:Lib.indexByte u 45=((Lib.indexByte u 45).toNat:Int):=by omega
   have:=Z54 e;exact .inr ⟨_,e,this.1,this.2⟩
 conv=>whnf
 rcases hm with⟨hm,hs1⟩|⟨m,hm,hml,hs1⟩
 ·have h1:(Zr u).length=1:=by rw[hs1];rfl
  repeat'((first|refine CALL.value (Z57 _) rfl rfl ?_|(refine GET.at (row:=Zc []) (Za6 (by omega) (by omega)) ?_;conv=>whnf)|(refine NEED.mk (by rw[Z9 (by omega) (by omega)];refine⟨by omega,?_⟩;show _<=((max (((Zr s).length:Int).toNat) (_-0):Nat):Int);omega) ?_;conv=>whnf)|refine AU ?_|(refine IW ?_ ?_<;>intro h<;>try(exfalso;omega)))<;>conv=>whnf)
  rw[Za7 (by omega) (by omega)]
  have hw:(IntKind.i64.wrap ((d.length:Int)+1)).toNat=((Zr s).map Zc).length:=by
   rw[Z9 (by omega) (by omega),List.length_map];omega
  rw[hw,show(Zr s).length-d.length-1=0 by omega,show Z3K (d++ [u]) 0=(Zr s).map Zc by rw[he,hs1];simp[Z3K]];exact FIN.rows h0 0 1 _ rfl rfl rfl (Yh _) ⟨rfl,rfl,rfl⟩
 ·have h1:2<=(Zr u).length:=by rw[hs1];have:=Jn (u.drop (m+1));simp;omega
  repeat'((first|refine CALL.value (Z57 _) rfl rfl ?_|(refine GET.at (row:=Zc []) (Za6 (by omega) (by omega)) ?_;conv=>whnf)|refine AU ?_|(refine IW ?_ ?_<;>intro h<;>try(exfalso;omega)))<;>conv=>whnf)
  have hw1:(IntKind.i64.wrap (Lib.indexByte u 45+(([45]:List UInt8).length:Int))).toNat=m+1:=by
   rw[hm];simp only[List.length_cons,List.length_nil];rw[Z9 (by omega) (by omega)];omega
  have hw2:(IntKind.i64.wrap (Lib.indexByte u 45+0)).toNat=m:=by
   rw[hm,Z9 (by omega) (by omega)];omega
  rw[hw1,hw2,Za7 (by omega) (by omega)];refine⟨(d++ [u.take m],u.drop (m+1)),⟨by rw[he,hs1];simp,by simp;omega⟩,by simp;omega,?_⟩;dsimp only;conv=>whnf
  (refine GOES.cutting h0 rfl rfl rfl (by first|rfl|(simp only[Zl,Zg,Z2 _ (Z7A _ _),Bool.and_self,Bool.and_true]<;>rfl)) ?_ ?_<;>(repeat'(first|(with_reducible rfl)|(exact X6 rfl (by first|(simp;done)|omega|(simp;omega)))|(exact congrArg (SV.int _) (by first|omega|(simp(disch:=omega) only[lnB,Z9,Zo]<;>omega)|(simp;done)|(simp<;>omega)))|(exact congrArg (Hp.rows _) (by congr 1;simp;omega))|((conv=>whnf);refine⟨?_,?_⟩)|exact trivial|rfl)))
theorem Zbl(s:List UInt8)(hs:s.length<=68719476736):Does prog tab 209 0 [.str s, .str [45]] [] [] (NewS 1 ((Zr s).map Zc)):=by
 refine Does.enter Z0 call209 func209 rfl 8 rfl rfl [.tmp 4] rfl ?_;intro w0 F η0 h0;conv=>whnf
 refine CALL.newS (Z5Y s hs) rfl (Yh _) ?_;conv=>whnf
 exact FIN.rows h0 0 1 _ rfl rfl rfl (Yh _) ⟨rfl,rfl,rfl⟩
end Go.Proofs.YtlcbipfmodcedaaGreatDoor
namespace Go.Proofs.YtlcbipfmodcedaaGreatDoor
open Go.Sx Go.Our
open Tryz
theorem Zbm(s:List UInt8)(hs:Sm s):Does prog tab 259 0 [.str s] [] [] (Val (.bool (ZD s 2 8 true))):=by
 refine Does.enter Z0 call259 func259 rfl 5 rfl rfl [.tmp 2] rfl ?_;intro w0 F η0 h0;conv=>whnf
 repeat'((first|refine CALL.value (Vh _ _ _ _ hs) rfl rfl ?_|refine AU ?_|(refine IW ?_ ?_<;>intro h<;>try(exfalso;omega)))<;>conv=>whnf)
 exact FIN.value h0 rfl rfl
theorem Zbn(s:List UInt8)(hs:Sm s):Does prog tab 261 0 [.str s] [] [] (Val (.bool (ZD s 3 3 true))):=by
 refine Does.enter Z0 call261 func261 rfl 5 rfl rfl [.tmp 2] rfl ?_;intro w0 F η0 h0;conv=>whnf
 repeat'((first|refine CALL.value (Vh _ _ _ _ hs) rfl rfl ?_|refine AU ?_|(refine IW ?_ ?_<;>intro h<;>try(exfalso;omega)))<;>conv=>whnf)
 exact FIN.value h0 rfl rfl
theorem Zbo(s:List UInt8)(hs:Sm s):Does prog tab 262 0 [.str s] [] [] (Val (.bool (ZD s 4 4 true))):=by
 refine Does.enter Z0 call262 func262 rfl 5 rfl rfl [.tmp 2] rfl ?_;intro w0 F η0 h0;conv=>whnf
 repeat'((first|refine CALL.value (Vh _ _ _ _ hs) rfl rfl ?_|refine AU ?_|(refine IW ?_ ?_<;>intro h<;>try(exfalso;omega)))<;>conv=>whnf)
 exact FIN.value h0 rfl rfl
theorem Ws(s:List UInt8)(hs:Sm s):Does prog tab 266 0 [.str s] [] [] (Val (.bool (Xu s))):=by
 refine Does.enter Z0 call266 func266 rfl 10 rfl rfl [.tmp 2] rfl ?_;intro w0 F η0 h0;conv=>whnf
 repeat'((first|refine CALL.value (Vh _ _ _ _ hs) rfl rfl ?_|refine CALL.value (Vx _) rfl rfl ?_|refine AU ?_|(refine IW ?_ ?_<;>intro h<;>try(exfalso;omega)))<;>conv=>whnf)
 all_goals
  refine FIN.value h0 rfl (congrArg SV.bool ?_);unfold Xu
  simp_all
theorem Z1i(s:List UInt8)(least:Int)(hs:Sm s):Does prog tab 267 1 [.str s, .ptr (.loc 0) 0 0 0] [] [(0, .box [.int .i64 least])] (ValK 1 (.bool (ZD s least 8 false))):=by
 refine Does.enter Z0 call267 func267 rfl 7 rfl rfl [.tmp 3] rfl ?_;intro w0 F η0 h0;conv=>whnf
 repeat'((first|refine CALL.value (Vh _ _ _ _ hs) rfl rfl ?_|refine AU ?_|(refine IW ?_ ?_<;>intro h<;>try(exfalso;omega)))<;>conv=>whnf)
 exact FIN.valueK h0 rfl rfl
def W2(i m:Nat)(L E S R:List UInt8)(v x:Nat)(P:List UInt8):Hp:= .box [.sl (.loc 1) i 1 m none, .str L, .str E, .str S, .str R, .sl (.loc 2) 0 1 v none, .sl (.loc 3) 0 1 x none, .str P]
def WL(i m:Nat)(L E S R:List UInt8)(v x:Nat)(P:List UInt8):Hp:= .box [.sl (.loc 1) i 1 m none, .str L, .str E, .str S, .str R, .any, .any, .str P]
def JB(i m:Nat)(L E S R:List UInt8)(v x:Nat)(P:List UInt8):Hp:= .box [.sl (.loc 1) i 1 m none, .str L, .str E, .str S, .str R, .sl (.loc 4) 0 1 v none, .sl (.loc 5) 0 1 x none, .str P]
def YB(p:List UInt8->Bool)(ps:List (List UInt8))(i:Nat):Bool:=match ps[i]? with|some s=>p s|none=>false
theorem WM{ps:List (List UInt8)}{i:Nat}{p:List UInt8}(h:ps[i]?=some p):((ps.take (i+1)).map List.length).sum=((ps.take i).map List.length).sum+p.length:=by
 obtain⟨h1,rfl⟩:=List.getElem?_eq_some_iff.1 h;rw[List.take_succ_eq_append_getElem h1,List.map_append,List.sum_append];simp
abbrev JC(ps:List (List UInt8)):Nat:=(ps.map List.length).sum
theorem YO(ps:List (List UInt8))(i:Nat):((ps.take i).map List.length).sum<=JC ps:=by
 conv=>rhs;unfold JC;rw[<-List.take_append_drop i ps]
 rw[List.map_append,List.sum_append];omega
theorem Vi(g:Nat)(p:List UInt8->Bool)(ps:List (List UInt8))(hp:∀s∈ps,Does prog tab g 0 [.str s] [] [] (Val (.bool (p s))))(i m:Nat)(him:i+m=ps.length)(L E S R:List UInt8)(v x:Nat)(P:List UInt8):
 Does prog tab 210 4 [.ptr (.loc 0) 0 0 0, .fn (.func g) [] []] [] [(0,W2 i m L E S R v x P),(1, .rows 1 (ps.map Zc))] (ValK 4 (.bool (YB p ps i))):=by
 refine Does.enter Z0 call210 func210 rfl 21 rfl rfl [.tmp 4] rfl ?_;intro w0 F η0 h0;conv=>whnf
 repeat'((first|(refine GET.at (row:=Zc (ps[i]'(by omega))) (by rw[List.getElem?_map,show i+(0:Int).toNat=i by simp,List.getElem?_eq_getElem (by omega)];rfl) ?_;conv=>whnf)|refine CALL.value (hp _ (List.getElem_mem (by omega))) rfl rfl ?_|refine AU ?_|(refine IW ?_ ?_<;>intro h<;>try(exfalso;omega)))<;>conv=>whnf)
 ·refine FIN.valueK h0 rfl (congrArg SV.bool ?_);unfold YB;rw[List.getElem?_eq_getElem (by omega)];rfl
 ·refine FIN.valueK h0 rfl (congrArg SV.bool ?_);unfold YB;rw[List.getElem?_eq_none (by omega)]
theorem Z5Z(least:Int)(ps:List (List UInt8))(hp:∀s∈ps,Sm s)(i m:Nat)(him:i+m=ps.length)(L E S R:List UInt8)(v x:Nat)(P:List UInt8):
 Does prog tab 210 5 [.ptr (.loc 0) 0 0 0, .fn (.func 267) [] [.ptr (.loc 4) 0 0 0]] [] [(0,W2 i m L E S R v x P),(1, .rows 1 (ps.map Zc)),(4, .box [.int .i64 least])] (ValK 5 (.bool (YB (fun s=>ZD s least 8 false) ps i))):=by
 refine Does.enter Z0 call210 func210 rfl 21 rfl rfl [.tmp 4] rfl ?_;intro w0 F η0 h0;conv=>whnf
 repeat'((first|(refine GET.at (row:=Zc (ps[i]'(by omega))) (by rw[List.getElem?_map,show i+(0:Int).toNat=i by simp,List.getElem?_eq_getElem (by omega)];rfl) ?_;conv=>whnf)|(refine CALL.looks [4] (Z1i (ps[i]'(by omega)) least (hp _ (List.getElem_mem (by omega)))) rfl rfl rfl rfl ⟨⟨rfl,rfl,rfl⟩,trivial⟩ ?_;conv=>whnf)|refine AU ?_|(refine IW ?_ ?_<;>intro h<;>try(exfalso;omega)))<;>conv=>whnf)
 ·refine FIN.valueK h0 rfl (congrArg SV.bool ?_);unfold YB;rw[List.getElem?_eq_getElem (by omega)];rfl
 ·refine FIN.valueK h0 rfl (congrArg SV.bool ?_);unfold YB;rw[List.getElem?_eq_none (by omega)]
theorem YC(ps:List (List UInt8))(i m:Nat)(him:i+(m+1)=ps.length)(p:List UInt8)(hp:ps[i]?=some p)(L E S R:List UInt8)(v x:Nat)(P:List UInt8):
 Does prog tab 214 4 [.ptr (.loc 0) 0 0 0] [(0,W2 i (m+1) L E S R v x P)] [(1, .rows 1 (ps.map Zc))] (fun r O nx=>r= .str p/\O=[(0,W2 (i+1) m L E S R v x P)]/\nx=4):=by
 refine Does.enter Z0 call214 func214 rfl 19 rfl rfl [.tmp 2] rfl ?_;intro w0 F η0 h0;conv=>whnf
 repeat'((first|(refine GET.at (row:=Zc p) (by rw[List.getElem?_map,show i+(0:Int).toNat=i by simp,hp];rfl) ?_;conv=>whnf)|refine AU ?_|(refine IW ?_ ?_<;>intro h<;>try(exfalso;omega)))<;>conv=>whnf)
 exact FIN.here h0 (Oc:=[(0,W2 (i+1) m L E S R v x P)]) rfl rfl rfl ⟨rfl,trivial⟩ ⟨rfl,rfl,rfl⟩
theorem Zdi(least:Int)(ps:List (List UInt8))(hb:JC ps+ps.length<=1152921504606846976)(i m:Nat)(him:i+m=ps.length)(L E S R:List UInt8)(v x:Nat)(P:List UInt8):
 Does prog tab 215 4 [.ptr (.loc 0) 0 0 0, .int .i64 least] [(0,W2 i m L E S R v x P)] [(1, .rows 1 (ps.map Zc))]
  (fun r O nx=> ∃(n:Nat) (s:List UInt8),n=ZS (fun s=>ZD s least 8 false) (ps.drop i)/\s.length<=JC ps+ps.length/\r= .tup [.str s, .bool (decide (n≠0))]/\O=[(0,W2 (i+n) (m-n) L E S R v x P)]/\nx=4):=by
 have hsm:∀s∈ps,Sm s:=by
  intro s hs;obtain⟨j,hj,rfl⟩:=List.getElem_of_mem hs;have h1:=WM (List.getElem?_eq_getElem hj);have h2:=YO ps (j+1);omega
 refine Does.enter Z0 call215 func215 rfl 18 rfl rfl [.tmp 4, .tmp 5] rfl ?_;intro w0 F η0 h0;conv=>whnf
 refine LOOP.go Z0 [0,3] (X:=Nat×List UInt8) (fun y=>y.1<=m/\y.2.length<=((ps.take (i+y.1)).map List.length).sum+(i+y.1)/\(y.1=0<->y.2=[])/\ZS (fun s=>ZD s least 8 false) (ps.drop i)=y.1+ZS (fun s=>ZD s least 8 false) (ps.drop (i+y.1))) (fun y=>[(6, .str y.2)]) (fun y=>[(0,W2 (i+y.1) (m-y.1) L E S R v x P),(4, .box [.int .i64 least])]) 5 (fun y=>m-y.1) (0,[]) ⟨by simp,by simp,by simp,by simp⟩ ?_;conv=>whnf
 refine⟨by exact GOES.cA h0,?_⟩;rintro⟨n,s⟩ ⟨hn,hl,h0s,hspan⟩;dsimp only at hn hl h0s hspan⊢;conv=>whnf
 refine CALL.hA (Z5Z least ps hsm (i+n) (m-n) (by omega) L E S R v x P) ?_ ?_
 ·rintro r O' nx' ⟨rfl,rfl,rfl⟩;exact⟨rfl,rfl,rfl⟩
 rintro r O' ⟨rfl,rfl,_⟩;conv=>whnf
 refine⟨fun h=>?_,fun h=>?_⟩
 ·obtain⟨p,hp,hpm⟩:∃p,ps[i+n]?=some p/\ZD p least 8 false=true:=by
   unfold YB at h;cases hp:ps[i+n]? with
   |none=>rw[hp]at h;cases h
   |some p=>rw[hp]at h;exact⟨p,rfl,h⟩
  have hlt:=(List.getElem?_eq_some_iff.1 hp).1;have hs1:=WM hp;have hs2:=YO ps (i+n+1);obtain⟨k,hk⟩:∃k,m-n=k+1:=⟨m-n-1,by omega⟩;rw[hk];conv=>whnf
  refine CALL.hA (YC ps (i+n) k (by omega) p hp L E S R v x P) ?_ ?_
  ·rintro r O' nx' ⟨rfl,rfl,rfl⟩;exact⟨rfl,rfl,rfl⟩
  rintro r O' ⟨rfl,rfl,_⟩;conv=>whnf
  repeat'((first|refine AU ?_|(refine IW ?_ ?_<;>intro h<;>try(exfalso;omega)))<;>conv=>whnf)
  have hsp:ZS (fun s=>ZD s least 8 false) (ps.drop (i+n))=ZS (fun s=>ZD s least 8 false) (ps.drop (i+(n+1)))+1:=by
   rw[List.drop_eq_getElem_cons hlt]
   have:ps[i+n]=p:=by
    have:=List.getElem?_eq_getElem hlt;rw[hp]at this;injection this with this;exact this.symm
   rw[this];simp only[ZS,hpm,if_true]
   rfl
  refine⟨(n+1,s++([45]++p)),⟨by simp only;omega,?_,by simp,by simp only;omega⟩,by simp only;omega,?_⟩
  ·simp only[List.length_append,List.length_cons,List.length_nil];rw[show i+(n+1)=i+n+1 by omega,hs1];omega
  ·dsimp only;rw[show i+(n+1)=i+n+1 by omega,show m-(n+1)=k by omega];conv=>whnf
   exact GOES.cA h0
 ·have hsp:ZS (fun s=>ZD s least 8 false) (ps.drop (i+n))=0:=by
   unfold YB at h;cases hp:ps[i+n]? with
   |none=>rw[List.drop_eq_nil_of_le (by simpa using hp)];rfl
   |some p=>
    rw[hp]at h;have hlt:=(List.getElem?_eq_some_iff.1 hp).1;rw[List.drop_eq_getElem_cons hlt]
    have:ps[i+n]=p:=by
     have:=List.getElem?_eq_getElem hlt;rw[hp]at this;injection this with this;exact this.symm
    rw[this];simp only[ZS];simp only at h;simp[h]
  have hs2:=YO ps (i+n);conv=>whnf
  repeat'((first|refine AU ?_|(refine IW ?_ ?_<;>intro h<;>try(exfalso;omega)))<;>conv=>whnf)
  refine FIN.here h0 (rc:= .tup [.str s, .bool (decide (n≠0))]) (Oc:=[(0,W2 (i+n) (m-n) L E S R v x P)]) ?_ rfl rfl ⟨rfl,trivial⟩ ⟨n,s,by omega,by omega,rfl,rfl,rfl⟩;show SV.tup [SV.str s,SV.bool (s !=[])]=SV.tup [SV.str s,SV.bool (decide (n≠0))]
  have:(s !=[])=decide (n≠0):=by rw[Bool.eq_iff_iff];simp[h0s]
  rw[this]
theorem Zbp(g:Nat)(p:List UInt8->Bool)(ps:List (List UInt8))(hp:∀s∈ps,Does prog tab g 0 [.str s] [] [] (Val (.bool (p s))))(i m:Nat)(him:i+m=ps.length)(L E S R:List UInt8)(v x:Nat)(P:List UInt8):
 Does prog tab 210 4 [.ptr (.loc 0) 0 0 0, .fn (.func g) [] []] [] [(0,WL i m L E S R v x P),(1, .rows 1 (ps.map Zc))] (ValK 4 (.bool (YB p ps i))):=by
 refine Does.enter Z0 call210 func210 rfl 21 rfl rfl [.tmp 4] rfl ?_;intro w0 F η0 h0;conv=>whnf
 repeat'((first|(refine GET.at (row:=Zc (ps[i]'(by omega))) (by rw[List.getElem?_map,show i+(0:Int).toNat=i by simp,List.getElem?_eq_getElem (by omega)];rfl) ?_;conv=>whnf)|refine CALL.value (hp _ (List.getElem_mem (by omega))) rfl rfl ?_|refine AU ?_|(refine IW ?_ ?_<;>intro h<;>try(exfalso;omega)))<;>conv=>whnf)
 ·refine FIN.valueK h0 rfl (congrArg SV.bool ?_);unfold YB;rw[List.getElem?_eq_getElem (by omega)];rfl
 ·refine FIN.valueK h0 rfl (congrArg SV.bool ?_);unfold YB;rw[List.getElem?_eq_none (by omega)]
theorem Z4o(least:Int)(ps:List (List UInt8))(hp:∀s∈ps,Sm s)(i m:Nat)(him:i+m=ps.length)(L E S R:List UInt8)(v x:Nat)(P:List UInt8):
 Does prog tab 210 5 [.ptr (.loc 0) 0 0 0, .fn (.func 267) [] [.ptr (.loc 4) 0 0 0]] [] [(0,WL i m L E S R v x P),(1, .rows 1 (ps.map Zc)),(4, .box [.int .i64 least])] (ValK 5 (.bool (YB (fun s=>ZD s least 8 false) ps i))):=by
 refine Does.enter Z0 call210 func210 rfl 21 rfl rfl [.tmp 4] rfl ?_;intro w0 F η0 h0;conv=>whnf
 repeat'((first|(refine GET.at (row:=Zc (ps[i]'(by omega))) (by rw[List.getElem?_map,show i+(0:Int).toNat=i by simp,List.getElem?_eq_getElem (by omega)];rfl) ?_;conv=>whnf)|(refine CALL.looks [4] (Z1i (ps[i]'(by omega)) least (hp _ (List.getElem_mem (by omega)))) rfl rfl rfl rfl ⟨⟨rfl,rfl,rfl⟩,trivial⟩ ?_;conv=>whnf)|refine AU ?_|(refine IW ?_ ?_<;>intro h<;>try(exfalso;omega)))<;>conv=>whnf)
 ·refine FIN.valueK h0 rfl (congrArg SV.bool ?_);unfold YB;rw[List.getElem?_eq_getElem (by omega)];rfl
 ·refine FIN.valueK h0 rfl (congrArg SV.bool ?_);unfold YB;rw[List.getElem?_eq_none (by omega)]
theorem WN(ps:List (List UInt8))(i m:Nat)(him:i+(m+1)=ps.length)(p:List UInt8)(hp:ps[i]?=some p)(L E S R:List UInt8)(v x:Nat)(P:List UInt8):
 Does prog tab 214 4 [.ptr (.loc 0) 0 0 0] [(0,WL i (m+1) L E S R v x P)] [(1, .rows 1 (ps.map Zc))] (fun r O nx=>r= .str p/\O=[(0,WL (i+1) m L E S R v x P)]/\nx=4):=by
 refine Does.enter Z0 call214 func214 rfl 19 rfl rfl [.tmp 2] rfl ?_;intro w0 F η0 h0;conv=>whnf
 repeat'((first|(refine GET.at (row:=Zc p) (by rw[List.getElem?_map,show i+(0:Int).toNat=i by simp,hp];rfl) ?_;conv=>whnf)|refine AU ?_|(refine IW ?_ ?_<;>intro h<;>try(exfalso;omega)))<;>conv=>whnf)
 exact FIN.here h0 (Oc:=[(0,WL (i+1) m L E S R v x P)]) rfl rfl rfl ⟨rfl,trivial⟩ ⟨rfl,rfl,rfl⟩
theorem Zbq(least:Int)(ps:List (List UInt8))(hb:JC ps+ps.length<=1152921504606846976)(i m:Nat)(him:i+m=ps.length)(L E S R:List UInt8)(v x:Nat)(P:List UInt8):
 Does prog tab 215 4 [.ptr (.loc 0) 0 0 0, .int .i64 least] [(0,WL i m L E S R v x P)] [(1, .rows 1 (ps.map Zc))]
  (fun r O nx=> ∃(n:Nat) (s:List UInt8),n=ZS (fun s=>ZD s least 8 false) (ps.drop i)/\s.length<=JC ps+ps.length/\r= .tup [.str s, .bool (decide (n≠0))]/\O=[(0,WL (i+n) (m-n) L E S R v x P)]/\nx=4):=by
 have hsm:∀s∈ps,Sm s:=by
  intro s hs;obtain⟨j,hj,rfl⟩:=List.getElem_of_mem hs;have h1:=WM (List.getElem?_eq_getElem hj);have h2:=YO ps (j+1);omega
 refine Does.enter Z0 call215 func215 rfl 18 rfl rfl [.tmp 4, .tmp 5] rfl ?_;intro w0 F η0 h0;conv=>whnf
 refine LOOP.go Z0 [0,3] (X:=Nat×List UInt8) (fun y=>y.1<=m/\y.2.length<=((ps.take (i+y.1)).map List.length).sum+(i+y.1)/\(y.1=0<->y.2=[])/\ZS (fun s=>ZD s least 8 false) (ps.drop i)=y.1+ZS (fun s=>ZD s least 8 false) (ps.drop (i+y.1))) (fun y=>[(6, .str y.2)]) (fun y=>[(0,WL (i+y.1) (m-y.1) L E S R v x P),(4, .box [.int .i64 least])]) 5 (fun y=>m-y.1) (0,[]) ⟨by simp,by simp,by simp,by simp⟩ ?_;conv=>whnf
 refine⟨by exact GOES.cA h0,?_⟩;rintro⟨n,s⟩ ⟨hn,hl,h0s,hspan⟩;dsimp only at hn hl h0s hspan⊢;conv=>whnf
 refine CALL.hA (Z4o least ps hsm (i+n) (m-n) (by omega) L E S R v x P) ?_ ?_
 ·rintro r O' nx' ⟨rfl,rfl,rfl⟩;exact⟨rfl,rfl,rfl⟩
 rintro r O' ⟨rfl,rfl,_⟩;conv=>whnf
 refine⟨fun h=>?_,fun h=>?_⟩
 ·obtain⟨p,hp,hpm⟩:∃p,ps[i+n]?=some p/\ZD p least 8 false=true:=by
   unfold YB at h;cases hp:ps[i+n]? with
   |none=>rw[hp]at h;cases h
   |some p=>rw[hp]at h;exact⟨p,rfl,h⟩
  have hlt:=(List.getElem?_eq_some_iff.1 hp).1;have hs1:=WM hp;have hs2:=YO ps (i+n+1);obtain⟨k,hk⟩:∃k,m-n=k+1:=⟨m-n-1,by omega⟩;rw[hk];conv=>whnf
  refine CALL.hA (WN ps (i+n) k (by omega) p hp L E S R v x P) ?_ ?_
  ·rintro r O' nx' ⟨rfl,rfl,rfl⟩;exact⟨rfl,rfl,rfl⟩
  rintro r O' ⟨rfl,rfl,_⟩;conv=>whnf
  repeat'((first|refine AU ?_|(refine IW ?_ ?_<;>intro h<;>try(exfalso;omega)))<;>conv=>whnf)
  have hsp:ZS (fun s=>ZD s least 8 false) (ps.drop (i+n))=ZS (fun s=>ZD s least 8 false) (ps.drop (i+(n+1)))+1:=by
   rw[List.drop_eq_getElem_cons hlt]
   have:ps[i+n]=p:=by
    have:=List.getElem?_eq_getElem hlt;rw[hp]at this;injection this with this;exact this.symm
   rw[this];simp only[ZS,hpm,if_true]
   rfl
  refine⟨(n+1,s++([45]++p)),⟨by simp only;omega,?_,by simp,by simp only;omega⟩,by simp only;omega,?_⟩
  ·simp only[List.length_append,List.length_cons,List.length_nil];rw[show i+(n+1)=i+n+1 by omega,hs1];omega
  ·dsimp only;rw[show i+(n+1)=i+n+1 by omega,show m-(n+1)=k by omega];conv=>whnf
   exact GOES.cA h0
 ·have hsp:ZS (fun s=>ZD s least 8 false) (ps.drop (i+n))=0:=by
   unfold YB at h;cases hp:ps[i+n]? with
   |none=>rw[List.drop_eq_nil_of_le (by simpa using hp)];rfl
   |some p=>
    rw[hp]at h;have hlt:=(List.getElem?_eq_some_iff.1 hp).1;rw[List.drop_eq_getElem_cons hlt]
    have:ps[i+n]=p:=by
     have:=List.getElem?_eq_getElem hlt;rw[hp]at this;injection this with this;exact this.symm
    rw[this];simp only[ZS];simp only at h;simp[h]
  have hs2:=YO ps (i+n);conv=>whnf
  repeat'((first|refine AU ?_|(refine IW ?_ ?_<;>intro h<;>try(exfalso;omega)))<;>conv=>whnf)
  refine FIN.here h0 (rc:= .tup [.str s, .bool (decide (n≠0))]) (Oc:=[(0,WL (i+n) (m-n) L E S R v x P)]) ?_ rfl rfl ⟨rfl,trivial⟩ ⟨n,s,by omega,by omega,rfl,rfl,rfl⟩;show SV.tup [SV.str s,SV.bool (s !=[])]=SV.tup [SV.str s,SV.bool (decide (n≠0))]
  have:(s !=[])=decide (n≠0):=by rw[Bool.eq_iff_iff];simp[h0s]
  rw[this]
theorem XR(g:Nat)(p:List UInt8->Bool)(ps:List (List UInt8))(hp:∀s∈ps,Does prog tab g 0 [.str s] [] [] (Val (.bool (p s))))(i m:Nat)(him:i+m=ps.length)(L E S R:List UInt8)(v x:Nat)(P:List UInt8):
 Does prog tab 210 7 [.ptr (.loc 0) 0 0 0, .fn (.func g) [] []] [] [(0,JB i m L E S R v x P),(1, .rows 1 (ps.map Zc))] (ValK 7 (.bool (YB p ps i))):=by
 refine Does.enter Z0 call210 func210 rfl 21 rfl rfl [.tmp 4] rfl ?_;intro w0 F η0 h0;conv=>whnf
 repeat'((first|(refine GET.at (row:=Zc (ps[i]'(by omega))) (by rw[List.getElem?_map,show i+(0:Int).toNat=i by simp,List.getElem?_eq_getElem (by omega)];rfl) ?_;conv=>whnf)|refine CALL.value (hp _ (List.getElem_mem (by omega))) rfl rfl ?_|refine AU ?_|(refine IW ?_ ?_<;>intro h<;>try(exfalso;omega)))<;>conv=>whnf)
 ·refine FIN.valueK h0 rfl (congrArg SV.bool ?_);unfold YB;rw[List.getElem?_eq_getElem (by omega)];rfl
 ·refine FIN.valueK h0 rfl (congrArg SV.bool ?_);unfold YB;rw[List.getElem?_eq_none (by omega)]
theorem Z4p(least:Int)(ps:List (List UInt8))(hp:∀s∈ps,Sm s)(i m:Nat)(him:i+m=ps.length)(L E S R:List UInt8)(v x:Nat)(P:List UInt8):
 Does prog tab 210 8 [.ptr (.loc 0) 0 0 0, .fn (.func 267) [] [.ptr (.loc 7) 0 0 0]] [] [(0,JB i m L E S R v x P),(1, .rows 1 (ps.map Zc)),(7, .box [.int .i64 least])] (ValK 8 (.bool (YB (fun s=>ZD s least 8 false) ps i))):=by
 refine Does.enter Z0 call210 func210 rfl 21 rfl rfl [.tmp 4] rfl ?_;intro w0 F η0 h0;conv=>whnf
 repeat'((first|(refine GET.at (row:=Zc (ps[i]'(by omega))) (by rw[List.getElem?_map,show i+(0:Int).toNat=i by simp,List.getElem?_eq_getElem (by omega)];rfl) ?_;conv=>whnf)|(refine CALL.looks [7] (Z1i (ps[i]'(by omega)) least (hp _ (List.getElem_mem (by omega)))) rfl rfl rfl rfl ⟨⟨rfl,rfl,rfl⟩,trivial⟩ ?_;conv=>whnf)|refine AU ?_|(refine IW ?_ ?_<;>intro h<;>try(exfalso;omega)))<;>conv=>whnf)
 ·refine FIN.valueK h0 rfl (congrArg SV.bool ?_);unfold YB;rw[List.getElem?_eq_getElem (by omega)];rfl
 ·refine FIN.valueK h0 rfl (congrArg SV.bool ?_);unfold YB;rw[List.getElem?_eq_none (by omega)]
theorem Y0(ps:List (List UInt8))(i m:Nat)(him:i+(m+1)=ps.length)(p:List UInt8)(hp:ps[i]?=some p)(L E S R:List UInt8)(v x:Nat)(P:List UInt8):
 Does prog tab 214 7 [.ptr (.loc 0) 0 0 0] [(0,JB i (m+1) L E S R v x P)] [(1, .rows 1 (ps.map Zc))] (fun r O nx=>r= .str p/\O=[(0,JB (i+1) m L E S R v x P)]/\nx=7):=by
 refine Does.enter Z0 call214 func214 rfl 19 rfl rfl [.tmp 2] rfl ?_;intro w0 F η0 h0;conv=>whnf
 repeat'((first|(refine GET.at (row:=Zc p) (by rw[List.getElem?_map,show i+(0:Int).toNat=i by simp,hp];rfl) ?_;conv=>whnf)|refine AU ?_|(refine IW ?_ ?_<;>intro h<;>try(exfalso;omega)))<;>conv=>whnf)
 exact FIN.here h0 (Oc:=[(0,JB (i+1) m L E S R v x P)]) rfl rfl rfl ⟨rfl,trivial⟩ ⟨rfl,rfl,rfl⟩
theorem Wt(least:Int)(ps:List (List UInt8))(hb:JC ps+ps.length<=1152921504606846976)(i m:Nat)(him:i+m=ps.length)(L E S R:List UInt8)(v x:Nat)(P:List UInt8):
 Does prog tab 215 7 [.ptr (.loc 0) 0 0 0, .int .i64 least] [(0,JB i m L E S R v x P)] [(1, .rows 1 (ps.map Zc))]
  (fun r O nx=> ∃(n:Nat) (s:List UInt8),n=ZS (fun s=>ZD s least 8 false) (ps.drop i)/\s.length<=JC ps+ps.length/\r= .tup [.str s, .bool (decide (n≠0))]/\O=[(0,JB (i+n) (m-n) L E S R v x P)]/\nx=7):=by
 have hsm:∀s∈ps,Sm s:=by
  intro s hs;obtain⟨j,hj,rfl⟩:=List.getElem_of_mem hs;have h1:=WM (List.getElem?_eq_getElem hj);have h2:=YO ps (j+1);omega
 refine Does.enter Z0 call215 func215 rfl 18 rfl rfl [.tmp 4, .tmp 5] rfl ?_;intro w0 F η0 h0;conv=>whnf
 refine LOOP.go Z0 [0,3] (X:=Nat×List UInt8) (fun y=>y.1<=m/\y.2.length<=((ps.take (i+y.1)).map List.length).sum+(i+y.1)/\(y.1=0<->y.2=[])/\ZS (fun s=>ZD s least 8 false) (ps.drop i)=y.1+ZS (fun s=>ZD s least 8 false) (ps.drop (i+y.1))) (fun y=>[(6, .str y.2)]) (fun y=>[(0,JB (i+y.1) (m-y.1) L E S R v x P),(7, .box [.int .i64 least])]) 8 (fun y=>m-y.1) (0,[]) ⟨by simp,by simp,by simp,by simp⟩ ?_;conv=>whnf
 refine⟨by exact GOES.cA h0,?_⟩;rintro⟨n,s⟩ ⟨hn,hl,h0s,hspan⟩;dsimp only at hn hl h0s hspan⊢;conv=>whnf
 refine CALL.hA (Z4p least ps hsm (i+n) (m-n) (by omega) L E S R v x P) ?_ ?_
 ·rintro r O' nx' ⟨rfl,rfl,rfl⟩;exact⟨rfl,rfl,rfl⟩
 rintro r O' ⟨rfl,rfl,_⟩;conv=>whnf
 refine⟨fun h=>?_,fun h=>?_⟩
 ·obtain⟨p,hp,hpm⟩:∃p,ps[i+n]?=some p/\ZD p least 8 false=true:=by
   unfold YB at h;cases hp:ps[i+n]? with
   |none=>rw[hp]at h;cases h
   |some p=>rw[hp]at h;exact⟨p,rfl,h⟩
  have hlt:=(List.getElem?_eq_some_iff.1 hp).1;have hs1:=WM hp;have hs2:=YO ps (i+n+1);obtain⟨k,hk⟩:∃k,m-n=k+1:=⟨m-n-1,by omega⟩;rw[hk];conv=>whnf
  refine CALL.hA (Y0 ps (i+n) k (by omega) p hp L E S R v x P) ?_ ?_
  ·rintro r O' nx' ⟨rfl,rfl,rfl⟩;exact⟨rfl,rfl,rfl⟩
  rintro r O' ⟨rfl,rfl,_⟩;conv=>whnf
  repeat'((first|refine AU ?_|(refine IW ?_ ?_<;>intro h<;>try(exfalso;omega)))<;>conv=>whnf)
  have hsp:ZS (fun s=>ZD s least 8 false) (ps.drop (i+n))=ZS (fun s=>ZD s least 8 false) (ps.drop (i+(n+1)))+1:=by
   rw[List.drop_eq_getElem_cons hlt]
   have:ps[i+n]=p:=by
    have:=List.getElem?_eq_getElem hlt;rw[hp]at this;injection this with this;exact this.symm
   rw[this];simp only[ZS,hpm,if_true]
   rfl
  refine⟨(n+1,s++([45]++p)),⟨by simp only;omega,?_,by simp,by simp only;omega⟩,by simp only;omega,?_⟩
  ·simp only[List.length_append,List.length_cons,List.length_nil];rw[show i+(n+1)=i+n+1 by omega,hs1];omega
  ·dsimp only;rw[show i+(n+1)=i+n+1 by omega,show m-(n+1)=k by omega];conv=>whnf
   exact GOES.cA h0
 ·have hsp:ZS (fun s=>ZD s least 8 false) (ps.drop (i+n))=0:=by
   unfold YB at h;cases hp:ps[i+n]? with
   |none=>rw[List.drop_eq_nil_of_le (by simpa using hp)];rfl
   |some p=>
    rw[hp]at h;have hlt:=(List.getElem?_eq_some_iff.1 hp).1;rw[List.drop_eq_getElem_cons hlt]
    have:ps[i+n]=p:=by
     have:=List.getElem?_eq_getElem hlt;rw[hp]at this;injection this with this;exact this.symm
    rw[this];simp only[ZS];simp only at h;simp[h]
  have hs2:=YO ps (i+n);conv=>whnf
  repeat'((first|refine AU ?_|(refine IW ?_ ?_<;>intro h<;>try(exfalso;omega)))<;>conv=>whnf)
  refine FIN.here h0 (rc:= .tup [.str s, .bool (decide (n≠0))]) (Oc:=[(0,JB (i+n) (m-n) L E S R v x P)]) ?_ rfl rfl ⟨rfl,trivial⟩ ⟨n,s,by omega,by omega,rfl,rfl,rfl⟩;show SV.tup [SV.str s,SV.bool (s !=[])]=SV.tup [SV.str s,SV.bool (decide (n≠0))]
  have:(s !=[])=decide (n≠0):=by rw[Bool.eq_iff_iff];simp[h0s]
  rw[this]
open Tryz
def Z60:Plan:=(.take 0 1 (.take 1 1 (.take 2 1 (.take 3 1 (.take 5 1 (.fork 4 3 6 0 (Zu [(6,0),(7,1),(8,1),(9,1),(10,1),(11,0)]) (Zu [(4,2),(7,1),(8,1),(9,1),(10,1),(11,0)])))))))
theorem Z0b{ps:List (List UInt8)}(hb:JC ps+ps.length<=1152921504606846976):∀s∈ps,Sm s:=by
 intro s hs;obtain⟨j,hj,rfl⟩:=List.getElem_of_mem hs;have h1:=WM (List.getElem?_eq_getElem hj);have h2:=YO ps (j+1);omega
theorem ZK{p:List UInt8->Bool}{ps:List (List UInt8)}{i:Nat}(h:YB p ps i=true):∃s,ps[i]?=some s/\p s=true:=by
 unfold YB at h;cases hp:ps[i]? with
 |none=>rw[hp]at h;cases h
 |some s=>rw[hp]at h;exact⟨s,rfl,h⟩
theorem ZU{ps:List (List UInt8)}{i:Nat}{s:List UInt8}(h:ps[i]?=some s):ps.drop i=s::ps.drop (i+1):=by
 obtain⟨h1,rfl⟩:=List.getElem?_eq_some_iff.1 h;exact List.drop_eq_getElem_cons h1
theorem XK{p:List UInt8->Bool}{ps:List (List UInt8)}{i:Nat}(h:YB p ps i=false):ps.drop i=[]\/∃s,ps[i]?=some s/\ps.drop i=s::ps.drop (i+1)/\p s=false:=by
 unfold YB at h;cases hp:ps[i]? with
 |none=>exact .inl (List.drop_eq_nil_of_le (by simpa using hp))
 |some s=>rw[hp]at h;exact .inr ⟨s,rfl,ZU hp,h⟩
theorem ZfN{n:Nat}{ps:List (List UInt8)}{i:Nat}(h:YB (fun s=>ZD s 3 3 true) ps i=false):extP n (ps.drop i)=ps.drop i:=by
 rcases XK h with h|⟨s,_,h1,h2⟩
 ·rw[h];cases n<;>rfl
 ·rw[h1];cases n with
  |zero=>rfl
  |succ n=>simp only[extP];simp[h2]
theorem Js{s:List UInt8}{a b:Int}{pure:Bool}(h:ZD s a b pure=true):a<=s.length/\(s.length:Int)<=b:=by
 unfold ZD at h;simp at h;omega
theorem Z61(ps:List (List UInt8))(hb:JC ps+ps.length<=1152921504606846976)(i m:Nat)(him:i+m=ps.length)(S R:List UInt8)(v x:Nat)(P:List UInt8):
 Does prog tab 212 4 [.ptr (.loc 0) 0 0 0] [(0,W2 i m [] [] S R v x P)] [(1, .rows 1 (ps.map Zc))]
  (fun r O nx=> ∃(i' m':Nat) (L E:List UInt8),i'+m'=ps.length/\r= .bool (JI (ps.drop i)).isSome/\(∀l,JI (ps.drop i)=some l->l=ps.drop i')/\O=[(0,W2 i' m' L E S R v x P)]/\nx=4):=by
 have hsm:=Z0b hb;refine Does.enter Z0 call212 func212 rfl 50 rfl rfl [.tmp 2] rfl ?_;intro w0 F η0 h0;conv=>whnf
 refine CALL.hA (Vi 259 _ ps (fun s hs=>Zbm s (hsm s hs)) i m him [] [] S R v x P) ?_ ?_
 ·rintro r O' nx' ⟨rfl,rfl,rfl⟩;exact⟨rfl,rfl,rfl⟩
 rintro r O' ⟨rfl,rfl,_⟩;conv=>whnf
 refine IF.mk (fun h=>?_) (fun h=>?_)
 ·conv=>whnf
  have h:YB (fun s=>ZD s 2 8 true) ps i=false:=by simpa using h
  have hn:JI (ps.drop i)=none:=by
   rcases XK h with h|⟨s,_,h1,h2⟩
   ·rw[h];rfl
   ·rw[h1];simp only[JI];simp[h2]
  exact FIN.here h0 (Oc:=[(0,W2 i m [] [] S R v x P)]) rfl rfl rfl ⟨rfl,trivial⟩ ⟨i,m,[],[],him,by rw[hn];rfl,by simp[hn],rfl,rfl⟩
 have h:YB (fun s=>ZD s 2 8 true) ps i=true:=by simpa using h
 obtain⟨p,hp,hpm⟩:=ZK h;have hlt:=(List.getElem?_eq_some_iff.1 hp).1;have hd:=ZU hp;obtain⟨k,rfl⟩:∃k,m=k+1:=⟨m-1,by omega⟩;have hlen:=Js hpm;conv=>whnf
 refine CALL.hA (YC ps i k him p hp [] [] S R v x P) ?_ ?_
 ·rintro r O' nx' ⟨rfl,rfl,rfl⟩;exact⟨rfl,rfl,rfl⟩
 rintro r O' ⟨rfl,rfl,_⟩;conv=>whnf
 refine IF.mk (fun h=>?_) (fun h=>?_)
 ·conv=>whnf
  have h:3<p.length:=by simp at h;omega
  exact FIN.here h0 (Oc:=[(0,W2 (i+1) k p [] S R v x P)]) rfl rfl rfl ⟨rfl,trivial⟩ ⟨i+1,k,p,[],by omega,by rw[hd];simp only[JI];simp[hpm,h],by rw[hd];simp only[JI];simp[hpm,h],rfl,rfl⟩
 have h:¬3<p.length:=by simp at h;omega
 have hL:JI (ps.drop i)=some (extP 3 (ps.drop (i+1))):=by rw[hd];simp only[JI];rw[if_pos hpm,if_neg h]
 conv=>whnf
 refine LOOP.go Z0 [0] (X:=Nat×List UInt8×Nat) (fun y=>y.1<=3/\y.2.1.length<=4*y.1/\y.2.2+(ps.length-y.2.2)=ps.length/\extP 3 (ps.drop (i+1))=extP (3-y.1) (ps.drop y.2.2)) (fun y=>[(3, .int .i64 (y.1:Int))]) (fun y=>[(0,W2 y.2.2 (ps.length-y.2.2) p y.2.1 S R v x P)]) 4 (fun y=>3-y.1) (0,[],i+1) ⟨by simp,by simp,by simp only;omega,rfl⟩ ?_;conv=>whnf
 rw[show ps.length-(i+1)=k by omega];refine⟨by exact GOES.cA h0,?_⟩;rintro⟨c,E,a⟩ ⟨hc,hE,ha,hx⟩;dsimp only at hc hE ha hx⊢;conv=>whnf
 have fin:YB (fun s=>ZD s 3 3 true) ps a=false\/c=3->extP 3 (ps.drop (i+1))=ps.drop a:=by
  rintro(h|h)
  ·rw[hx,ZfN h]
  ·subst h;rw[hx];rfl
 refine IF.mk (fun h=>?_) (fun h=>?_)
 ·have h:c<3:=by simp at h;omega
  conv=>whnf
  repeat'((first|refine AU ?_|(refine IW ?_ ?_<;>intro h<;>try(exfalso;omega)))<;>conv=>whnf)
  refine CALL.hA (Vi 261 _ ps (fun s hs=>Zbn s (hsm s hs)) a (ps.length-a) ha p E S R v x P) ?_ ?_
  ·rintro r O' nx' ⟨rfl,rfl,rfl⟩;exact⟨rfl,rfl,rfl⟩
  rintro r O' ⟨rfl,rfl,_⟩;conv=>whnf
  repeat'((first|refine AU ?_|(refine IW ?_ ?_<;>intro h<;>try(exfalso;omega)))<;>conv=>whnf)
  ·obtain⟨q,hq,hqm⟩:=ZK (by assumption);have hql:=Js hqm;obtain⟨k',hk'⟩:∃k',ps.length-a=k'+1:=⟨ps.length-a-1,by have:=(List.getElem?_eq_some_iff.1 hq).1;omega⟩;rw[hk'];repeat'((first|refine DRAWN.of (id:=11) Z0 mixed Z60 (by kernel_rfl) ?_|refine ADD.mk (fun _ _=>?_)|refine AD ?_|refine FORK.mk ?_ ?_|refine AU ?_|(refine IW ?_ ?_<;>intro h<;>try(exfalso;omega)))<;>conv=>whnf)
   all_goals
    refine CALL.hA (YC ps a k' (by omega) q hq p (E++ [45]) S R v x P) ?_ ?_
    ·rintro r O' nx' ⟨rfl,rfl,rfl⟩;exact⟨rfl,rfl,rfl⟩
    rintro r O' ⟨rfl,rfl,_⟩;conv=>whnf
    repeat'((first|refine DRAWN.of (id:=11) Z0 mixed Z60 (by kernel_rfl) ?_|refine ADD.mk (fun _ _=>?_)|refine AD ?_|refine FORK.mk ?_ ?_|refine AU ?_|(refine IW ?_ ?_<;>intro h<;>try(exfalso;omega)))<;>conv=>whnf)
    refine⟨(c+1,(E++ [45])++q,a+1),⟨by simp only;omega,by simp only[List.length_append,List.length_cons,List.length_nil];omega,by simp only;omega,?_⟩,by simp only;omega,?_⟩
    ·rw[hx,ZU hq,show 3-c=(3-(c+1))+1 by omega];simp only[extP];rw[if_pos hqm]
    ·dsimp only;rw[show ps.length-(a+1)=k' by omega];conv=>whnf
     exact GOES.cA h0
  ·obtain⟨q,hq,hqm⟩:=ZK (by assumption);have hql:=Js hqm;obtain⟨k',hk'⟩:∃k',ps.length-a=k'+1:=⟨ps.length-a-1,by have:=(List.getElem?_eq_some_iff.1 hq).1;omega⟩;rw[hk'];have hc0:c=0:=by omega
   repeat'((first|refine DRAWN.of (id:=11) Z0 mixed Z60 (by kernel_rfl) ?_|refine ADD.mk (fun _ _=>?_)|refine AD ?_|refine FORK.mk ?_ ?_|refine AU ?_|(refine IW ?_ ?_<;>intro h<;>try(exfalso;omega)))<;>conv=>whnf)
   all_goals
    refine CALL.hA (YC ps a k' (by omega) q hq p (E) S R v x P) ?_ ?_
    ·rintro r O' nx' ⟨rfl,rfl,rfl⟩;exact⟨rfl,rfl,rfl⟩
    rintro r O' ⟨rfl,rfl,_⟩;conv=>whnf
    repeat'((first|refine DRAWN.of (id:=11) Z0 mixed Z60 (by kernel_rfl) ?_|refine ADD.mk (fun _ _=>?_)|refine AD ?_|refine FORK.mk ?_ ?_|refine AU ?_|(refine IW ?_ ?_<;>intro h<;>try(exfalso;omega)))<;>conv=>whnf)
    refine⟨(c+1,(E)++q,a+1),⟨by simp only;omega,by simp only[List.length_append,List.length_cons,List.length_nil];omega,by simp only;omega,?_⟩,by simp only;omega,?_⟩
    ·rw[hx,ZU hq,show 3-c=(3-(c+1))+1 by omega];simp only[extP];rw[if_pos hqm]
    ·dsimp only;rw[show ps.length-(a+1)=k' by omega];conv=>whnf
     exact GOES.cA h0
  ·exact FIN.here h0 (Oc:=[(0,W2 a (ps.length-a) p E S R v x P)]) rfl rfl rfl ⟨rfl,trivial⟩ ⟨a,ps.length-a,p,E,ha,by rw[hL];rfl,by rw[hL];rintro l ⟨⟩;exact fin (.inl (by assumption)),rfl,rfl⟩
 ·have h:c=3:=by simp at h;omega
  conv=>whnf
  repeat'((first|refine AU ?_|(refine IW ?_ ?_<;>intro h<;>try(exfalso;omega)))<;>conv=>whnf)
  exact FIN.here h0 (Oc:=[(0,W2 a (ps.length-a) p E S R v x P)]) rfl rfl rfl ⟨rfl,trivial⟩ ⟨a,ps.length-a,p,E,ha,by rw[hL];rfl,by rw[hL];rintro l ⟨⟩;exact fin (.inr h),rfl,rfl⟩
theorem Z1j{p:List UInt8->Bool}{ps:List (List UInt8)}{i:Nat}(h:YB p ps i=false):J9 p (ps.drop i)=ps.drop i:=by
 rcases XK h with h|⟨s,_,h1,h2⟩
 ·rw[h];rfl
 ·rw[h1];simp only[J9];rw[if_neg (by simp[h2])]
theorem Vz{p:List UInt8->Bool}{ps:List (List UInt8)}{i:Nat}{s:List UInt8}(h:ps[i]?=some s)(hp:p s=true):J9 p (ps.drop i)=ps.drop (i+1):=by
 rw[ZU h];simp only[J9];rw[if_pos hp]
theorem Z62(l:List (List UInt8))(s:List UInt8)(hl:l.length<=1152921504606846976):Does prog tab 300 1 [.sl (.loc 0) 0 1 l.length none, .str s] [] [(0, .rows 1 (l.map Zc))]
 (fun r O nx=> ∃n:Int,(0<=n<->s∈l)/\r= .int .i64 n/\O=[]/\nx=1):=by
 refine Does.enter Z0 call300 func300 rfl 19 rfl rfl [.tmp 4] rfl ?_;intro w0 F η0 h0;conv=>whnf
 refine LOOP.go Z0 [0,1,7] (X:=Nat) (fun i=>i<=l.length/\s∉l.take i) (fun i=>[(8, .int .i64 (i:Int))]) (fun i=>[]) 1 (fun i=>l.length-i) 0 ⟨by omega,by simp⟩ ?_;conv=>whnf
 refine⟨by exact GOES.cA h0,?_⟩;rintro i ⟨hi,hc⟩;conv=>whnf
 repeat'((first|(refine GET.at (row:=Zc (l[i]'(by omega))) (by rw[List.getElem?_map,show 0+(i:Int).toNat=i by omega,List.getElem?_eq_getElem (by omega)];rfl) ?_;conv=>whnf)|refine AU ?_|(refine IW ?_ ?_<;>intro h<;>try(exfalso;omega)))<;>conv=>whnf)
 ·have hl:i<l.length:=by omega
  exact FIN.val h0 rfl ⟨i,⟨fun _=>by subst h;exact List.getElem_mem hl,fun _=>by omega⟩,rfl,rfl,rfl⟩
 ·have hl:i<l.length:=by omega
  refine⟨i+1,⟨by omega,?_⟩,by omega,?_⟩
  ·rw[List.take_succ_eq_append_getElem hl];simp only[List.mem_append,List.mem_singleton];rintro(h1|h1)
   ·exact hc h1
   ·exact h h1
  ·conv=>whnf
   exact GOES.cA h0
 ·refine FIN.val h0 rfl ⟨-1,⟨fun h=>by omega,fun h1=>?_⟩,rfl,rfl,rfl⟩;rw[List.take_of_length_le (by omega)]at hc;exact(hc h1).elim
theorem YD(l:List (List UInt8))(s:List UInt8)(hl:l.length<=1152921504606846976):Does prog tab 265 1 [.sl (.loc 0) 0 1 l.length none, .str s] [] [(0, .rows 1 (l.map Zc))] (ValK 1 (.bool (decide (s∈l)))):=by
 refine Does.enter Z0 call265 func265 rfl 9 rfl rfl [.tmp 4] rfl ?_;intro w0 F η0 h0;conv=>whnf
 refine CALL.hA (Z62 l s hl) ?_ ?_
 ·rintro r O' nx' ⟨n,_,rfl,rfl,rfl⟩;exact⟨rfl,rfl,rfl⟩
 rintro r O' ⟨n,hn,rfl,rfl,_⟩;conv=>whnf
 exact FIN.valueK h0 rfl (congrArg SV.bool (decide_eq_decide.2 hn))
def orE:List Int->Int
 | []=>0
 |a::l=>if a≠0 then a else orE l
def Zdj(a:Int):List SV:=[.int .i64 a]
theorem Z63(xs:List Int)(hn:xs.length<=1152921504606846976):Does prog tab 163 1 [.sl (.loc 0) 0 1 xs.length none] [] [(0, .rows 1 (xs.map Zdj))] (ValK 1 (.int .i64 (orE xs))):=by
 refine Does.enter Z0 call163 func163 rfl 18 rfl rfl [.tmp 2] rfl ?_;intro w0 F η0 h0;conv=>whnf
 refine LOOP.go Z0 [3,6,7] (X:=Nat) (fun i=>i<=xs.length/\orE xs=orE (xs.drop i)) (fun i=>[(8, .int .i64 (i:Int))]) (fun i=>[]) 1 (fun i=>xs.length-i) 0 ⟨by omega,rfl⟩ ?_;conv=>whnf
 refine⟨by exact GOES.cA h0,?_⟩;rintro i ⟨hi,ho⟩;conv=>whnf
 repeat'((first|(refine GET.at (row:=Zdj (xs[i]'(by omega))) (by rw[List.getElem?_map,show 0+(i:Int).toNat=i by omega,List.getElem?_eq_getElem (by omega)];rfl) ?_;conv=>whnf)|refine AU ?_|(refine IW ?_ ?_<;>intro h<;>try(exfalso;omega)))<;>conv=>whnf)
 ·have hl:i<xs.length:=by omega
  refine FIN.valueK h0 rfl (congrArg (SV.int _) ?_);rw[ho,List.drop_eq_getElem_cons hl];simp only[orE];rw[if_pos h]
 ·have hl:i<xs.length:=by omega
  refine⟨i+1,⟨by omega,?_⟩,by omega,?_⟩
  ·rw[ho,List.drop_eq_getElem_cons hl];simp only[orE];rw[if_neg (by simpa using h)]
  ·conv=>whnf
   exact GOES.cA h0
 ·refine FIN.valueK h0 rfl (congrArg (SV.int _) ?_);rw[ho,List.drop_eq_nil_of_le (by omega)];rfl
open Tryz
theorem Zdm{s:List UInt8}{i:Nat}{c:UInt8}(h:i<s.length):Z1 s i=(c.toNat:Int)<->s[i]?=some c:=by
 unfold Z1;rw[Int.toNat_natCast,List.getD,List.getElem?_eq_getElem h];simp only[Option.getD_some,Option.some.injEq];constructor
 ·intro h1;exact UInt8.toNat_inj.1 (by omega)
 ·intro h1;rw[h1]
theorem Z7N(s:List UInt8)(hs:s.length<=34359738368):Does prog tab 285 0 [.str s] [] [] (NewS 1 ((Zr s).map Zc)):=by
 have hlen:=Z0C s;refine Does.enter Z0 call285 func285 rfl 31 rfl rfl [.tmp 2] rfl ?_;intro w0 F η0 h0;conv=>whnf
 refine LOOP.nil 3 1 rfl ?_;refine LOOP.go Z0 [0] (X:=List (List UInt8)×Nat×Nat) (fun y=>y.2.1<=y.2.2/\y.2.2<=s.length/\Zr s=y.1++Zr (s.drop y.2.1)/\∀c∈(s.drop y.2.1).take (y.2.2-y.2.1),c≠45) (fun y=>[(3, .sl (.loc 0) 0 1 y.1.length none),(4, .int .i64 (y.2.1:Int)),(5, .int .i64 (y.2.2:Int))]) (fun y=>[(0, .rows 1 (y.1.map Zc))]) 1 (fun y=>s.length-y.2.2) ([],0,0) ⟨by simp,by simp,by simp,by simp⟩ ?_;conv=>whnf
 refine⟨by exact GOES.kA h0 [0],?_⟩;rintro⟨l,f,i⟩ ⟨hf,hi,he,hn⟩;dsimp only at hf hi he hn⊢;have hl:l.length+(Zr (s.drop f)).length=(Zr s).length:=by rw[he,List.length_append]
 have hl1:1<=(Zr (s.drop f)).length:=by have:=Jn (s.drop f);omega
 conv=>whnf
 repeat'((first|refine AU ?_|(refine IW ?_ ?_<;>intro h<;>try(exfalso;omega)))<;>conv=>whnf)
 ·have h45:(s.drop f)[i-f]?=some 45:=by rw[List.getElem?_drop,show f+(i-f)=i by omega];exact(Zdm (c:=45) (by omega)).1 h
  have hc:=Z7B _ _ hn h45;rw[List.drop_drop,show f+(i-f+1)=i+1 by omega]at hc;refine⟨(l++ [(s.drop f).take (i-f)],i+1,i+1),⟨by simp only;omega,by simp only;omega,by simp only;rw[he,hc];simp,by simp⟩,by simp only;omega,?_⟩;dsimp only;rw[show(l++ [(s.drop f).take (i-f)]).length=l.length+1 by simp];conv=>whnf
  exact GOES.kA h0 [2]
 ·refine⟨(l,f,i+1),⟨by simp only;omega,by simp only;omega,he,?_⟩,by simp only;omega,?_⟩
  ·dsimp only;intro c hc;have hlt:i-f< (s.drop f).length:=by rw[List.length_drop];omega
   rw[show i+1-f=(i-f)+1 by omega,List.take_succ_eq_append_getElem hlt]at hc;rcases List.mem_append.1 hc with hc|hc
   ·exact hn c hc
   ·have hc:=List.mem_singleton.1 hc;rintro rfl;refine h ((Zdm (c:=45) (by omega)).2 ?_);have h1:(s.drop f)[i-f]?=some 45:=by rw[List.getElem?_eq_getElem hlt,<-hc]
    rwa [List.getElem?_drop,show f+(i-f)=i by omega]at h1
  ·dsimp only;conv=>whnf
   exact GOES.kA h0 [0]
 ·have hc:Zr (s.drop f)=[s.drop f]:=by
   refine Z7C _ fun c hc=>hn c ?_;rwa [List.take_of_length_le (by rw[List.length_drop];omega)]
  rw[he,hc]at*;refine FIN.rows h0 2 1 (l.length+1) rfl rfl rfl (by simp[VF,Zz,Yh,Zh,YK,plain,List.take_of_length_le]) ⟨by simp,?_,rfl⟩;simp[Zc,List.take_of_length_le]
theorem J6(ps:List (List UInt8))(hb:JC ps+ps.length<=68719476736)(a m:Nat)(ham:a+m=ps.length):Does prog tab 305 1 [.sl (.loc 0) a 1 m none] [] [(0, .rows 1 (ps.map Zc))]
 (fun r O nx=> ∃s,s.length<=JC ps+ps.length/\(∀p,ps[a]?=some p->∃t,s=p++t)/\r= .str s/\O=[]/\nx=1):=by
 refine Does.enter Z0 call305 func305 rfl 24 rfl rfl [.tmp 2] rfl ?_;intro w0 F η0 h0;conv=>whnf
 refine LOOP.nil 3 1 rfl ?_;refine LOOP.go Z0 [0] (X:=Nat×List UInt8) (fun y=>y.1<=m/\y.2.length<=((ps.take (a+y.1)).map List.length).sum+y.1/\(y.1≠0->∀p,ps[a]?=some p->∃t,y.2=p++t)/\(y.1=0->y.2=[])) (fun y=>[(3, .sl (.loc 1) 0 1 y.2.length none),(4, .int .i64 (y.1:Int))]) (fun y=>[(1, .rows 1 (y.2.map Sx.bytesRow))]) 2 (fun y=>m-y.1) (0,[]) ⟨by simp,by simp,by simp,by simp⟩ ?_;conv=>whnf
 refine⟨by exact GOES.kA h0 [1],?_⟩;rintro⟨c,b⟩ ⟨hc,hl,hp,h00⟩;dsimp only at hc hl hp h00⊢;have hbt:=YO ps (a+c);rcases Nat.lt_or_ge c m with hcm|hcm
 ·have hlt:a+c<ps.length:=by omega
  have hs1:=WM (List.getElem?_eq_getElem hlt);have hs2:=YO ps (a+c+1)
  have key:∀b':List UInt8,(c=0->b'=[])->(c≠0->∃t,b'=b++t)->∀p,ps[a]?=some p->∃t,b'++ps[a+c]=p++t:=by
   intro b' h1 h2 p hpa;by_cases h:c=0
   ·subst h;obtain⟨h3,h4⟩:=List.getElem?_eq_some_iff.1 hpa;exact⟨[],by rw[h1 rfl,<-h4];simp⟩
   ·obtain⟨t,ht⟩:=hp h p hpa;obtain⟨t',ht'⟩:=h2 h;exact⟨t++t'++ps[a+c],by rw[ht',ht];simp⟩
  conv=>whnf
  repeat'((first|(refine GET.at (row:=Zc (ps[a+c]'(by omega))) (by rw[List.getElem?_map,show a+(c:Int).toNat=a+c by omega,List.getElem?_eq_getElem (by omega)];rfl) ?_;conv=>whnf)|refine AU ?_|(refine IW ?_ ?_<;>intro h<;>try(exfalso;omega)))<;>conv=>whnf)
  ·refine⟨(c+1,b++ [45]++ps[a+c]),⟨by simp only;omega,?_,fun _=>key _ (fun h1=>by omega) (fun _=>⟨[45],rfl⟩),by simp⟩,by simp only;omega,?_⟩
   ·simp only[List.length_append,List.length_cons,List.length_nil];rw[show a+(c+1)=a+c+1 by omega,hs1];omega
   ·dsimp only;have e:(b++ [45]++ps[a+c]).length=b.length+1+ps[a+c].length:=by simp;omega
    rw[e];conv=>whnf
    exact GOES.kA h0 [4]
  ·refine⟨(c+1,b++ps[a+c]),⟨by simp only;omega,?_,fun _=>key _ (fun h1=>h00 h1) (fun h1=>by omega),by simp⟩,by simp only;omega,?_⟩
   ·simp only[List.length_append];rw[show a+(c+1)=a+c+1 by omega,hs1];omega
   ·dsimp only;have e:(b++ps[a+c]).length=b.length+ps[a+c].length:=by simp
    rw[e];conv=>whnf
    exact GOES.kA h0 [2]
 ·conv=>whnf
  repeat'((first|refine AU ?_|(refine IW ?_ ?_<;>intro h<;>try(exfalso;omega)))<;>conv=>whnf)
  refine NEED.mk (Ug (by simp)) ?_;conv=>whnf
  refine FIN.val h0 rfl ⟨b,by omega,fun p hpa=>?_,by rw[Z8v],rfl,rfl⟩;have:=(List.getElem?_eq_some_iff.1 hpa).1;exact hp (by omega) p hpa
open Tryz
def rd6(i m:Nat):Hp:= .box [.sl (.loc 1) i 1 m none]
def tg6(L E S R:List UInt8)(jv v jx x:Nat)(P:List UInt8):Hp:= .box [.str L, .str E, .str S, .str R, .sl (.loc jv) 0 1 v none, .sl (.loc jx) 0 1 x none, .str P]
theorem JD(least most:Int)(digits:Bool)(ps:List (List UInt8))(hsm:∀s∈ps,Sm s)(i m:Nat)(him:i+m=ps.length):
 Does prog tab 288 2 [.ptr (.loc 0) 0 0 0, .int .i64 least, .int .i64 most, .bool digits] [] [(0,rd6 i m),(1, .rows 1 (ps.map Zc))] (ValK 2 (.bool (YB (Z1f least most digits) ps i))):=by
 refine Does.enter Z0 call288 func288 rfl 52 rfl rfl [.tmp 8] rfl ?_;intro w0 F η0 h0;conv=>whnf
 rcases Nat.eq_zero_or_pos m with hm|hm
 ·subst hm;repeat'((first|(refine GETG.mk ⟨Zc [],fun h=>(by simp at h),?_⟩;conv=>whnf)|refine AU ?_|(refine IW ?_ ?_<;>intro h<;>try(exfalso;omega)))<;>conv=>whnf)
  all_goals first
   |(refine FIN.valueK h0 rfl (congrArg SV.bool ?_)
     unfold YB;rw[List.getElem?_eq_none (by omega)])
   |(exfalso;simp_all;done)
 ·have hlt:i<ps.length:=by omega
  have hse:YB (Z1f least most digits) ps i=Z1f least most digits ps[i]:=by unfold YB;rw[List.getElem?_eq_getElem hlt]
  have hs:=hsm _ (List.getElem_mem hlt);repeat'((first|(refine GET.at (row:=Zc (ps[i]'(by omega))) (by rw[List.getElem?_map,show i+(0:Int).toNat=i by simp,List.getElem?_eq_getElem (by omega)];rfl) ?_;conv=>whnf)|(refine GETG.at (row:=Zc (ps[i]'(by omega))) (by rw[List.getElem?_map,show i+(0:Int).toNat=i by simp,List.getElem?_eq_getElem (by omega)];rfl) ?_;conv=>whnf)|refine CALL.value (WQ _ hs) rfl rfl ?_|refine CALL.value (Vj _ hs) rfl rfl ?_|refine AU ?_|(refine IW ?_ ?_<;>intro h<;>try(exfalso;omega)))<;>conv=>whnf)
  all_goals
   refine FIN.valueK h0 rfl (congrArg SV.bool ?_);rw[hse];unfold Z1f
  ·rw[show decide (least<=(ps[i].length:Int)/\(ps[i].length:Int)<=most)=false from decide_eq_false (by omega)];rfl
  ·rw[show decide (least<=(ps[i].length:Int)/\(ps[i].length:Int)<=most)=true from decide_eq_true (by omega)];simp[h]
  ·rw[show decide (least<=(ps[i].length:Int)/\(ps[i].length:Int)<=most)=true from decide_eq_true (by omega)];simp[h]
theorem YP(ps:List (List UInt8))(i m:Nat)(him:i+(m+1)=ps.length)(p:List UInt8)(hp:ps[i]?=some p):
 Does prog tab 289 2 [.ptr (.loc 0) 0 0 0] [(0,rd6 i (m+1))] [(1, .rows 1 (ps.map Zc))] (fun r O nx=>r= .str p/\O=[(0,rd6 (i+1) m)]/\nx=2):=by
 refine Does.enter Z0 call289 func289 rfl 19 rfl rfl [.tmp 2] rfl ?_;intro w0 F η0 h0;conv=>whnf
 repeat'((first|(refine GET.at (row:=Zc p) (by rw[List.getElem?_map,show i+(0:Int).toNat=i by simp,hp];rfl) ?_;conv=>whnf)|refine AU ?_|(refine IW ?_ ?_<;>intro h<;>try(exfalso;omega)))<;>conv=>whnf)
 exact FIN.here h0 (Oc:=[(0,rd6 (i+1) m)]) rfl rfl rfl ⟨rfl,trivial⟩ ⟨rfl,rfl,rfl⟩
theorem Zdn{b:Nat}:∀{l:List (List UInt8)},(∀s∈l,s.length<=b)->JC l<=b*l.length
 | [],_=>by simp[JC]
 |s::l,h=>by
  have h1:=h s (by simp);have h2:=Zdn (l:=l) fun x hx=>h x (by simp[hx]);unfold JC at*;simp only[List.map_cons,List.sum_cons,List.length_cons,Nat.mul_add];omega
theorem ZhU:Z1f 3 3 false=fun s=>ZD s 3 3 true:=funext (J4 3 3)
theorem Z4r(ps:List (List UInt8))(hb:JC ps+ps.length<=68719476736)(i m:Nat)(him:i+m=ps.length):
 Does prog tab 287 5 [.ptr (.loc 0) 0 0 0, .ptr (.loc 2) 0 0 0] [(0,rd6 i m),(2,tg6 [] [] [] [] 3 0 4 0 [])] [(1, .rows 1 (ps.map Zc))]
  (fun r O nx=> ∃(i' m':Nat) (L E:List UInt8),i'+m'=ps.length/\r= .bool (JI (ps.drop i)).isSome/\(∀l,JI (ps.drop i)=some l->l=ps.drop i'/\L≠ [])/\O=[(0,rd6 i' m'),(2,tg6 L E [] [] 3 0 4 0 [])]/\nx=5):=by
 have hsm:=Z0b (ps:=ps) (by omega);refine Does.enter Z0 call287 func287 rfl 41 rfl rfl [.tmp 4] rfl ?_;intro w0 F η0 h0;conv=>whnf
 refine CALL.aA [0,1] (JD 2 3 false ps hsm i m him) ?_;rintro r O' nx' ⟨rfl,rfl,rfl⟩;conv=>whnf
 refine IF.mk (fun h1=>?_) (fun h1=>?_)
 ·obtain⟨w,hw,hwm⟩:=ZK h1;rw[J4]at hwm;have hwl:=Js hwm;have hlt:=(List.getElem?_eq_some_iff.1 hw).1;obtain⟨k,rfl⟩:∃k,m=k+1:=⟨m-1,by omega⟩;have hne:w≠ []:=by rintro rfl;simp at hwl
  have hL:JI (ps.drop i)=some (extP 3 (ps.drop (i+1))):=by
   rw[ZU hw];simp only[JI];rw[if_pos (by rw[Z3L,J4,hwm];rfl),if_neg (by omega)]
  conv=>whnf
  refine CALL.aA [0,1] (YP ps i k him w hw) ?_;rintro r O' nx' ⟨rfl,rfl,rfl⟩;conv=>whnf
  refine LOOP.nil 5 1 rfl ?_;refine LOOP.go Z0 [0,1] (X:=List (List UInt8)×Nat) (fun y=>y.1.length<=3/\(∀s∈y.1,s.length<=3)/\y.2+(ps.length-y.2)=ps.length/\extP 3 (ps.drop (i+1))=extP (3-y.1.length) (ps.drop y.2)) (fun y=>[(5, .sl (.loc 5) 0 1 y.1.length none)]) (fun y=>[(0,rd6 y.2 (ps.length-y.2)),(2,tg6 w [] [] [] 3 0 4 0 []),(5, .rows 1 (y.1.map Zc))]) 6 (fun y=>3-y.1.length) ([],i+1) ⟨by simp,by simp,by simp only;omega,rfl⟩ ?_;conv=>whnf
  rw[show ps.length-(i+1)=k by omega];refine⟨by exact GOES.kA h0 [5],?_⟩;rintro⟨l,a⟩ ⟨hl,hls,ha,hx⟩;dsimp only at hl hls ha hx⊢
  have fin:YB (fun s=>ZD s 3 3 true) ps a=false\/l.length=3->extP 3 (ps.drop (i+1))=ps.drop a:=by
   rintro(h|h)
   ·rw[hx,ZfN h]
   ·rw[hx,h];rfl
  have hbl:=Zdn hls;conv=>whnf
  refine IF.mk (fun h=>?_) (fun h=>?_)
  ·have h:l.length<3:=by simp at h;omega
   conv=>whnf
   repeat'((first|refine AU ?_|(refine IW ?_ ?_<;>intro h<;>try(exfalso;omega)))<;>conv=>whnf)
   refine CALL.aA [0,1] (JD 3 3 false ps hsm a (ps.length-a) ha) ?_;rintro r O' nx' ⟨rfl,rfl,rfl⟩;conv=>whnf
   repeat'((first|refine AU ?_|(refine IW ?_ ?_<;>intro h<;>try(exfalso;omega)))<;>conv=>whnf)
   ·obtain⟨u,hu,hum⟩:=ZK h;rw[J4]at hum;have hul:=Js hum;have hlt2:=(List.getElem?_eq_some_iff.1 hu).1;obtain⟨k',hk'⟩:∃k',ps.length-a=k'+1:=⟨ps.length-a-1,by omega⟩;rw[hk'];refine CALL.aA [0,1] (YP ps a k' (by omega) u hu) ?_;rintro r O' nx' ⟨rfl,rfl,rfl⟩;conv=>whnf
    repeat'((first|refine AU ?_|(refine IW ?_ ?_<;>intro h<;>try(exfalso;omega)))<;>conv=>whnf)
    refine⟨(l++ [u],a+1),⟨by simp;omega,?_,by simp only;omega,?_⟩,by simp;omega,?_⟩
    ·intro x hx';rcases List.mem_append.1 hx' with h|h
     ·exact hls x h
     ·rw[List.mem_singleton.1 h];omega
    ·dsimp only;rw[hx,ZU hu,show 3-l.length=(3-(l++ [u]).length)+1 by simp;omega];simp only[extP];rw[if_pos hum]
    ·dsimp only;rw[show ps.length-(a+1)=k' by omega,show(l++ [u]).length=l.length+1 by simp];conv=>whnf
     exact GOES.kA h0 [7]
   ·rw[ZhU]at h;refine CALL.aA [5] (J6 l (by omega) 0 l.length (by omega)) ?_;rintro r O' nx' ⟨E,hE,_,rfl,rfl,rfl⟩;conv=>whnf
    exact FIN.here h0 (Oc:=[(0,rd6 (a) (ps.length-a)),(2,tg6 (w) (E) [] [] 3 0 4 0 [])]) rfl rfl rfl ⟨rfl,rfl,trivial⟩ ⟨a,ps.length-a,w,E,by omega,by rw[hL];rfl,by rw[hL];rintro x ⟨⟩;exact⟨fin (.inl h),hne⟩,rfl,rfl⟩
  ·have h:l.length=3:=by simp at h;omega
   conv=>whnf
   repeat'((first|refine AU ?_|(refine IW ?_ ?_<;>intro h<;>try(exfalso;omega)))<;>conv=>whnf)
   refine CALL.aA [5] (J6 l (by omega) 0 l.length (by omega)) ?_;rintro r O' nx' ⟨E,hE,_,rfl,rfl,rfl⟩;conv=>whnf
   exact FIN.here h0 (Oc:=[(0,rd6 (a) (ps.length-a)),(2,tg6 (w) (E) [] [] 3 0 4 0 [])]) rfl rfl rfl ⟨rfl,rfl,trivial⟩ ⟨a,ps.length-a,w,E,by omega,by rw[hL];rfl,by rw[hL];rintro x ⟨⟩;exact⟨fin (.inr h),hne⟩,rfl,rfl⟩
 ·conv=>whnf
  refine CALL.aA [0,1] (JD 4 8 false ps hsm i m him) ?_;rintro r O' nx' ⟨rfl,rfl,rfl⟩;conv=>whnf
  refine IF.mk (fun h2=>?_) (fun h2=>?_)
  ·obtain⟨w,hw,hwm⟩:=ZK h2;have hwm':=hwm;rw[J4]at hwm;have hwl:=Js hwm;have hlt:=(List.getElem?_eq_some_iff.1 hw).1;obtain⟨k,rfl⟩:∃k,m=k+1:=⟨m-1,by omega⟩;have hne:w≠ []:=by rintro rfl;simp at hwl
   have hL:JI (ps.drop i)=some (ps.drop (i+1)):=by
    rw[ZU hw];simp only[JI];rw[if_pos (by rw[Z3L,hwm',Bool.or_true]),if_pos (by omega)]
   conv=>whnf
   refine CALL.aA [0,1] (YP ps i k him w hw) ?_;rintro r O' nx' ⟨rfl,rfl,rfl⟩;conv=>whnf
   exact FIN.here h0 (Oc:=[(0,rd6 (i+1) (k)),(2,tg6 (w) ([]) [] [] 3 0 4 0 [])]) rfl rfl rfl ⟨rfl,rfl,trivial⟩ ⟨i+1,k,w,[],by omega,by rw[hL];rfl,by rw[hL];rintro x ⟨⟩;exact⟨rfl,hne⟩,rfl,rfl⟩
  ·have hL:JI (ps.drop i)=none:=by
    rcases XK h1 with h|⟨s,hs,h3,h4⟩
    ·rw[h];rfl
    ·rcases XK h2 with h|⟨s',hs',h5,h6⟩
     ·rw[h]at h3;cases h3
     ·rw[hs]at hs';cases hs';rw[h3];simp only[JI];rw[if_neg (by rw[Z3L,h4,h6];simp)]
   conv=>whnf
   exact FIN.here h0 (Oc:=[(0,rd6 (i) (m)),(2,tg6 ([]) ([]) [] [] 3 0 4 0 [])]) rfl rfl rfl ⟨rfl,rfl,trivial⟩ ⟨i,m,[],[],by omega,by rw[hL];rfl,by simp[hL],rfl,rfl⟩
open Tryz
def Z1k:Plan:=(Zu [(0,1),(1,1),(2,1),(4,1),(9,1),(10,1),(3,2),(5,1),(6,2),(7,1),(11,2),(8,3),(12,3),(13,1)])
def Z1l:Plan:=(Zu [(0,1),(1,1),(2,1),(3,1),(5,1),(4,2),(6,3),(7,3),(8,0),(9,1),(10,1),(11,0)])
def dupM(xs:List (List UInt8))(w:List UInt8):Bool:=xs.any fun x=>Z4 (x.take 1)==Z4 w
theorem Zab{xs:List (List UInt8)}{w:List UInt8}{i:Nat}(h:i<xs.length):dupM (xs.drop i) w=(Z4 (xs[i].take 1)==Z4 w||dupM (xs.drop (i+1)) w):=by
 unfold dupM;rw[List.drop_eq_getElem_cons h];rfl
theorem W3(ps:List (List UInt8))(hb:JC ps+ps.length<=34359738368)(a m:Nat)(ham:a+(m+1)=ps.length)(w:List UInt8)(hw:ps[a]?=some w)(hw1:w.length=1)
 (L E S R:List UInt8) (v:Nat) (P:List UInt8) (xs:List (List UInt8)) (hxs:∀x∈xs,1<=x.length/\Sm x) (hxl:xs.length<=34359738368):
 Does prog tab 292 5 [.ptr (.loc 0) 0 0 0, .ptr (.loc 2) 0 0 0] [(0,rd6 a (m+1)),(2,tg6 L E S R 3 v 4 xs.length P),(4, .rows 1 (xs.map Zc))] [(1, .rows 1 (ps.map Zc))]
  (fun r O nx=> ∃(n:Nat) (xs':List (List UInt8)),n=ZS (YL 2) (ps.drop (a+1))/\r= .bool (!dupM xs w&&decide (n≠0))/\(dupM xs w=false->∃z,xs'=xs++ [z]/\z.take 1=w/\Sm z)/\
    O=[(0,rd6 (a+1+n) (m-n)),(2,tg6 L E S R 3 v 5 xs'.length P),(5, .rows 1 (xs'.map Zc))]/\nx=6):=by
 have hsm:=Z0b (ps:=ps) (by omega);have hwl:Sm w:=hsm w (List.mem_of_getElem? hw);refine Does.enter Z0 call292 func292 rfl 69 rfl rfl [.tmp 4] rfl ?_;intro w0 F η0 h0;conv=>whnf
 refine CALL.aA [0,1] (YP ps a m ham w hw) ?_;rintro r O' nx' ⟨rfl,rfl,rfl⟩;conv=>whnf
 refine LOOP.go Z0 [0,1] (X:=Nat×List (List UInt8)) (fun y=>y.1<=m/\y.2.length=y.1+1/\y.2[0]?=some w/\JC y.2<=((ps.take (a+1+y.1)).map List.length).sum/\ZS (YL 2) (ps.drop (a+1))=y.1+ZS (YL 2) (ps.drop (a+1+y.1))) (fun y=>[(5, .sl (.loc 5) 0 1 y.2.length none)]) (fun y=>[(0,rd6 (a+1+y.1) (m-y.1)),(2,tg6 L E S R 3 v 4 xs.length P),(4, .rows 1 (xs.map Zc)),(5, .rows 1 (y.2.map Zc))]) 6 (fun y=>m-y.1) (0,[w]) ⟨by simp,by simp,by simp,?_,by simp⟩ ?_
 ·simp only[Nat.add_zero];rw[WM hw];simp[JC]
 conv=>whnf
 refine⟨by exact GOES.kA h0 [5],?_⟩;rintro⟨c,l⟩ ⟨hc,hl,hl0,hlb,hx⟩;dsimp only at hc hl hl0 hlb hx⊢;have hlt0:=YO ps (a+1+c);have out:∀(n:Nat),ZS (YL 2) (ps.drop (a+1+c))=0->ZS (YL 2) (ps.drop (a+1))=c:=by intro n h;omega
 conv=>whnf
 rcases Nat.lt_or_ge c m with hcm|hcm
 ·have hlt:a+1+c<ps.length:=by omega
  have hs:=hsm _ (List.getElem_mem hlt);have hs1:=WM (List.getElem?_eq_getElem hlt);repeat'((first|(refine GET.at (row:=Zc (ps[a+1+c]'(by omega))) (by rw[List.getElem?_map,show a+1+c+(0:Int).toNat=a+1+c by simp,List.getElem?_eq_getElem (by omega)];rfl) ?_;conv=>whnf)|refine CALL.value (Vk _ _ _ hs) rfl rfl ?_|refine AU ?_|(refine IW ?_ ?_<;>intro h<;>try(exfalso;omega)))<;>conv=>whnf)
  ·obtain⟨k',hk'⟩:∃k',m-c=k'+1:=⟨m-c-1,by omega⟩;rw[hk'];refine CALL.aA [0,1] (YP ps (a+1+c) k' (by omega) _ (List.getElem?_eq_getElem hlt)) ?_;rintro r O' nx' ⟨rfl,rfl,rfl⟩;conv=>whnf
   repeat'((first|refine AU ?_|(refine IW ?_ ?_<;>intro h<;>try(exfalso;omega)))<;>conv=>whnf)
   have e:(l++ [ps[a+1+c]]).length=l.length+1:=by simp
   refine⟨(c+1,l++ [ps[a+1+c]]),⟨by simp only;omega,by simp;omega,by simp only;rw[List.getElem?_append_left (by omega),hl0],?_,?_⟩,by simp only;omega,?_⟩
   ·simp only;rw[show a+1+(c+1)=a+1+c+1 by omega,hs1];simp[JC]at hlb⊢;omega
   ·simp only;rw[hx,List.drop_eq_getElem_cons hlt];simp only[ZS];rw[if_pos h];show c+(ZS _ _+1)=_
    rw[show a+1+(c+1)=a+1+c+1 by omega];omega
   ·dsimp only;rw[e,show a+1+(c+1)=a+1+c+1 by omega,show m-(c+1)=k' by omega];conv=>whnf
    exact GOES.kA h0 [7]
  ·have hn:ZS (YL 2) (ps.drop (a+1))=c:=by
    rw[hx,List.drop_eq_getElem_cons hlt];simp only[ZS];rw[if_neg (by simp[h])];rfl
   refine LOOP.go Z0 [1,5] (X:=Nat) (fun i=>i<=xs.length/\dupM xs w=dupM (xs.drop i) w) (fun i=>[(7, .int .i64 (i:Int))]) (fun i=>[(0,rd6 (a+1+c) (m-c)),(2,tg6 L E S R 3 v 4 xs.length P),(4, .rows 1 (xs.map Zc)),(5, .rows 1 (l.map Zc))]) 6 (fun i=>xs.length-i) 0 ⟨by omega,rfl⟩ ?_;conv=>whnf
   refine⟨by exact GOES.kA h0 [5],?_⟩;rintro i ⟨hi,hd⟩;dsimp only at hi hd⊢;conv=>whnf
   rcases Nat.lt_or_ge i xs.length with him|him
   ·obtain⟨hx1,hx2⟩:=hxs _ (List.getElem_mem him);have hsub:Sm (xs[i].take (1:Int).toNat):=by simp;omega
    repeat'((first|refine DRAWN.of (id:=8) Z0 mixed Z1k (by kernel_rfl) ?_|refine DRAWN.of (id:=10) Z0 mixed Z1l (by kernel_rfl) ?_|refine ADD.mk (fun _ _=>?_)|refine AD ?_|refine FORK.mk ?_ ?_|(refine GET.at (row:=Zc (xs[i]'(by omega))) (by rw[List.getElem?_map,show 0+(i:Int).toNat=i by simp,List.getElem?_eq_getElem (by omega)];rfl) ?_;conv=>whnf)|(refine GET.at (row:=Zc w) (by rw[List.getElem?_map,show 0+(0:Int).toNat=0 by simp,hl0];rfl) ?_;conv=>whnf)|refine CALL.value (YE _ hsub) rfl rfl ?_|refine CALL.value (YE _ hwl) rfl rfl ?_|refine AU ?_|(refine IW ?_ ?_<;>intro h<;>try(exfalso;omega)))<;>conv=>whnf)
    ·have hdup:dupM xs w=true:=by rw[hd,Zab him,beq_iff_eq.2 h];rfl
     refine FIN.aA h0 [4] (.bool false) [(0,rd6 (a+1+c) (m-c)),(2,tg6 L E S R 3 v 5 xs.length P),(5, .rows 1 (xs.map Zc))] ?_;exact⟨c,xs,hn.symm,by rw[hdup];rfl,by simp[hdup],rfl,rfl⟩
    ·refine⟨i+1,⟨by omega,?_⟩,by omega,?_⟩
     ·rw[hd,Zab him];have:(Z4 (xs[i].take 1)==Z4 w)=false:=by simpa using h
      rw[this,Bool.false_or]
     ·conv=>whnf
      exact GOES.kA h0 [5]
   ·have hdup:dupM xs w=false:=by rw[hd,List.drop_eq_nil_of_le (by omega)];rfl
    repeat'((first|refine DRAWN.of (id:=8) Z0 mixed Z1k (by kernel_rfl) ?_|refine DRAWN.of (id:=10) Z0 mixed Z1l (by kernel_rfl) ?_|refine ADD.mk (fun _ _=>?_)|refine AD ?_|refine FORK.mk ?_ ?_|refine AU ?_|(refine IW ?_ ?_<;>intro h<;>try(exfalso;omega)))<;>conv=>whnf)
    refine CALL.aA [5] (J6 l (by omega) 0 l.length (by omega)) ?_;rintro r O' nx' ⟨z,hz,hzw,rfl,rfl,rfl⟩;conv=>whnf
    repeat'((first|refine DRAWN.of (id:=8) Z0 mixed Z1k (by kernel_rfl) ?_|refine DRAWN.of (id:=10) Z0 mixed Z1l (by kernel_rfl) ?_|refine ADD.mk (fun _ _=>?_)|refine AD ?_|refine FORK.mk ?_ ?_|refine AU ?_|(refine IW ?_ ?_<;>intro h<;>try(exfalso;omega)))<;>conv=>whnf)
    obtain⟨t,rfl⟩:=hzw w hl0;have e:(xs++ [w++t]).length=xs.length+1:=by simp
    have ec:decide ((1:Int)< (l.length:Int))=decide (c≠0):=decide_eq_decide.2 (by omega);rw[ec];refine FIN.aA h0 [7] (.bool (decide (c≠0))) [(0,rd6 (a+1+c) (m-c)),(2,tg6 L E S R 3 v 5 (xs.length+1) P),(5, .rows 1 ((xs++ [w++t]).map Zc))] ?_;exact⟨c,xs++ [w++t],hn.symm,by rw[hdup];rfl,fun _=>⟨_,rfl,by rw[List.take_append_of_le_length (by omega),List.take_of_length_le (by omega)],by omega⟩,by rw[e],rfl⟩
 ·repeat'((first|refine AU ?_|(refine IW ?_ ?_<;>intro h<;>try(exfalso;omega)))<;>conv=>whnf)
  have hn:ZS (YL 2) (ps.drop (a+1))=c:=by
   rw[hx,List.drop_eq_nil_of_le (by omega)];rfl
  refine LOOP.go Z0 [1,5] (X:=Nat) (fun i=>i<=xs.length/\dupM xs w=dupM (xs.drop i) w) (fun i=>[(7, .int .i64 (i:Int))]) (fun i=>[(0,rd6 (a+1+c) (m-c)),(2,tg6 L E S R 3 v 4 xs.length P),(4, .rows 1 (xs.map Zc)),(5, .rows 1 (l.map Zc))]) 6 (fun i=>xs.length-i) 0 ⟨by omega,rfl⟩ ?_;conv=>whnf
  refine⟨by exact GOES.kA h0 [5],?_⟩;rintro i ⟨hi,hd⟩;dsimp only at hi hd⊢;conv=>whnf
  rcases Nat.lt_or_ge i xs.length with him|him
  ·obtain⟨hx1,hx2⟩:=hxs _ (List.getElem_mem him);have hsub:Sm (xs[i].take (1:Int).toNat):=by simp;omega
   repeat'((first|refine DRAWN.of (id:=8) Z0 mixed Z1k (by kernel_rfl) ?_|refine DRAWN.of (id:=10) Z0 mixed Z1l (by kernel_rfl) ?_|refine ADD.mk (fun _ _=>?_)|refine AD ?_|refine FORK.mk ?_ ?_|(refine GET.at (row:=Zc (xs[i]'(by omega))) (by rw[List.getElem?_map,show 0+(i:Int).toNat=i by simp,List.getElem?_eq_getElem (by omega)];rfl) ?_;conv=>whnf)|(refine GET.at (row:=Zc w) (by rw[List.getElem?_map,show 0+(0:Int).toNat=0 by simp,hl0];rfl) ?_;conv=>whnf)|refine CALL.value (YE _ hsub) rfl rfl ?_|refine CALL.value (YE _ hwl) rfl rfl ?_|refine AU ?_|(refine IW ?_ ?_<;>intro h<;>try(exfalso;omega)))<;>conv=>whnf)
   ·have hdup:dupM xs w=true:=by rw[hd,Zab him,beq_iff_eq.2 h];rfl
    refine FIN.aA h0 [4] (.bool false) [(0,rd6 (a+1+c) (m-c)),(2,tg6 L E S R 3 v 5 xs.length P),(5, .rows 1 (xs.map Zc))] ?_;exact⟨c,xs,hn.symm,by rw[hdup];rfl,by simp[hdup],rfl,rfl⟩
   ·refine⟨i+1,⟨by omega,?_⟩,by omega,?_⟩
    ·rw[hd,Zab him];have:(Z4 (xs[i].take 1)==Z4 w)=false:=by simpa using h
     rw[this,Bool.false_or]
    ·conv=>whnf
     exact GOES.kA h0 [5]
  ·have hdup:dupM xs w=false:=by rw[hd,List.drop_eq_nil_of_le (by omega)];rfl
   repeat'((first|refine DRAWN.of (id:=8) Z0 mixed Z1k (by kernel_rfl) ?_|refine DRAWN.of (id:=10) Z0 mixed Z1l (by kernel_rfl) ?_|refine ADD.mk (fun _ _=>?_)|refine AD ?_|refine FORK.mk ?_ ?_|refine AU ?_|(refine IW ?_ ?_<;>intro h<;>try(exfalso;omega)))<;>conv=>whnf)
   refine CALL.aA [5] (J6 l (by omega) 0 l.length (by omega)) ?_;rintro r O' nx' ⟨z,hz,hzw,rfl,rfl,rfl⟩;conv=>whnf
   repeat'((first|refine DRAWN.of (id:=8) Z0 mixed Z1k (by kernel_rfl) ?_|refine DRAWN.of (id:=10) Z0 mixed Z1l (by kernel_rfl) ?_|refine ADD.mk (fun _ _=>?_)|refine AD ?_|refine FORK.mk ?_ ?_|refine AU ?_|(refine IW ?_ ?_<;>intro h<;>try(exfalso;omega)))<;>conv=>whnf)
   obtain⟨t,rfl⟩:=hzw w hl0;have e:(xs++ [w++t]).length=xs.length+1:=by simp
   have ec:decide ((1:Int)< (l.length:Int))=decide (c≠0):=decide_eq_decide.2 (by omega);rw[ec];refine FIN.aA h0 [7] (.bool (decide (c≠0))) [(0,rd6 (a+1+c) (m-c)),(2,tg6 L E S R 3 v 5 (xs.length+1) P),(5, .rows 1 ((xs++ [w++t]).map Zc))] ?_;exact⟨c,xs++ [w++t],hn.symm,by rw[hdup];rfl,fun _=>⟨_,rfl,by rw[List.take_append_of_le_length (by omega),List.take_of_length_le (by omega)],by omega⟩,by rw[e],rfl⟩
theorem Z0G(ps:List (List UInt8))(hb:JC ps+ps.length<=34359738368)(a m:Nat)(ham:a+m=ps.length)(ha:a<ps.length)
 (L E S R:List UInt8) (v x:Nat) (P:List UInt8):
 Does prog tab 293 5 [.ptr (.loc 0) 0 0 0, .ptr (.loc 2) 0 0 0] [(2,tg6 L E S R 3 v 4 x P)] [(0,rd6 a m),(1, .rows 1 (ps.map Zc))]
  (fun r O nx=> ∃P',r= .bool (decide (ZS (YL 1) (ps.drop (a+1))≠0/\ZS (YL 1) (ps.drop (a+1))=(ps.drop (a+1)).length))/\O=[(2,tg6 L E S R 3 v 4 x P')]/\nx=5):=by
 have hsm:=Z0b (ps:=ps) (by omega);have hspan:=VI (YL 1) (ps.drop (a+1));rw[List.length_drop]at hspan⊢;refine Does.enter Z0 call293 func293 rfl 40 rfl rfl [.tmp 4] rfl ?_;intro w0 F η0 h0;conv=>whnf
 refine CALL.aA [1] (J6 ps (by omega) a m ham) ?_;rintro r O' nx' ⟨z,hz,_,rfl,rfl,rfl⟩;conv=>whnf
 refine IF.mk (fun h=>?_) (fun h=>?_)
 ·have h:m<2:=by simp at h;omega
  conv=>whnf
  exact FIN.here h0 (rc:= .bool _) (Oc:=[(2,tg6 L E S R 3 v 4 x z)]) rfl rfl rfl ⟨rfl,trivial⟩ ⟨z,congrArg SV.bool (decide_eq_false (by omega)).symm,rfl,rfl⟩
 have h:2<=m:=by simp at h;omega
 conv=>whnf
 refine LOOP.go Z0 [0] (X:=Nat) (fun i=>1<=i/\i<=m/\ZS (YL 1) (ps.drop (a+1))=(i-1)+ZS (YL 1) (ps.drop (a+i))) (fun i=>[(5, .int .i64 (i:Int))]) (fun i=>[(2,tg6 L E S R 3 v 4 x z)]) 5 (fun i=>m-i) 1 ⟨by omega,by omega,by simp⟩ ?_;conv=>whnf
 refine⟨by exact GOES.cA h0,?_⟩;rintro i ⟨hi1,hi,hx⟩;dsimp only at hi1 hi hx⊢;conv=>whnf
 rcases Nat.lt_or_ge i m with him|him
 ·have hlt:a+i<ps.length:=by omega
  have hs:=hsm _ (List.getElem_mem hlt);rw[List.drop_eq_getElem_cons hlt]at hx;simp only[ZS]at hx;repeat'((first|(refine GET.at (row:=Zc (ps[a+i]'(by omega))) (by rw[List.getElem?_map,show a+(i:Int).toNat=a+i by simp,List.getElem?_eq_getElem (by omega)];rfl) ?_;conv=>whnf)|refine CALL.value (Vk _ _ _ hs) rfl rfl ?_|refine AU ?_|(refine IW ?_ ?_<;>intro h<;>try(exfalso;omega)))<;>conv=>whnf)
  ·rw[if_neg (by simp[YL,h])]at hx;exact FIN.here h0 (rc:= .bool _) (Oc:=[(2,tg6 L E S R 3 v 4 x z)]) rfl rfl rfl ⟨rfl,trivial⟩ ⟨z,congrArg SV.bool (decide_eq_false (by omega)).symm,rfl,rfl⟩
  ·rw[if_pos (by simp[YL,h])]at hx;refine⟨i+1,⟨by omega,by omega,by rw[hx,show a+(i+1)=a+i+1 by omega];omega⟩,by omega,?_⟩;conv=>whnf
   exact GOES.cA h0
 ·rw[show ps.drop (a+i)=[]from List.drop_eq_nil_of_le (by omega)]at hx;simp only[ZS]at hx;repeat'((first|refine AU ?_|(refine IW ?_ ?_<;>intro h<;>try(exfalso;omega)))<;>conv=>whnf)
  exact FIN.here h0 (rc:= .bool _) (Oc:=[(2,tg6 L E S R 3 v 4 x z)]) rfl rfl rfl ⟨rfl,trivial⟩ ⟨z,congrArg SV.bool (decide_eq_true (by omega)).symm,rfl,rfl⟩
end Go.Proofs.YtlcbipfmodcedaaGreatDoor
