/- Part 15: StrLib, Iri, Iri2, Names1, Part1, Names2, Part2. Conditions: as each part says. -/
import Derived.Lib.Bytealg
import Derived.Test.YtlcbipfmodcedaaGreatDoorRfn9
set_option linter.unusedVariables false
set_option linter.unusedSimpArgs false
set_option maxRecDepth 20000
set_option maxHeartbeats 8000000
namespace Go.Proofs.YtlcbipfmodcedaaGreatDoor
open Go.Sx Go.Our
open Tryz
theorem JP(s:List UInt8)(c:Int):Does prog tab 315 0 [.str s, .int .u8 c] [] [] (Val (.int .i64 (Lib.indexByte s c.toNat.toUInt8))):=by
 refine Does.says fun η w vs hd=>?_;simp only[DenL,Den]at hd;obtain⟨u,us,rfl,rfl,u',us',rfl,rfl,rfl⟩:=hd;refine⟨_,?_,rfl⟩;rw[run_callFunc_extern func315 (by kernel_rfl) (by kernel_rfl) (by kernel_rfl) (e:=Extern.BytealgIndexByte.indexByte) (by kernel_rfl),Lib.run_indexByteString]
 rfl
theorem UB(s:List UInt8)(c:Int):Does prog tab 301 0 [.str s, .int .u8 c] [] [] (Val (.int .i64 (Lib.indexByte s c.toNat.toUInt8))):=by
 refine Does.enter Z0 call301 func301 rfl 8 rfl rfl [.tmp 4] rfl ?_;intro w0 F η0 h0;conv=>whnf
 repeat'((first|refine CALL.value (JP _ _) rfl rfl ?_|refine AU ?_|(refine IW ?_ ?_<;>intro h<;>try(exfalso;omega)))<;>conv=>whnf)
 exact FIN.value h0 rfl rfl
theorem VK(s:List UInt8)(c:Int):Does prog tab 269 0 [.str s, .int .u8 c] [] [] (Val (.int .i64 (Lib.indexByte s c.toNat.toUInt8))):=by
 refine Does.enter Z0 call269 func269 rfl 8 rfl rfl [.tmp 4] rfl ?_;intro w0 F η0 h0;conv=>whnf
 repeat'((first|refine CALL.value (UB _ _) rfl rfl ?_|refine AU ?_|(refine IW ?_ ?_<;>intro h<;>try(exfalso;omega)))<;>conv=>whnf)
 exact FIN.value h0 rfl rfl
theorem Z4j(r:Int):Does prog tab 308 0 [.int .i32 r] [] [] (Val (.bool (Uh r))):=by
 refine Does.enter Z0 call308 func308 rfl 17 rfl rfl [.tmp 2] rfl ?_;intro w0 F η0 h0;conv=>whnf
 repeat'((first|refine AU ?_|(refine IW ?_ ?_<;>intro h<;>try(exfalso;omega)))<;>conv=>whnf)
 all_goals
  refine FIN.value h0 rfl (congrArg SV.bool ?_);rw[Bool.eq_iff_iff,YU];simp;try omega
theorem Z7D(g:Nat)(p:Int->Bool)(hp:∀r:Int,Yq r->Does prog tab g 0 [.int .i32 r] [] [] (Val (.bool (p r))))(s:List UInt8)(hs:Sm s):Does prog tab 250 0 [.str s, .fn (.func g) [] [], .bool true] [] [] (Val (.int .i64 (idxF p s 0))):=by
 refine Does.enter Z0 call250 func250 rfl 21 rfl rfl [.tmp 6] rfl ?_;intro w0 F η0 h0;conv=>whnf
 refine LOOP.go Z0 [1,2,10] (X:=Nat) (fun i=>i<=s.length/\idxF p s i=idxF p s 0) (fun i=>[]) (fun i=>[(0, .siter s i)]) 1 (fun i=>s.length-i) 0 ⟨by omega,rfl⟩ ?_;conv=>whnf
 refine⟨by exact GOES.cA h0,?_⟩;rintro i ⟨hi,hc⟩;conv=>whnf
 refine⟨fun h=>?_,fun h=>?_⟩
 ·have h:i<s.length:=by simpa using h
  have hf:=Z3D s i h;have hd:=Z2q s i;conv=>whnf
  repeat'((first|refine CALL.value (hp _ (Z8O s i)) rfl rfl ?_|refine AU ?_|(refine IW ?_ ?_<;>intro h<;>try(exfalso;omega)))<;>conv=>whnf)
  ·refine FIN.value h0 rfl ?_;rw[<-hc,Zdb (by omega) (by simpa using h)]
  ·refine⟨i+(deco s i).2,⟨by omega,?_⟩,by omega,?_⟩
   ·rw[<-hc,<-Z3F (by omega) (by simpa using h)]
   ·conv=>whnf
    exact GOES.cA h0
 ·have h:s.length<=i:=by simpa using h
  conv=>whnf
  repeat'((first|refine AU ?_|(refine IW ?_ ?_<;>intro h<;>try(exfalso;omega)))<;>conv=>whnf)
  refine FIN.value h0 rfl ?_;rw[<-hc,Za0 h]
theorem Z4k(g:Nat)(p:Int->Bool)(hp:∀r:Int,Yq r->Does prog tab g 0 [.int .i32 r] [] [] (Val (.bool (p r))))(s:List UInt8)(hs:Sm s):Does prog tab 204 0 [.str s, .fn (.func g) [] []] [] [] (Val (.int .i64 (idxF p s 0))):=by
 refine Does.enter Z0 call204 func204 rfl 8 rfl rfl [.tmp 4] rfl ?_;intro w0 F η0 h0;conv=>whnf
 repeat'((first|refine CALL.value (Z7D g p hp s hs) rfl rfl ?_|refine AU ?_|(refine IW ?_ ?_<;>intro h<;>try(exfalso;omega)))<;>conv=>whnf)
 exact FIN.value h0 rfl rfl
end Go.Proofs.YtlcbipfmodcedaaGreatDoor
namespace Go.Proofs.YtlcbipfmodcedaaGreatDoor
open Go.Sx Go.Our
open Tryz
theorem Z25(c:Int):Does prog tab 280 0 [.int .u8 c] [] [] (Val (.bool (VH c))):=by
 refine Does.enter Z0 call280 func280 rfl 16 rfl rfl [.tmp 2] rfl ?_;intro w0 F η0 h0;conv=>whnf
 repeat'((first|refine AU ?_|(refine IW ?_ ?_<;>intro h<;>try(exfalso;omega)))<;>conv=>whnf)
 all_goals
  refine FIN.value h0 rfl (congrArg SV.bool ?_);rw[Bool.eq_iff_iff,Z1S];unfold Our.Barred;simp;try omega
theorem Z26(c:Int):Does prog tab 281 0 [.int .u8 c] [] [] (Val (.bool (decide (J2 c)))):=by
 refine Does.enter Z0 call281 func281 rfl 17 rfl rfl [.tmp 2] rfl ?_;intro w0 F η0 h0;conv=>whnf
 repeat'((first|refine AU ?_|(refine IW ?_ ?_<;>intro h<;>try(exfalso;omega)))<;>conv=>whnf)
 refine FIN.value h0 rfl (congrArg SV.bool ?_);rw[Bool.eq_iff_iff];simp only[Bool.cond_eq_ite,decide_eq_true_eq,Bool.if_false_right,Bool.if_true_left,Bool.and_eq_true,Bool.or_eq_true]
 rfl
theorem Z3N(c:Int):Does prog tab 282 0 [.int .u8 c] [] [] (Val (.bool (decide (48<=c/\c<=57)))):=by
 refine Does.enter Z0 call282 func282 rfl 9 rfl rfl [.tmp 2] rfl ?_;intro w0 F η0 h0;conv=>whnf
 repeat'((first|refine AU ?_|(refine IW ?_ ?_<;>intro h<;>try(exfalso;omega)))<;>conv=>whnf)
 refine FIN.value h0 rfl (congrArg SV.bool ?_);rw[Bool.eq_iff_iff];simp only[Bool.cond_eq_ite,decide_eq_true_eq,Bool.if_false_right,Bool.if_true_left,Bool.and_eq_true,Bool.or_eq_true]
theorem Z0a(s:List UInt8)(hs:Sm s):Does prog tab 240 0 [.str s] [] [] (Val (.int .i64 (refM s))):=by
 refine Does.enter Z0 call240 func240 rfl 20 rfl rfl [.tmp 2] rfl ?_;intro w0 F η0 h0;conv=>whnf
 repeat'((first|refine CALL.value (W0 s hs) rfl rfl ?_|refine AU ?_|(refine IW ?_ ?_<;>intro h<;>try(exfalso;omega)))<;>conv=>whnf)
 ·refine FIN.value h0 rfl ?_;unfold refM;rw[if_pos (by omega)]
 ·refine FIN.value h0 rfl ?_;unfold refM;rw[if_neg (by omega),if_pos (by omega)]
 refine LOOP.go Z0 [0] (X:=Nat) (fun i=>i<=s.length/\anyB VH s i=anyB VH s 0) (fun i=>[(3, .int .i64 (i:Int))]) (fun i=>[]) 0 (fun i=>s.length-i) 0 ⟨by omega,rfl⟩ ?_;conv=>whnf
 refine⟨by exact GOES.cA h0,?_⟩;rintro i ⟨hi,hc⟩;conv=>whnf
 repeat'((first|refine CALL.value (Z25 _) rfl rfl ?_|refine AU ?_|(refine IW ?_ ?_<;>intro h<;>try(exfalso;omega)))<;>conv=>whnf)
 ·refine FIN.value h0 rfl ?_;unfold refM;rw[if_neg (by omega),if_neg (by omega),<-hc,Z3G (by omega),h];rfl
 ·refine⟨i+1,⟨by omega,?_⟩,by omega,?_⟩
  ·rw[<-hc,Z3G (i:=i) (by omega),h,Bool.false_or]
  ·conv=>whnf
   exact GOES.cA h0
 ·refine FIN.value h0 rfl ?_;unfold refM;rw[if_neg (by omega),if_neg (by omega),<-hc,Z5U (by omega)];rfl
theorem Z27(s:List UInt8)(hs:Sm s):Does prog tab 241 0 [.str s] [] [] (Val (.int .i64 (schM s 0))):=by
 refine Does.enter Z0 call241 func241 rfl 41 rfl rfl [.tmp 2] rfl ?_;intro w0 F η0 h0;conv=>whnf
 refine LOOP.go Z0 [0] (X:=Nat) (fun i=>i<=s.length/\schM s i=schM s 0) (fun i=>[(3, .int .i64 (i:Int))]) (fun i=>[]) 0 (fun i=>s.length-i) 0 ⟨by omega,rfl⟩ ?_;conv=>whnf
 refine⟨by exact GOES.cA h0,?_⟩;rintro i ⟨hi,hc⟩;conv=>whnf
 repeat'((first|refine CALL.value (Z26 _) rfl rfl ?_|refine CALL.value (Z3N _) rfl rfl ?_|refine AU ?_|(refine IW ?_ ?_<;>intro h<;>try(exfalso;omega)))<;>conv=>whnf)
 all_goals first
  |(refine FIN.value h0 rfl ?_;rw[<-hc];first|rw[Wq (by omega) (by assumption)]|(rw[Z3I (by omega) (by assumption) (by unfold SchI;rintro(h|h)<;>first|contradiction|omega)])|rw[Z2r (by omega)])
  |(refine⟨i+1,⟨by omega,?_⟩,by omega,?_⟩
    ·rw[<-hc,<-Z3H (by omega) (by assumption) (by first|(left;assumption)|(right;unfold SchI;omega))]
    ·conv=>whnf
     exact GOES.cA h0)
open Tryz
def ZgC:Plan:=(Zu [(0,1),(1,1),(2,1),(3,1),(4,1),(5,1),(6,1)])
def ZgD:Plan:=(Zu [(0,1),(1,1),(2,1),(3,1),(4,1),(5,1),(6,1),(7,3),(8,1)])
def Zdg:Plan:=(Zu [(0,1),(1,1),(2,1),(3,1),(4,1),(5,1),(6,1),(7,1),(8,1),(9,1),(10,1)])
theorem W1(s:List UInt8)(hs:Sm s):Does prog tab 192 0 [.str s] [] [] (Val (.int .i64 (iriM s))):=by
 refine Does.enter Z0 call192 func192 rfl 14 rfl rfl [.tmp 2] rfl ?_;intro w0 F η0 h0;conv=>whnf
 repeat'((first|refine CALL.value (Z0a s hs) rfl rfl ?_|refine CALL.value (Z27 s hs) rfl rfl ?_|refine AU ?_|(refine IW ?_ ?_<;>intro h<;>try(exfalso;omega)))<;>conv=>whnf)
 all_goals
  refine FIN.value h0 rfl (congrArg (SV.int _) ?_);unfold iriM
  simp_all
def Z3O(r:Int):Int:=if 0<=r/\r<128 then Lib.indexByte bars (IntKind.u8.wrap r).toNat.toUInt8 else-1
theorem Z4l(r:Int)(hr:Yq r):Does prog tab 294 0 [.str bars, .int .i32 r] [] [] (Val (.int .i64 (Z3O r))):=by
 have hlen:bars.length=9:=rfl;refine Does.enter Z0 call294 func294 rfl 187 rfl rfl [.tmp 4] rfl ?_;intro w0 F η0 h0;conv=>whnf
 repeat'((first|refine CALL.value (VK _ _) rfl rfl ?_|refine CALL.value (Z4j _) rfl rfl ?_|refine AU ?_|(refine IW ?_ ?_<;>intro h<;>try(exfalso;omega)))<;>conv=>whnf)
 ·refine FIN.value h0 rfl ?_;unfold Z3O;rw[if_pos h]
 ·subst h;refine LOOP.go Z0 [175] (X:=Nat) (fun i=>i<=9) (fun i=>[]) (fun i=>[(0, .siter bars i)]) 1 (fun i=>9-i) 0 (by omega) ?_;conv=>whnf
  refine⟨by exact GOES.cA h0,?_⟩;intro i hi;conv=>whnf
  refine⟨fun h=>?_,fun h=>?_⟩
  ·have h:i<bars.length:=by simpa using h
   have hd:=Wp (Z5V i);have hb:=ZG bars i;conv=>whnf
   refine IF.tt ?_;conv=>whnf
   refine IF.no (by rw[show Utf8.decode ⟨bars.toArray⟩ i=_ from hd];have:=Z5V i;simp;omega) ?_;conv=>whnf
   refine⟨i+(deco bars i).2,by rw[hd];show i+1<=9;omega,by rw[hd];show 9-(i+1)<9-i;omega,?_⟩;conv=>whnf
   exact GOES.cA h0
  ·conv=>whnf
   refine IF.ff ?_;conv=>whnf
   refine FIN.value h0 rfl ?_;unfold Z3O;rw[if_neg (by omega)]
 ·rw[Z0v]at h;exact(h hr).elim
 ·have hl:=ZeM (r:=r) (by unfold Yq at hr;omega);have hh:=Zda hr (by unfold Yq at hr;omega);have he:=Zd9 hr;rw[he];have hm:=Zba (s:=encM r) (i:=((encM r).length:Int)-1) (by omega)
  have hm2:128<=Z1 (encM r) (((encM r).length:Int)-1):=by
   obtain⟨c,hc,e⟩:=hm;rw[e];exact hh c hc
  have hm3:=ZG (encM r) (((encM r).length:Int)-1);have hm4:=Z5V (((encM r).length:Int)-1);refine LOOP.once Z0 ?_;conv=>whnf
  repeat'((first|refine DRAWN.of (id:=6) Z0 mixed ZgC (by kernel_rfl) ?_|refine DRAWN.of (id:=7) Z0 mixed ZgD (by kernel_rfl) ?_|refine DRAWN.of (id:=14) Z0 mixed Zdg (by kernel_rfl) ?_|refine DRAWN.of (id:=31) Z0 mixed Zdg (by kernel_rfl) ?_|refine ADD.mk (fun _ _=>?_)|refine AD ?_|refine FORK.mk ?_ ?_|refine CALL.value (VK _ _) rfl rfl ?_|refine AU ?_|(refine IW ?_ ?_<;>intro h<;>try(exfalso;omega)))<;>conv=>whnf)
  ·refine FIN.value h0 rfl ?_;unfold Z3O;rw[if_neg (by unfold Yq at hr;omega)]
  ·have:=ZeP (l:=List.drop (((encM r).length:Int)-1+1).toNat bars) (c:=Z1 (encM r) (((encM r).length:Int)-1)) (by omega) (fun b hb=>ZeO b (List.mem_of_mem_drop hb));rw[this]at h;omega
theorem Z1h(r:Int)(hr:Yq r):Does prog tab 251 0 [.str bars, .int .i32 r] [] [] (Val (.bool (decide (0<=Z3O r)))):=by
 refine Does.enter Z0 call251 func251 rfl 9 rfl rfl [.tmp 4] rfl ?_;intro w0 F η0 h0;conv=>whnf
 repeat'((first|refine CALL.value (Z4l r hr) rfl rfl ?_|refine AU ?_|(refine IW ?_ ?_<;>intro h<;>try(exfalso;omega)))<;>conv=>whnf)
 exact FIN.value h0 rfl rfl
theorem ZgE{r:Int}(hr:Yq r):(r<=32\/0<=Z3O r)<->Our.Barred r:=by
 unfold Yq at hr;unfold Z3O;by_cases h:0<=r/\r<128
 ·rw[if_pos h];have:∀n:Nat,n<128->(((n:Int)<=32\/0<=Lib.indexByte bars (IntKind.u8.wrap (n:Int)).toNat.toUInt8)<->Our.Barred (n:Int)):=by decide+kernel
  have:=this r.toNat (by omega);rwa [show((r.toNat:Nat):Int)=r by omega]at this
 ·rw[if_neg h];unfold Our.Barred;omega
theorem Z90(r:Int)(hr:Yq r):Does prog tab 205 0 [.int .i32 r] [] [] (Val (.bool (VH r))):=by
 refine Does.enter Z0 call205 func205 rfl 9 rfl rfl [.tmp 2] rfl ?_;intro w0 F η0 h0;conv=>whnf
 repeat'((first|refine CALL.value (Z1h r hr) rfl rfl ?_|refine AU ?_|(refine IW ?_ ?_<;>intro h<;>try(exfalso;omega)))<;>conv=>whnf)
 all_goals
  refine FIN.value h0 rfl (congrArg SV.bool ?_);rw[Bool.eq_iff_iff,Z1S,<-ZgE hr];simp;try omega
theorem Z4m(s:List UInt8)(hs:Sm s):Does prog tab 157 0 [.str s] [] [] (Val (.int .i64 (refM s))):=by
 have hp:∀c:Int,128<=c->VH c=false:=fun c hc=>by rw[Z5T];unfold Our.Barred;omega
 refine Does.enter Z0 call157 func157 rfl 15 rfl rfl [.tmp 2] rfl ?_;intro w0 F η0 h0;conv=>whnf
 repeat'((first|refine CALL.value (Z56 s hs) rfl rfl ?_|refine CALL.value (Z4k _ VH (fun r hr=>Z90 r hr) s hs) rfl rfl ?_|refine AU ?_|(refine IW ?_ ?_<;>intro h<;>try(exfalso;omega)))<;>conv=>whnf)
 all_goals
  refine FIN.value h0 rfl (congrArg (SV.int _) ?_);unfold refM
 ·rw[if_pos (by omega)]
 ·rw[if_neg (by omega),if_pos (by omega)]
 all_goals
  rename_i h1 h2
  have hc:chk s 0= -1:=by
   have:=ZhC s 0;omega
  have:=Z7v VH hp s 0 hc;rw[if_neg (by omega),if_neg (by omega)]
 ·rw[if_pos (this.1 h)]
 ·rw[if_neg (fun h'=>by have:=this.2 h';omega)]
theorem Z91(s:List UInt8)(hs:Sm s):Does prog tab 158 0 [.str s] [] [] (Val (.str (s.take (schM s 0).toNat))):=by
 refine Does.enter Z0 call158 func158 rfl 61 rfl rfl [.tmp 2] rfl ?_;intro w0 F η0 h0;conv=>whnf
 refine LOOP.go Z0 [0,7] (X:=Nat) (fun i=>i<=s.length/\schM s i=schM s 0) (fun i=>[]) (fun i=>[(0, .siter s i)]) 1 (fun i=>s.length-i) 0 ⟨by omega,rfl⟩ ?_;conv=>whnf
 refine⟨by exact GOES.cA h0,?_⟩;rintro i ⟨hi,hc⟩;conv=>whnf
 refine⟨fun h=>?_,fun h=>?_⟩
 ·have h:i<s.length:=by simpa using h
  have hf:=Z3D s i h;have hp:=Z2q s i;have hb:=ZG s i
  have hd:((deco s i).1:Int)=Z1 s i/\(deco s i).2=1\/128<=Z1 s i/\128<=(deco s i).1:=by
   by_cases ha:Z1 s i<128
   ·left;rw[Wp ha];simp;omega
   ·right;exact⟨by omega,Z3E (by omega)⟩
  unfold deco at*;generalize Utf8.decode ⟨s.toArray⟩ i=d at*;obtain⟨r,n⟩:=d;simp only at hf hp hd;conv=>whnf
  repeat'((first|refine AU ?_|(refine IW ?_ ?_<;>intro h<;>try(exfalso;omega)))<;>conv=>whnf)
  all_goals first
   |(have hn:n=1:=by omega
     subst hn;refine⟨i+1,⟨hf,?_⟩,by omega,?_⟩
     ·rw[<-hc,<-Z3H (by omega) (by omega) (by unfold J2 SchI;omega)]
     ·conv=>whnf
      exact GOES.cA h0)
   |(refine FIN.value h0 rfl (congrArg SV.str ?_);rw[<-hc,Wq (by omega) (by omega)])
   |(refine FIN.value h0 rfl (congrArg SV.str ?_);rw[<-hc]
     by_cases h58:Z1 s i=58
     ·rw[Wq (by omega) h58];rw[show(i:Int)=0 by omega];rfl
     ·rw[Z3I (by omega) h58 (by unfold J2 SchI;omega)];rfl)
 ·have h:s.length<=i:=by simpa using h
  conv=>whnf
  repeat'((first|refine AU ?_|(refine IW ?_ ?_<;>intro h<;>try(exfalso;omega)))<;>conv=>whnf)
  refine FIN.value h0 rfl ?_;rw[<-hc,Z2r h];rfl
theorem Z0D(s:List UInt8)(hs:Sm s):Does prog tab 121 0 [.str s] [] [] (Val (.int .i64 (iriM s))):=by
 have hr:=ZeN s 0;refine Does.enter Z0 call121 func121 rfl 12 rfl rfl [.tmp 2] rfl ?_;intro w0 F η0 h0;conv=>whnf
 repeat'((first|refine CALL.value (Z4m s hs) rfl rfl ?_|refine CALL.value (Z91 s hs) rfl rfl ?_|refine AU ?_|(refine IW ?_ ?_<;>intro h<;>try(exfalso;omega)))<;>conv=>whnf)
 ·refine FIN.value h0 rfl (congrArg (SV.int _) ?_);unfold iriM;rw[if_pos h]
 ·rename_i h1;refine FIN.value h0 rfl (congrArg (SV.int _) ?_);unfold iriM;rw[if_neg (by omega),if_pos]
  have hz:(s.take (schM s 0).toNat).length=0:=by
   have:s.take (schM s 0).toNat=[]:=h;rw[this];rfl
  rw[List.length_take]at hz;by_cases hl:s.length=0
  ·rw[Z2r (by omega)]
  ·omega
 ·rename_i h1;refine FIN.value h0 rfl (congrArg (SV.int _) ?_);unfold iriM;rw[if_neg (by omega),if_neg];intro h2;apply h;rw[h2];rfl
open Tryz
theorem Z1T(r:Int):Does prog tab 299 0 [.int .i32 r] [] [] (Val (.bool (decide (J2 r)))):=by
 refine Does.enter Z0 call299 func299 rfl 17 rfl rfl [.tmp 2] rfl ?_;intro w0 F η0 h0;conv=>whnf
 repeat'((first|refine AU ?_|(refine IW ?_ ?_<;>intro h<;>try(exfalso;omega)))<;>conv=>whnf)
 refine FIN.value h0 rfl (congrArg SV.bool ?_);rw[Bool.eq_iff_iff];simp only[Bool.cond_eq_ite,decide_eq_true_eq,Bool.if_false_right,Bool.if_true_left,Bool.and_eq_true,Bool.or_eq_true]
 rfl
theorem Vg(r:Int):Does prog tab 254 0 [.int .i32 r] [] [] (Val (.bool (decide (UZ r)))):=by
 refine Does.enter Z0 call254 func254 rfl 9 rfl rfl [.tmp 2] rfl ?_;intro w0 F η0 h0;conv=>whnf
 repeat'((first|refine AU ?_|(refine IW ?_ ?_<;>intro h<;>try(exfalso;omega)))<;>conv=>whnf)
 refine FIN.value h0 rfl (congrArg SV.bool ?_);rw[Bool.eq_iff_iff];simp only[Bool.cond_eq_ite,decide_eq_true_eq,Bool.if_false_right,Bool.if_true_left,Bool.and_eq_true,Bool.or_eq_true]
 rfl
theorem Zbj(r:Int):Does prog tab 295 0 [.int .i32 r] [] [] (Val (.bool (decide (Z3J r)))):=by
 refine Does.enter Z0 call295 func295 rfl 25 rfl rfl [.tmp 2] rfl ?_;intro w0 F η0 h0;conv=>whnf
 repeat'((first|refine CALL.value (Z1T _) rfl rfl ?_|(refine LOOP.once Z0 ?_;conv=>whnf)|refine AU ?_|(refine IW ?_ ?_<;>intro h<;>try(exfalso;omega)))<;>conv=>whnf)
 all_goals
  refine FIN.value h0 rfl (congrArg SV.bool ?_)
  first
   |exact decide_eq_decide.2 (by unfold J2 Z3J;omega)
   |exact(decide_eq_true (by unfold Z3J;omega)).symm
   |exact(decide_eq_false (by unfold Z3J;omega)).symm
theorem Z0E(r:Int):Does prog tab 253 0 [.int .i32 r] [] [] (Val (.bool (decide (Z0A r)))):=by
 refine Does.enter Z0 call253 func253 rfl 9 rfl rfl [.tmp 2] rfl ?_;intro w0 F η0 h0;conv=>whnf
 repeat'((first|refine CALL.value (Zbj _) rfl rfl ?_|refine AU ?_|(refine IW ?_ ?_<;>intro h<;>try(exfalso;omega)))<;>conv=>whnf)
 all_goals
  refine FIN.value h0 rfl (congrArg SV.bool ?_);rw[Bool.eq_iff_iff,decide_eq_true_iff];unfold Z0A;simp
theorem Z4n(r:Int):Does prog tab 252 0 [.int .i32 r] [] [] (Val (.bool (decide (YZ r)))):=by
 refine Does.enter Z0 call252 func252 rfl 33 rfl rfl [.tmp 2] rfl ?_;intro w0 F η0 h0;conv=>whnf
 repeat'((first|refine CALL.value (Z0E _) rfl rfl ?_|refine CALL.value (Vg _) rfl rfl ?_|refine AU ?_|(refine IW ?_ ?_<;>intro h<;>try(exfalso;omega)))<;>conv=>whnf)
 all_goals
  refine FIN.value h0 rfl (congrArg SV.bool ?_);rw[Bool.eq_iff_iff];unfold YZ
  simp_all
  try omega
theorem Z7E(r:Int):Does prog tab 207 0 [.int .i32 r] [] [] (Val (.bool (decide (Vd r)))):=by
 refine Does.enter Z0 call207 func207 rfl 9 rfl rfl [.tmp 2] rfl ?_;intro w0 F η0 h0;conv=>whnf
 repeat'((first|refine CALL.value (Z0E _) rfl rfl ?_|refine CALL.value (Vg _) rfl rfl ?_|refine AU ?_|(refine IW ?_ ?_<;>intro h<;>try(exfalso;omega)))<;>conv=>whnf)
 all_goals
  refine FIN.value h0 rfl (congrArg SV.bool ?_);unfold Vd
  simp_all
theorem Zdh(g:Nat)(p:Int->Prop)[DecidablePred p](hp:∀r:Int,Does prog tab g 0 [.int .i32 r] [] [] (Val (.bool (decide (p r)))))(s:List UInt8)(i:Int)(hs:Sm s):Does prog tab 206 0 [.str s, .int .i64 i, .fn (.func g) [] []] [] [] (Val (.int .i64 (runM p s i))):=by
 have hn:=YX s i;refine Does.enter Z0 call206 func206 rfl 55 rfl rfl [.tmp 6] rfl ?_;intro w0 F η0 h0;conv=>whnf
 repeat'((first|refine CALL.value (Z3M s _ hs) rfl rfl ?_|refine CALL.value (hp _) rfl rfl ?_|refine AU ?_|(refine IW ?_ ?_<;>intro h<;>try(exfalso;omega)))<;>conv=>whnf)
 ·exact FIN.value h0 rfl (congrArg (SV.int _) (by unfold runM;rw[if_pos (.inl h)]))
 ·exact FIN.value h0 rfl (congrArg (SV.int _) (by unfold runM;rw[if_pos (.inr h)]))
 rename_i h1
 have hi:0<=i/\i<s.length:=by
  apply Classical.byContradiction;intro hh;exact h1 (by unfold Zb;rw[if_pos (by omega)])
 refine LOOP.go Z0 [0,1] (X:=Nat×Nat) (fun x=>x.1<=s.length/\x.2<=x.1/\runGo s x.1 x.2=runGo s (i.toNat+(Zb s i).2.toNat) (i.toNat+(Zb s i).2.toNat)) (fun x=>[(10, .int .i64 (x.1:Int)),(9, .int .i64 (x.2:Int))]) (fun i=>[]) 0 (fun x=>s.length-x.1) (i.toNat+(Zb s i).2.toNat,i.toNat+(Zb s i).2.toNat) ⟨by omega,by omega,rfl⟩ ?_;conv=>whnf
 refine⟨by exact GOES.cA h0,?_⟩;rintro⟨j,e⟩ ⟨hj,he,hc⟩;simp only at hj he hc;have hn':=YX s j;conv=>whnf
 repeat'((first|refine CALL.value (Z3M s _ hs) rfl rfl ?_|refine CALL.value (Z4n _) rfl rfl ?_|refine AU ?_|(refine IW ?_ ?_<;>intro h<;>try(exfalso;omega)))<;>conv=>whnf)
 all_goals first
  |(refine FIN.value h0 rfl (congrArg (SV.int _) ?_)
    unfold runM;rw[if_neg (by simp[*]),<-hc,Z1c (by simp[*])]
    simp(disch:=omega) only[Z9])
  |(refine⟨(j+(Zb s j).2.toNat,if(Zb s j).1=46 then e else j+(Zb s j).2.toNat),⟨by simp only;omega,by simp only;split<;>omega,?_⟩,by simp only;omega,?_⟩
    ·simp only;rw[<-hc,<-Z1b (by simp[*])]
    ·conv=>whnf
     simp only[*,if_true,if_false]
     exact GOES.cA h0)
theorem Z5X(s:List UInt8)(i:Int)(hs:Sm s):Does prog tab 159 0 [.str s, .int .i64 i] [] [] (Val (.int .i64 (runM Vd s i))):=by
 refine Does.enter Z0 call159 func159 rfl 8 rfl rfl [.tmp 4] rfl ?_;intro w0 F η0 h0;conv=>whnf
 repeat'((first|refine CALL.value (Zdh _ Vd (fun r=>Z7E r) s i hs) rfl rfl ?_|refine AU ?_|(refine IW ?_ ?_<;>intro h<;>try(exfalso;omega)))<;>conv=>whnf)
 exact FIN.value h0 rfl rfl
theorem Z92(s:List UInt8)(hs:Sm s):Does prog tab 122 0 [.str s] [] [] (Val (.int .i64 (Z51 s))):=by
 refine Does.enter Z0 call122 func122 rfl 14 rfl rfl [.tmp 2] rfl ?_;intro w0 F η0 h0;conv=>whnf
 repeat'((first|refine CALL.value (Z5X s _ hs) rfl rfl ?_|refine AU ?_|(refine IW ?_ ?_<;>intro h<;>try(exfalso;omega)))<;>conv=>whnf)
 ·exact FIN.value h0 rfl (congrArg (SV.int _) (by unfold Z51;rw[if_pos (by simpa using h)]))
 ·exact FIN.value h0 rfl (congrArg (SV.int _) (by unfold Z51;rw[if_neg (by simp;exact h)]))
open Tryz
theorem Vh(s:List UInt8)(least most:Int)(pure:Bool)(hs:Sm s):Does prog tab 260 0 [.str s, .int .i64 least, .int .i64 most, .bool pure] [] [] (Val (.bool (ZD s least most pure))):=by
 refine Does.enter Z0 call260 func260 rfl 37 rfl rfl [.tmp 8] rfl ?_;intro w0 F η0 h0;conv=>whnf
 refine LOOP.go Z0 [0,1,2,3,12] (X:=Nat) (fun i=>i<=s.length/\allB (JR pure) s i=allB (JR pure) s 0) (fun i=>[]) (fun i=>[(0, .siter s i)]) 1 (fun i=>s.length-i) 0 ⟨by omega,rfl⟩ ?_;conv=>whnf
 refine⟨by exact GOES.cA h0,?_⟩;rintro i ⟨hi,hc⟩;conv=>whnf
 refine⟨fun h=>?_,fun h=>?_⟩
 ·have h:i<s.length:=by simpa using h
  have hf:=Z3D s i h;have hp:=Z2q s i
  have hd:((deco s i).1:Int)=Z1 s i/\(deco s i).2=1\/128<=Z1 s i/\128<=(deco s i).1:=by
   have hb:=ZG s i;by_cases ha:Z1 s i<128
   ·left;rw[Wp ha];simp;omega
   ·right;exact⟨by omega,Z3E (by omega)⟩
  unfold deco at*;generalize Utf8.decode ⟨s.toArray⟩ i=d at*;obtain⟨r,n⟩:=d;simp only at hf hp hd
  have key:allB (JR pure) s 0=(JR pure r&&allB (JR pure) s (i+n))\/128<=r/\allB (JR pure) s 0=false:=by
   rcases hd with⟨h1,rfl⟩|⟨h1,h2⟩
   ·left;rw[<-hc,JH h,h1]
   ·right;exact⟨h2,by rw[<-hc,JH h,Z52 h1,Bool.false_and]⟩
  conv=>whnf
  repeat'((first|refine CALL.value (Z1T _) rfl rfl ?_|refine CALL.value (Vg _) rfl rfl ?_|refine AU ?_|(refine IW ?_ ?_<;>intro h<;>try(exfalso;omega)))<;>conv=>whnf)
  all_goals first
   |(refine FIN.value h0 rfl (congrArg SV.bool ?_)
     have h1:JR pure r=false:=by unfold JR Ve XQ;simp[*]
     have h2:allB (JR pure) s 0=false:=by rcases key with h|h<;>simp[h,h1]
     unfold ZD;rw[h2];rfl)
   |(have h1:JR pure r=true:=by unfold JR Ve XQ;simp[*]
     refine⟨i+n,⟨hf,?_⟩,by omega,?_⟩
     ·rcases key with h|h
      ·rw[h,h1,Bool.true_and]
      ·rw[Z52 (by omega)]at h1;cases h1
     ·conv=>whnf
      exact GOES.cA h0)
 ·have h:s.length<=i:=by simpa using h
  conv=>whnf
  repeat'((first|refine AU ?_|(refine IW ?_ ?_<;>intro h<;>try(exfalso;omega)))<;>conv=>whnf)
  all_goals
   refine FIN.value h0 rfl (congrArg SV.bool ?_);unfold ZD;rw[<-hc,Wr h,Bool.eq_iff_iff];simp[Bool.cond_eq_ite]
theorem Vx(s:List UInt8):Does prog tab 211 0 [.str s] [] [] (Val (.bool (ZY s))):=by
 refine Does.enter Z0 call211 func211 rfl 9 rfl rfl [.tmp 2] rfl ?_;intro w0 F η0 h0;conv=>whnf
 repeat'((first|refine AU ?_|(refine IW ?_ ?_<;>intro h<;>try(exfalso;omega)))<;>conv=>whnf)
 refine FIN.value h0 rfl (congrArg SV.bool ?_);unfold ZY;rw[Bool.eq_iff_iff];simp[Bool.cond_eq_ite]
theorem Z3P(s:List UInt8)(hs:Sm s):Does prog tab 263 0 [.str s] [] [] (Val (.bool (Xj s))):=by
 have b0:=ZG s 0;have b1:=ZG s 1;have b2:=ZG s 2;refine Does.enter Z0 call263 func263 rfl 28 rfl rfl [.tmp 2] rfl ?_;intro w0 F η0 h0;conv=>whnf
 repeat'((first|refine CALL.value (Vh _ _ _ _ hs) rfl rfl ?_|refine CALL.value (Vg _) rfl rfl ?_|refine AU ?_|(refine IW ?_ ?_<;>intro h<;>try(exfalso;omega)))<;>conv=>whnf)
 all_goals
  refine FIN.value h0 rfl (congrArg SV.bool ?_);unfold Xj XQ;try simp(disch:=omega) only[Zo]at*
  simp_all
  try omega
theorem Vy(s:List UInt8)(hs:Sm s):Does prog tab 264 0 [.str s] [] [] (Val (.bool (Jr s))):=by
 have b0:=ZG s 0;have hm:ZD s 4 4 false=true->s.length=4:=by unfold ZD;simp;omega
 refine Does.enter Z0 call264 func264 rfl 15 rfl rfl [.tmp 2] rfl ?_;intro w0 F η0 h0;conv=>whnf
 repeat'((first|refine CALL.value (Vh _ _ _ _ hs) rfl rfl ?_|refine CALL.value (Vg _) rfl rfl ?_|(refine NEED.mk (by have:=hm (by assumption);omega) ?_;conv=>whnf)|refine AU ?_|(refine IW ?_ ?_<;>intro h<;>try(exfalso;omega)))<;>conv=>whnf)
 all_goals
  refine FIN.value h0 rfl (congrArg SV.bool ?_);unfold Jr XQ;try simp(disch:=omega) only[Zo]at*
  simp_all
theorem Xr(s:List UInt8)(hs:Sm s):Does prog tab 162 0 [.str s] [] [] (Val (.str (Z4 s))):=by
 refine Does.enter Z0 call162 func162 rfl 29 rfl rfl [.tmp 2] rfl ?_;intro w0 F η0 h0;conv=>whnf
 repeat'((first|refine AU ?_|(refine IW ?_ ?_<;>intro h<;>try(exfalso;omega)))<;>conv=>whnf)
 refine LOOP.go Z0 [3,8,9] (X:=Nat) (fun i=>i<=s.length) (fun i=>[(10, .int .i64 (i:Int))]) (fun i=>[(0, .rows 1 ((curL s i).map Sx.bytesRow))]) 1 (fun i=>s.length-i) 0 (by omega) ?_;conv=>whnf
 refine⟨by(refine GOES.cutting h0 rfl rfl rfl (by first|rfl|(simp only[Zl,Zg,Z2 _ (XO _),Bool.and_self,Bool.and_true]<;>rfl)) ?_ ?_<;>(repeat'(first|(with_reducible rfl)|(exact X6 rfl (by first|(simp;done)|omega|(simp;omega)))|(exact congrArg (SV.int _) (by first|omega|(simp(disch:=omega) only[lnB,Z9,Zo]<;>omega)|(simp;done)|(simp<;>omega)))|(exact congrArg (Hp.rows _) (by rw[Z7y]))|((conv=>whnf);refine⟨?_,?_⟩)|exact trivial|rfl))),?_⟩;intro i hi;have hlen:=Za3 s i;conv=>whnf
 repeat'((first|(refine GET.at (row:=Sx.bytesRow (s[i]'(by omega))) (by rw[show 0+(i:Int).toNat=i by omega];exact Z5W (by omega)) ?_;conv=>whnf)|refine AU ?_|(refine IW ?_ ?_<;>intro h<;>try(exfalso;omega)))<;>conv=>whnf)
 ·have hl:i<s.length:=by omega
  refine⟨i+1,by omega,by omega,?_⟩;conv=>whnf
  (refine GOES.cutting h0 rfl rfl rfl (by first|rfl|(simp only[Zl,Zg,Z2 _ (XO _),Bool.and_self,Bool.and_true]<;>rfl)) ?_ ?_<;>(repeat'(first|(with_reducible rfl)|(exact X6 rfl (by first|(simp;done)|omega|(simp;omega)))|(exact congrArg (SV.int _) (by first|omega|(simp(disch:=omega) only[lnB,Z9,Zo]<;>omega)|(simp;done)|(simp<;>omega)))|(exact congrArg (Hp.rows _) (by rw[Zde h,show 0+(i:Int).toNat=i by omega,Za5 hl]))|((conv=>whnf);refine⟨?_,?_⟩)|exact trivial|rfl)))
 ·have hl:i<s.length:=by omega
  refine⟨i+1,by omega,by omega,?_⟩;conv=>whnf
  (refine GOES.cutting h0 rfl rfl rfl (by first|rfl|(simp only[Zl,Zg,Z2 _ (XO _),Bool.and_self,Bool.and_true]<;>rfl)) ?_ ?_<;>(repeat'(first|(with_reducible rfl)|(exact X6 rfl (by first|(simp;done)|omega|(simp;omega)))|(exact congrArg (SV.int _) (by first|omega|(simp(disch:=omega) only[lnB,Z9,Zo]<;>omega)|(simp;done)|(simp<;>omega)))|(exact congrArg (Hp.rows _) (by rw[Z7z hl (Z8R (by omega))]))|((conv=>whnf);refine⟨?_,?_⟩)|exact trivial|rfl)))
 ·refine NEED.mk (Ug (by omega)) ?_;conv=>whnf
  refine FIN.value h0 rfl (congrArg SV.str ?_);have:=Z8v (curL s i);rw[hlen]at this;rw[this,Za4 (by omega)]
open Tryz
theorem Z1U(r:Int):Does prog tab 244 0 [.int .i64 r] [] [] (Val (.bool (decide (UZ r)))):=by
 refine Does.enter Z0 call244 func244 rfl 9 rfl rfl [.tmp 2] rfl ?_;intro w0 F η0 h0;conv=>whnf
 repeat'((first|refine AU ?_|(refine IW ?_ ?_<;>intro h<;>try(exfalso;omega)))<;>conv=>whnf)
 refine FIN.value h0 rfl (congrArg SV.bool ?_);rw[Bool.eq_iff_iff];simp only[Bool.cond_eq_ite,decide_eq_true_eq,Bool.if_false_right,Bool.if_true_left,Bool.and_eq_true,Bool.or_eq_true]
 rfl
def ZeX:List (List SV):=[65,90,97,122,192,214,216,246,248,767,880,893,895,8191,8204,8205,8304,8591,11264,12271,12289,55295,63744,64975,65008,65533,65536,983039].map fun x=>[SV.int .i64 x]
theorem Z7L:Does prog tab 304 0 [] [] [] (Val (.arr 1 ZeX)):=by
 refine Does.enter Z0 call304 func304 rfl 2 rfl rfl [.cell 0 330] rfl ?_;intro w0 F η0 h0;conv=>whnf
 repeat'((first|refine AU ?_|(refine IW ?_ ?_<;>intro h<;>try(exfalso;omega)))<;>conv=>whnf)
 exact FIN.value h0 rfl rfl
theorem Z93(r:Int):Does prog tab 283 0 [.int .i64 r] [] [] (Val (.bool (decide (Z3J r)))):=by
 refine Does.enter Z0 call283 func283 rfl 23 rfl rfl [.tmp 2] rfl ?_;intro w0 F η0 h0;conv=>whnf
 repeat'((first|refine CALL.value (Z7L) rfl rfl ?_|(refine LOOP.once Z0 ?_;conv=>whnf)|(refine NEED.mk ⟨rfl,rfl,rfl,rfl,rfl⟩ ?_;conv=>whnf)|refine AU ?_|(refine IW ?_ ?_<;>intro h<;>try(exfalso;omega)))<;>conv=>whnf)
 all_goals
  refine FIN.value h0 rfl (congrArg SV.bool ?_)
  first
   |exact(decide_eq_true (by unfold Z3J;omega)).symm
   |exact(decide_eq_false (by unfold Z3J;omega)).symm
theorem WO(r:Int):Does prog tab 243 0 [.int .i64 r] [] [] (Val (.bool (decide (Z0A r)))):=by
 refine Does.enter Z0 call243 func243 rfl 9 rfl rfl [.tmp 2] rfl ?_;intro w0 F η0 h0;conv=>whnf
 repeat'((first|refine CALL.value (Z93 _) rfl rfl ?_|refine AU ?_|(refine IW ?_ ?_<;>intro h<;>try(exfalso;omega)))<;>conv=>whnf)
 all_goals
  refine FIN.value h0 rfl (congrArg SV.bool ?_);rw[Bool.eq_iff_iff,decide_eq_true_iff];unfold Z0A;simp
theorem Z3R(r:Int):Does prog tab 284 0 [.int .i64 r] [] [] (Val (.bool (decide (YZ r)))):=by
 refine Does.enter Z0 call284 func284 rfl 33 rfl rfl [.tmp 2] rfl ?_;intro w0 F η0 h0;conv=>whnf
 repeat'((first|refine CALL.value (WO _) rfl rfl ?_|refine CALL.value (Z1U _) rfl rfl ?_|refine AU ?_|(refine IW ?_ ?_<;>intro h<;>try(exfalso;omega)))<;>conv=>whnf)
 all_goals
  refine FIN.value h0 rfl (congrArg SV.bool ?_);rw[Bool.eq_iff_iff];unfold YZ
  simp_all
  try omega
def Z0F(x:Int):List SV:=[.int .i64 x]
theorem Z3S(l:List Int):Zh (l.map Z0F)=true:=Zz _ (fun _=>rfl) l
instance :PlF Z0F:=⟨fun _=>rfl⟩
theorem Z3T{l:List Int}{i:Nat}(h:i<l.length):J3 (l.drop i)=if i+1=l.length then decide (YZ l[i])else(decide (YZ l[i]\/l[i]=46)&&J3 (l.drop (i+1))):=by
 rw[List.drop_eq_getElem_cons h];cases hd:l.drop (i+1)with
 |nil=>
  have:=congrArg List.length hd;simp at this;rw[if_pos (by omega)];rfl
 |cons q t=>
  have:=congrArg List.length hd;simp at this;rw[if_neg (by omega)];rfl
theorem Z64(l:List Int)(hl:l.length<=1152921504606846976):Does prog tab 245 1 [.sl (.loc 0) 0 1 l.length none] [] [(0, .rows 1 (l.map Z0F))] (ValK 1 (.bool (J3 (l.drop 1)))):=by
 refine Does.enter Z0 call245 func245 rfl 30 rfl rfl [.tmp 2] rfl ?_;intro w0 F η0 h0;conv=>whnf
 refine LOOP.go Z0 [0] (X:=Nat) (fun i=>1<=i/\J3 (l.drop i)=J3 (l.drop 1)) (fun i=>[(3, .int .i64 (i:Int))]) (fun i=>[]) 1 (fun i=>l.length-i) 1 ⟨by omega,rfl⟩ ?_;conv=>whnf
 refine⟨by exact GOES.cA h0,?_⟩;rintro i ⟨hi,hc⟩;conv=>whnf
 repeat'((first|refine CALL.value (Z3R _) rfl rfl ?_|(refine GET.map (by omega) ?_;conv=>whnf)|(refine GETG.at (row:=Z0F (l[0+(i:Int).toNat]'(by omega))) (by rw[List.getElem?_map,List.getElem?_eq_getElem (by omega)];rfl) ?_;conv=>whnf)|refine AU ?_|(refine IW ?_ ?_<;>intro h<;>try(exfalso;omega)))<;>conv=>whnf)
 ·rename_i h1;have h1:i<l.length:=by omega
  have e:l[0+(i:Int).toNat]=l[i]:=by congr 1;omega
  rw[e]at h;refine FIN.valueK h0 rfl (congrArg SV.bool ?_);rw[<-hc,Z3T h1];split
  ·simp[h.1]
  ·rcases h.2 with h2|h2
   ·simp[h.1,h2]
   ·omega
 ·rename_i h1;have h1:i<l.length:=by omega
  have e:l[0+(i:Int).toNat]=l[i]:=by congr 1;omega
  rw[e]at h;refine⟨i+1,⟨by omega,?_⟩,by omega,?_⟩
  ·rw[<-hc,Z3T h1];by_cases hf:YZ l[i]
   ·split
    ·rename_i h2;rw[List.drop_eq_nil_of_le (by omega)];simp[hf,J3]
    ·simp[hf]
   ·have:=h hf;rw[if_neg (by omega)];simp[this.1]
  ·conv=>whnf
   exact GOES.cA h0
 ·refine FIN.valueK h0 rfl (congrArg SV.bool ?_);rw[<-hc,List.drop_eq_nil_of_le (by omega)];rfl
def Z65(o:Option (List Int)):SV->Hps->Nat->Prop:=fun r O nx=>match o with
 |some l=>r= .tup [.sl (.loc 0) 0 1 l.length none, .bool true]/\O=[(0, .rows 1 (l.map Z0F))]/\nx=1
 |none=>r= .tup [.val (.slice none 0 0), .bool false]/\O=[]/\nx=0
theorem WP(s:List UInt8)(hs:s.length<=68719476736):Does prog tab 242 0 [.str s] [] [] (Z65 (scalarsM s 0)):=by
 refine Does.enter Z0 call242 func242 rfl 28 rfl rfl [.tmp 2, .tmp 3] rfl ?_;intro w0 F η0 h0;conv=>whnf
 refine LOOP.nil 4 1 rfl ?_;refine LOOP.go Z0 [0] (X:=Nat×List Int) (fun x=>x.1<=s.length/\x.2.length<=x.1/\scalarsM s 0=(scalarsM s x.1).map (x.2++ ·)) (fun x=>[(5, .int .i64 (x.1:Int)),(4, .sl (.loc 0) 0 1 x.2.length none)]) (fun x=>[(0, .rows 1 (x.2.map Z0F))]) 1 (fun x=>s.length-x.1) (0,[]) ⟨by simp,by simp,by cases scalarsM s 0<;>simp⟩ ?_;conv=>whnf
 refine⟨by exact GOES.cA h0,?_⟩;rintro⟨i,l⟩ ⟨hi,hl,hc⟩;simp only at hi hl hc;have hn:=YX s i;dsimp only;conv=>whnf
 repeat'((first|refine CALL.value (WK s _ (by omega)) rfl rfl ?_|refine AU ?_|(refine IW ?_ ?_<;>intro h<;>try(exfalso;omega)))<;>conv=>whnf)
 ·rename_i h1;refine FIN.val h0 rfl ?_;have:scalarsM s i=none:=by rw[scalarsM,dif_pos (by omega),dif_neg (by simpa using h)]
  rw[hc,this];exact⟨rfl,rfl,rfl⟩
 ·rename_i h1;refine⟨(i+(Zb s i).2.toNat,l++ [(Zb s i).1]),⟨by simp only;omega,by simp only[List.length_append,List.length_cons,List.length_nil];omega,?_⟩,by simp only;omega,?_⟩
  ·rw[hc];conv=>lhs;rw[scalarsM,dif_pos (by omega),dif_pos (by simpa using h)]
   cases scalarsM s (i+(Zb s i).2.toNat)<;>simp
  ·dsimp only;conv=>whnf
   exact GOES.kA h0 [2]
 ·refine FIN.rowsT h0 0 1 _ rfl rfl rfl (Z3S _) rfl ?_;have:scalarsM s i=some []:=by rw[scalarsM,dif_neg (by omega)]
  rw[hc,this];simp[Z65]
theorem Z94(s:List UInt8)(i:Nat):∀l,scalarsM s i=some l->l.length<=s.length-i:=by
 induction i using scalarsM.induct s with
 |case1 i h h0 ih=>
  intro l hl;have hn:=YX s i;rw[scalarsM,dif_pos h,dif_pos h0]at hl;cases hc:scalarsM s (i+(Zb s i).2.toNat)with
  |none=>rw[hc]at hl;cases hl
  |some t=>
   rw[hc]at hl;simp only[Option.map_some,Option.some.injEq]at hl;subst hl;have:=ih t hc;simp only[List.length_cons];omega
 |case2 i h h0=>intro l hl;rw[scalarsM,dif_pos h,dif_neg h0]at hl;cases hl
 |case3 i h=>intro l hl;rw[scalarsM,dif_neg h]at hl;injection hl with hl;subst hl;simp
theorem Z7M(s:List UInt8)(hs:s.length<=68719476736):Does prog tab 193 0 [.str s] [] [] (Val (.int .i64 (Za1 s))):=by
 refine Does.enter Z0 call193 func193 rfl 36 rfl rfl [.tmp 2] rfl ?_;intro w0 F η0 h0;conv=>whnf
 unfold Za1;cases hc:scalarsM s 0 with
 |none=>
  have sp:=(WP s hs).mono (Q':=Val (.tup [.val (.slice none 0 0), .bool false])) (fun r O nx hq=>by rw[hc]at hq;exact hq);refine CALL.value sp rfl rfl ?_;conv=>whnf
  repeat'((first|refine AU ?_|(refine IW ?_ ?_<;>intro h<;>try(exfalso;omega)))<;>conv=>whnf)
  exact FIN.value h0 rfl rfl
 |some l=>
  have sp:=(WP s hs).mono (Q':=NewT 1 (l.map Z0F) [.bool true]) (fun r O nx hq=>by rw[hc]at hq;simpa[NewT,Z65]using hq);refine CALL.newT sp rfl (Z3S l) rfl ?_;have hlen:(l.map Z0F).length=l.length:=by simp
  rw[hlen];conv=>whnf
  cases l with
  |nil=>
   repeat'((first|refine AU ?_|(refine IW ?_ ?_<;>intro h<;>try(exfalso;omega)))<;>conv=>whnf)
   exact FIN.value h0 rfl rfl
  |cons r l=>
   have hL:(r::l).length<=1152921504606846976:=by have:=Z94 s 0 _ hc;omega
   repeat'((first|(refine GET.at (row:=Z0F r) rfl ?_;conv=>whnf)|refine CALL.value (WO _) rfl rfl ?_|refine CALL.value (Z1U _) rfl rfl ?_|(refine CALL.look1 _ (Z64 (r::l) hL) rfl rfl rfl rfl (Z3S _) rfl ?_;conv=>whnf)|refine AU ?_|(refine IW ?_ ?_<;>intro h<;>try(exfalso;omega)))<;>conv=>whnf)
   all_goals
    refine FIN.value h0 rfl (congrArg (SV.int _) ?_);try simp only[List.drop_succ_cons,List.drop_zero]at h
    unfold Vd;simp[*]
open Tryz
theorem WQ(s:List UInt8)(hs:Sm s):Does prog tab 307 0 [.str s] [] [] (Val (.bool (allB Ve s 0))):=by
 refine Does.enter Z0 call307 func307 rfl 29 rfl rfl [.tmp 2] rfl ?_;intro w0 F η0 h0;conv=>whnf
 refine LOOP.go Z0 [0] (X:=Nat) (fun i=>i<=s.length/\allB Ve s i=allB Ve s 0) (fun i=>[(3, .int .i64 (i:Int))]) (fun i=>[]) 0 (fun i=>s.length-i) 0 ⟨by omega,rfl⟩ ?_;conv=>whnf
 refine⟨by exact GOES.cA h0,?_⟩;rintro i ⟨hi,hc⟩;conv=>whnf
 repeat'((first|refine AU ?_|(refine IW ?_ ?_<;>intro h<;>try(exfalso;omega)))<;>conv=>whnf)
 ·refine FIN.value h0 rfl (congrArg SV.bool ?_);rw[<-hc,JH (by omega),show Ve (Z1 s i)=false from decide_eq_false (by unfold J2;omega)];rfl
 ·refine⟨i+1,⟨by omega,?_⟩,by omega,?_⟩
  ·rw[<-hc,JH (i:=i) (by omega),show Ve (Z1 s i)=true from decide_eq_true (by unfold J2;omega),Bool.true_and]
  ·conv=>whnf
   exact GOES.cA h0
 ·refine FIN.value h0 rfl (congrArg SV.bool ?_);rw[<-hc,Wr (by omega)]
theorem Vj(s:List UInt8)(hs:Sm s):Does prog tab 306 0 [.str s] [] [] (Val (.bool (allB XQ s 0))):=by
 refine Does.enter Z0 call306 func306 rfl 20 rfl rfl [.tmp 2] rfl ?_;intro w0 F η0 h0;conv=>whnf
 refine LOOP.go Z0 [0] (X:=Nat) (fun i=>i<=s.length/\allB XQ s i=allB XQ s 0) (fun i=>[(3, .int .i64 (i:Int))]) (fun i=>[]) 0 (fun i=>s.length-i) 0 ⟨by omega,rfl⟩ ?_;conv=>whnf
 refine⟨by exact GOES.cA h0,?_⟩;rintro i ⟨hi,hc⟩;conv=>whnf
 repeat'((first|refine AU ?_|(refine IW ?_ ?_<;>intro h<;>try(exfalso;omega)))<;>conv=>whnf)
 ·refine FIN.value h0 rfl (congrArg SV.bool ?_);rw[<-hc,JH (by omega),show XQ (Z1 s i)=false from decide_eq_false (by unfold UZ;omega)];rfl
 ·refine⟨i+1,⟨by omega,?_⟩,by omega,?_⟩
  ·rw[<-hc,JH (i:=i) (by omega),show XQ (Z1 s i)=true from decide_eq_true (by unfold UZ;omega),Bool.true_and]
  ·conv=>whnf
   exact GOES.cA h0
 ·refine FIN.value h0 rfl (congrArg SV.bool ?_);rw[<-hc,Wr (by omega)]
theorem cutB{s:List UInt8}{i:Nat}(h:i<s.length):(s.drop (i:Int).toNat).take (((i:Int)+1).toNat-(i:Int).toNat)=[s.getD i 0]:=by
 rw[show((i:Int)+1).toNat-(i:Int).toNat=1 by omega,Int.toNat_natCast,Xi h];rfl
theorem ZhT(s:List UInt8)(i:Nat):bn (s.getD i 0)=Z1 s i:=rfl
theorem Vk(s:List UInt8)(least most:Int)(hs:Sm s):Does prog tab 291 0 [.str s, .int .i64 least, .int .i64 most] [] [] (Val (.bool (ZD s least most false))):=by
 refine Does.enter Z0 call291 func291 rfl 40 rfl rfl [.tmp 6] rfl ?_;intro w0 F η0 h0;conv=>whnf
 refine LOOP.go Z0 [0,1,2] (X:=Nat) (fun i=>i<=s.length/\allB (JR false) s i=allB (JR false) s 0) (fun i=>[(7, .int .i64 (i:Int))]) (fun i=>[]) 0 (fun i=>s.length-i) 0 ⟨by omega,rfl⟩ ?_;conv=>whnf
 refine⟨by exact GOES.cA h0,?_⟩;rintro i ⟨hi,hc⟩;conv=>whnf
 have sm:∀n m,Sm ((s.drop n).take m):=fun n m=>by simp;omega
 repeat'((first|refine CALL.value (WQ _ (sm _ _)) rfl rfl ?_|refine CALL.value (Vj _ (sm _ _)) rfl rfl ?_|refine AU ?_|(refine IW ?_ ?_<;>intro h<;>try(exfalso;omega)))<;>conv=>whnf)
 all_goals first
  |(have hl:i<s.length:=by omega
    simp only[cutB hl,Za2,ZhT]at*
    first
     |(refine FIN.value h0 rfl (congrArg SV.bool ?_)
       have h1:JR false (Z1 s i)=false:=by unfold JR;simp[*]
       unfold ZD;rw[<-hc,JH hl,h1];rfl)
     |(have h1:JR false (Z1 s i)=true:=by unfold JR;simp[*]
       refine⟨i+1,⟨by omega,?_⟩,by omega,?_⟩
       ·rw[<-hc,JH (i:=i) hl,h1,Bool.true_and]
       ·conv=>whnf
        exact GOES.cA h0))
  |(refine FIN.value h0 rfl (congrArg SV.bool ?_)
    unfold ZD;rw[<-hc,Wr (by omega),Bool.eq_iff_iff]
    simp[Bool.cond_eq_ite])
theorem Z4q(s:List UInt8)(hs:Sm s):Does prog tab 290 0 [.str s] [] [] (Val (.bool (Jr s))):=by
 have hm:ZD s 4 4 false=true->s.length=4:=by unfold ZD;simp;omega
 have sm:∀m,Sm (s.take m):=fun m=>by simp;omega
 refine Does.enter Z0 call290 func290 rfl 14 rfl rfl [.tmp 2] rfl ?_;intro w0 F η0 h0;conv=>whnf
 repeat'((first|refine CALL.value (Vk _ _ _ hs) rfl rfl ?_|refine CALL.value (Vj _ (sm _)) rfl rfl ?_|(refine NEED.mk (by have:=hm (by assumption);omega) ?_;conv=>whnf)|refine AU ?_|(refine IW ?_ ?_<;>intro h<;>try(exfalso;omega)))<;>conv=>whnf)
 all_goals
  refine FIN.value h0 rfl (congrArg SV.bool ?_);unfold Jr;by_cases h4:ZD s 4 4 false=true
  ·have:=hm h4;cases s with
   |nil=>simp at this
   |cons a t=>
    have ht:(a::t).take (1:Int).toNat=[a]:=rfl;have hb:bn a=Z1 (a::t) 0:=rfl;try simp only[ht,Za2,hb]at*
    simp_all
  ·simp_all
theorem YE(s:List UInt8)(hs:Sm s):Does prog tab 286 0 [.str s] [] [] (Val (.str (Z4 s))):=by
 refine Does.enter Z0 call286 func286 rfl 35 rfl rfl [.tmp 2] rfl ?_;intro w0 F η0 h0;conv=>whnf
 repeat'((first|refine AU ?_|(refine IW ?_ ?_<;>intro h<;>try(exfalso;omega)))<;>conv=>whnf)
 refine LOOP.go Z0 [3] (X:=Nat) (fun i=>i<=s.length) (fun i=>[(4, .int .i64 (i:Int))]) (fun i=>[(0, .rows 1 ((curL s i).map Sx.bytesRow))]) 1 (fun i=>s.length-i) 0 (by omega) ?_;conv=>whnf
 refine⟨by(refine GOES.cutting h0 rfl rfl rfl (by first|rfl|(simp only[Zl,Zg,Z2 _ (XO _),Bool.and_self,Bool.and_true]<;>rfl)) ?_ ?_<;>(repeat'(first|(with_reducible rfl)|(exact X6 rfl (by first|(simp;done)|omega|(simp;omega)))|(exact congrArg (SV.int _) (by first|omega|(simp(disch:=omega) only[lnB,Z9,Zo]<;>omega)|(simp;done)|(simp<;>omega)))|(exact congrArg (Hp.rows _) (by rw[Z7y]))|((conv=>whnf);refine⟨?_,?_⟩)|exact trivial|rfl))),?_⟩;intro i hi;have hlen:=Za3 s i;conv=>whnf
 repeat'((first|(refine GET.at (row:=Sx.bytesRow (s[i]'(by omega))) (by rw[show 0+(i:Int).toNat=i by omega];exact Z5W (by omega)) ?_;conv=>whnf)|(refine GETG.at (row:=Sx.bytesRow (s[i]'(by omega))) (by rw[show 0+(i:Int).toNat=i by omega];exact Z5W (by omega)) ?_;conv=>whnf)|refine AU ?_|(refine IW ?_ ?_<;>intro h<;>try(exfalso;omega)))<;>conv=>whnf)
 ·have hl:i<s.length:=by omega
  refine⟨i+1,by omega,by omega,?_⟩;conv=>whnf
  (refine GOES.cutting h0 rfl rfl rfl (by first|rfl|(simp only[Zl,Zg,Z2 _ (XO _),Bool.and_self,Bool.and_true]<;>rfl)) ?_ ?_<;>(repeat'(first|(with_reducible rfl)|(exact X6 rfl (by first|(simp;done)|omega|(simp;omega)))|(exact congrArg (SV.int _) (by first|omega|(simp(disch:=omega) only[lnB,Z9,Zo]<;>omega)|(simp;done)|(simp<;>omega)))|(exact congrArg (Hp.rows _) (by rw[Zde h,show 0+(i:Int).toNat=i by omega,Za5 hl]))|((conv=>whnf);refine⟨?_,?_⟩)|exact trivial|rfl)))
 ·have hl:i<s.length:=by omega
  refine⟨i+1,by omega,by omega,?_⟩;conv=>whnf
  (refine GOES.cutting h0 rfl rfl rfl (by first|rfl|(simp only[Zl,Zg,Z2 _ (XO _),Bool.and_self,Bool.and_true]<;>rfl)) ?_ ?_<;>(repeat'(first|(with_reducible rfl)|(exact X6 rfl (by first|(simp;done)|omega|(simp;omega)))|(exact congrArg (SV.int _) (by first|omega|(simp(disch:=omega) only[lnB,Z9,Zo]<;>omega)|(simp;done)|(simp<;>omega)))|(exact congrArg (Hp.rows _) (by rw[Z7z hl (Z8R (by omega))]))|((conv=>whnf);refine⟨?_,?_⟩)|exact trivial|rfl)))
 ·refine NEED.mk (Ug (by omega)) ?_;conv=>whnf
  refine FIN.value h0 rfl (congrArg SV.str ?_);have:=Z8v (curL s i);rw[hlen]at this;rw[this,Za4 (by omega)]
end Go.Proofs.YtlcbipfmodcedaaGreatDoor
