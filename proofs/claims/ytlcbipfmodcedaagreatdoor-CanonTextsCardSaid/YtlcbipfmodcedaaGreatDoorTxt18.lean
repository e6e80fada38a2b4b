import Derived.Test.YtlcbipfmodcedaaGreatDoorTxt15
import Derived.Test.YtlcbipfmodcedaaGreatDoorTxt17
set_option linter.unusedVariables false
set_option linter.unusedSimpArgs false
set_option maxRecDepth 20000
set_option maxHeartbeats 8000000
namespace Go.Proofs.YtlcbipfmodcedaaGreatDoor
open Go.Sx Go.Our Go.Lib
noncomputable def kW (l:List Qd)(b:Int):Int:=if jy l≠0 then jy l else if gy b< (XH (ZA l) l (gy b)).1 then 4 else 0
noncomputable def jE (l:List Qd)(b:Int):List Qd:=match JJ (ZC (ZA l) l) (XH (ZA l) l (gy b)).2 with|some x=>x.1|none=>[]
theorem QU{l:List Qd}{b:Int}{r:SV}{O:w9}{nx:Nat}(h:KL l b r O nx):
 (kW l b≠0/\r= .wM [.val (.slice none 0 0), .val (.slice none 0 0), .int .i64 (kW l b)]/\O=[]/\nx=1)\/
 (kW l b=0/\∃c,qT (ZA l) c/\JJ (ZC (ZA l) l) (XH (ZA l) l (gy b)).2=some (ZC (ZA l) l c,c)/\jE l b=ZC (ZA l) l c/\
   r= .wM [.sl (.loc 1) 0 16 l.length none, .sl (.loc 2) 0 2 (ZA l).length none, .int .i64 0]/\O=[(1, .rows 16 ((ZC (ZA l) l c).map Z4)),(2, .rows 2 ((qV (ZA l) c).map XX))]/\nx=3):=by
 rcases h with⟨h1,rfl,rfl,rfl⟩|⟨h1,h2,rfl,rfl,rfl⟩|⟨h1,h2,c,hc,hb,rfl,rfl,rfl⟩
 .have e:kW l b=jy l:=by unfold kW;rw[zh h1]
  exact .inl ⟨by rw[e];exact h1,by rw[e],rfl,rfl⟩
 .have e:kW l b=4:=by unfold kW;rw[z7 (by omega),zh h2]
  exact .inl ⟨by omega,by rw[e],rfl,rfl⟩
 .have e:kW l b=0:=by unfold kW;rw[z7 (by omega),z7 (by omega)]
  exact .inr ⟨e,c,hc,hb,by unfold jE;rw[hb],rfl,rfl,rfl⟩
end Go.Proofs.YtlcbipfmodcedaaGreatDoor
namespace Go.Proofs.YtlcbipfmodcedaaGreatDoor
open Go.Sx Go.Our Go.Lib
section
variable {a b:List Qd}{ps:List Pr}
theorem Zih{l:List Qd}{s:LB}(h:s∈ZE l):s∈ZA l:=(X4 _ _).2 h
theorem Zii{A:List LB}{c:List Int}:(qV A c).map Prod.fst=A:=by
 apply x9 (by rw[zA,Go.Our.qD]);intro i h1 h2;rw[yz,tH h2 (by rw[Go.Our.qD];exact h2)]
theorem Zij{l:List Qd}{c:List Int}(d:bZ l)(h4:(ZA l).length<=4096)(hL:qT (ZA l) c):Tr l (ZC (ZA l) l c) (qV (ZA l) c):=by
 have hr:=RM hL (EX l) d.QD (fun s hs=>Zih hs);rw[<-hr];have gm:=hL.cn
 have m:∀z,z<c.length->0<=c.getD z 0/\c.getD z 0<4096:=fun z hz=>by
  rw[RJ hz];have:=hL.cs _ (zm hz);omega
 refine Zk1 d (.of_eq Zii) ?_ fun u hu=>?_
 .rw[vN,yV];intro i j hi hj hij e;rw[zA,Go.Our.qD]at hi hj;rw[yz,yz,tH hi (by rw[Go.Our.qD];exact hi),tH hj (by rw[Go.Our.qD];exact hj)]at e;dsimp only at e;unfold b6 at e;injection e with _ e;have e5:=RB e;have c1:=(m i (by omega)).1;have c2:=(m j (by omega)).1;have:=RL hL (show i<c.length by omega) (show j<c.length by omega) (by omega);omega
 .obtain⟨q,hq,rfl⟩:=zY.1 hu;unfold qV at hq;obtain⟨x,hx,rfl⟩:=zY.1 hq;have hx:=yh.1 hx;have:=(m x (by omega));have hd:(decDigits (c.getD x 0).toNat).length<=3+1:=Wn 3 _ (by omega);exact⟨by show(99::decDigits (c.getD x 0).toNat).length<=65536;rw[List.length_cons];omega,Zkz _⟩
end
