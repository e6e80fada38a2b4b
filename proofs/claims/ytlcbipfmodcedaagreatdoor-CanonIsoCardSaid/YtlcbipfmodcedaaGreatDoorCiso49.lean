/- Part 49: AwakeC. Conditions: as each part says. -/
import Derived.Test.YtlcbipfmodcedaaGreatDoorCiso22
import Derived.Test.YtlcbipfmodcedaaGreatDoorCiso45
set_option linter.unusedVariables false
set_option linter.unusedSimpArgs false
set_option maxRecDepth 20000
set_option maxHeartbeats 8000000
namespace Go.Proofs.YtlcbipfmodcedaaGreatDoor
open Go.Sx Go.Our Go.Lib
open _root_.Go.Proofs.Tryz
def cwQ:Qd:=⟨⟨2,[120],[],[]⟩,⟨1,[112,58],[],[]⟩,⟨2,[121],[],[]⟩,ZF⟩
def cH:List Qd:=[cwQ]
def bL:List LB:=[[120],[121]]
theorem AA:(Yr cH).2=0:=Ay (by decide+kernel) (by decide+kernel) (by decide)
theorem lU:Z0 cH=bL:=w_l (by decide+kernel) (by decide+kernel) (by decide+kernel)
def QH(s o:LB):Qd:=⟨⟨2,s,[],[]⟩,⟨1,[112,58],[],[]⟩,⟨2,o,[],[]⟩,ZF⟩
theorem Zlf:YQ bL cH [0,0] 0=[QH [120] [48,48,48,48]]:=by
 unfold YQ;rw[show UC bL cH [0,0] 0=[QH [120] [48,48,48,48]]by decide+kernel,vN]
theorem Zlg:YQ bL cH [0,0] 1=[QH [48,48,48,48] [120]]:=by
 unfold YQ;rw[show UC bL cH [0,0] 1=[QH [48,48,48,48] [120]]by decide+kernel,vN]
theorem TF{c:Nat->Nat->Int}(h:Pre c)(TG:c 1 0<0):(List.range 2).map (fun x=>(w8 c (List.range 2) x:Int))=[1,0]:=by
 have h00:=h.refl 0;have h11:=h.refl 1;have h10:¬c 0 1<0:=fun e=>by have:=h.bG TG (show c 0 1<=0 by omega);omega
 show [(w8 c [0,1] 0:Int),(w8 c [0,1] 1:Int)]=[1,0]
 unfold w8;simp[List.countP_cons,h00,h11,h10,TG]
theorem TH:YL bL cH [0,0]=[1,0]:=TF (W6 bL cH [0,0]) (by
 unfold Vw;rw[z8 (by decide),Zlf,Zlg]
 decide+kernel)
theorem TI:YL bL cH [1,0]=[1,0]:=TF (W6 bL cH [1,0]) (by
 unfold Vw;rw[z6 (by decide)]
 decide)
theorem Zjb:Refs bL cH [0,0] [1,0]:=by
 refine .go (by rw[TH];decide) ?_;rw[TH];have h:Refs bL cH [1,0] (YL bL cH [1,0]):= .stop (by rw[TI]);rwa [TI]at h
theorem TJ:ZU bL cH 1=(1,[[1,0]]):=by
 unfold ZU;rw[show List.replicate bL.length (0:Int)=[0,0]from rfl,GV Zjb,UD (by decide) (by decide)]
 rfl
theorem TK:qu 1=1:=by decide
theorem AB:uX cH 1=0:=by
 unfold uX;rw[lU,TK,TJ,z6 (show ¬jf cH≠0 by unfold jf;rw[AA,lU];decide),z6 (by decide)]
theorem Zjc:ZH bL cH [1,0]=[QH [99,49] [99,48]]:=by
 unfold ZH;rw[show cH.map (JT bL [1,0])=[QH [99,49] [99,48]]by decide+kernel,vN]
theorem ZkG:kG bL [1,0]=[([120],[99,49]),([121],[99,48])]:=by decide+kernel
theorem Z9j:vW prog uv 19 0 [] [] [] (qd 0 (.bool true)):=by
 have hC:=Vz cH [] none 1 (by decide) (by decide) (fun q hq=>by rw[zJ.1 hq];decide+kernel) (by decide);rw[zU]at hC;refine vW.enter Z3 call19 func19 rfl 55 rfl rfl [.tmp 0] rfl ?_;intro w0 F η0 h0;conv=>whnf
 repeat'(first|refine AU ?_|refine IW ?_ ?_<;>intro h<;>try omega)<;>conv=>whnf
 refine CALL.aA [3] hC ?_ (hS:=by(conv=>whnf);exact⟨rfl,trivial⟩);rintro r O nx hQ;rcases oH hQ with⟨h1,_⟩|⟨h1,c,hL,hb,hF,rfl,rfl,rfl⟩
 exact(h1 AB).elim;rw[lU,TK,TJ]at hb;injection hb with hb;obtain rfl:[1,0]=c:=(Prod.mk.inj hb).2;rw[lU,Zjc,ZkG];conv=>whnf
 repeat'(first|refine AU ?_|refine IW ?_ ?_<;>intro h<;>try omega)<;>conv=>whnf
 all_goals first|exact u9.uh h0 rfl rfl|exact absurd trivial ‹_›
end Go.Proofs.YtlcbipfmodcedaaGreatDoor
