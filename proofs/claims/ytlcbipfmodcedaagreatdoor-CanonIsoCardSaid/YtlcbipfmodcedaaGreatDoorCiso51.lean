/- Part 51: LawCI. Conditions: as each part says. -/
import Derived.Test.YtlcbipfmodcedaaGreatDoorCiso48
import Derived.Test.YtlcbipfmodcedaaGreatDoorCiso49
import Derived.Test.YtlcbipfmodcedaaGreatDoorCiso50
set_option linter.unusedVariables false
set_option linter.unusedSimpArgs false
set_option maxRecDepth 20000
set_option maxHeartbeats 8000000
namespace Go.Proofs.YtlcbipfmodcedaaGreatDoor
open Go.Sx Go.Our Go.Lib
open _root_.Go.Proofs.Tryz
theorem QI{l:List Qd}{n:Int}(h:uX l n=0):j4 l/\(Z0 l).length<=4096:=by
 have h1:jf l=0:=by
  unfold uX at h;split at h
  exact absurd h ‹_›
  .rename_i h1;exact yu h1
 unfold jf at h1;split at h1
 omega
 .rename_i h2;exact⟨BR h1,Nat.le_of_not_lt fun h3=>h2 ⟨h1,h3⟩⟩
theorem ZkM{a b:List Qd}{n:Int}{c d:List Int}(ha:uX a n=0)(hb:uX b n=0)(hc:qz (Z0 a) c)(hd:qz (Z0 b) d)(e:ZH (Z0 a) a c=ZH (Z0 b) b d):∃qs,eA a b qs:=by
 have h1:=TE (QI ha).1 (QI ha).2 hc;have h2:=TE (QI hb).1 (QI hb).2 hd;rw[e]at h1;exact⟨_,h1.comp h2.turn⟩
theorem Zjf{a b:List Qd}{ps:List Pr}(h:eA a b ps):wQ ZJ (a.map (XO ps))=b:=(Cp qO h.vb.cc fun z=>h.ay.mem_iff).symm
theorem Zjg{a b:List Qd}{ps:List Pr}{e n:Int}(ha:uX a n=0)(hb:uX b n=0)(hF:kC a b 65536 ps e)(hne:jP a n≠jP b n):e=4\/e=140:=by
 obtain⟨_,h2,_⟩:=ZiE hF;rcases h2 (RW (QI ha).1 (QI hb).1)with h|h|h
 .subst h;exact(hne (((S4 hF).can n).2 ha).symm).elim
 exact .inl h;exact .inr h
theorem TQ(X Y z w:List Qd)(lA lB:Option Nat)(h:(X++z).length<=1152921504606846976)(h':(Y++w).length<=1152921504606846976):vW prog uv 15 2 [.sl (.loc 0) 0 16 X.length lA, .sl (.loc 1) 0 16 Y.length lB] [] [(0, .rows 16 ((X++z).map Zd)),(1, .rows 16 ((Y++w).map Zd))] (qd 2 (.bool (decide (X=Y)))):=by
 have hh:=Z3s (X++z) (Y++w) 0 X.length 0 Y.length lA lB (by simp) (by simp) h h';rwa [xA,xA,List.take_left,List.take_left]at hh
theorem ZkN{a b:List Qd}{uf:Int}{ps:List Pr}{e:Int}(h:kC a b uf ps e):ps.length<=4194304:=by
 rcases h with⟨_,rfl,_⟩|⟨_,_,rfl,_⟩|⟨hv,_,F,c,_,he⟩
 simp;simp
 .have hA:=Vg (Vv hv).1;have hl:(uG (Z0 a) (Z0 b) (Az (XP (Z0 a).length (cQ F (Z0 a).length) (jt (Z0 a++Z0 b) (Z0 a).length b (wB a b)) (Z0 a).length [] (jG uf))).2).length<=(Z0 a).length:=by unfold uG;rw[vj];omega
  unfold iF at he;split at he
  .split at he<;>injection he with h1 h2
   rw[h1];unfold uG;rw[vj];omega;rw[h1];simp;rw[h1];simp
  .injection he with h1 h2;rw[h1];simp
set_option maxHeartbeats 16000000 in
theorem Zc5(a b:List Qd)(ha:VU a)(hb:VU b)(qa:nH a)(qb:nH b):vW prog uv 8 2 [.sl (.loc 0) 0 16 a.length none, .sl (.loc 1) 0 16 b.length none] [] [(0, .rows 16 (a.map Zd)),(1, .rows 16 (b.map Zd))] (qd 2 (.bool true)):=by
 have iN:=ha;have hb':=hb;unfold VU at iN hb';have hS:=ZbZ a [] b [] none none 4096 (by decide) ha qa hb qb (by simp;omega) (by simp;omega);have hA:=Vz a [] none 4096 (by decide) ha qa (by simp;omega);have hB:=Vz b [] none 4096 (by decide) hb qb (by simp;omega);have hF:=Zf7 a [] b [] none none 65536 (by omega) (by omega) qa qb (by simp;omega) (by simp;omega);rw[zU]at hA hB;rw[zU,zU]at hS hF;refine vW.enter Z3 call8 func8 rfl 80 rfl rfl [.tmp 4] rfl ?_;intro w0 F η0 h0;conv=>whnf
 repeat'(first|refine CALL.value (Z9j) rfl rfl ?_|refine AU ?_|refine IW ?_ ?_<;>intro h<;>try omega)<;>conv=>whnf
 have dD:nY a b 4096=decide (uX a 4096=0/\uX b 4096=0/\jP a 4096=jP b 4096):=rfl;have cG:nX a b 4096=if uX a 4096≠0 then uX a 4096 else uX b 4096:=rfl
 generalize nY a b 4096=sB at dD hS;generalize nX a b 4096=sE at cG hS;refine CALL.aA [0,1] (hS) ?_;rintro r O nx ⟨rfl,rfl,rfl⟩;conv=>whnf
 repeat'(first|refine AU ?_|refine IW ?_ ?_<;>intro h<;>try omega)<;>conv=>whnf
 refine CALL.aA [0] (hA) ?_;rintro r O nx hQ;rcases oH hQ with⟨h1,rfl,rfl,rfl⟩|⟨h1,c,iP,hbc,EG,rfl,rfl,rfl⟩
 .rw[yp (fun h=>h1 h.1)]at dD;rw[z8 h1]at cG;generalize uX a 4096=e at h1 cG;subst dD cG;conv=>whnf
  repeat'(first|refine AU ?_|refine IW ?_ ?_<;>intro h<;>try omega)<;>conv=>whnf
  refine CALL.aA [1] (hB) ?_;rintro r O nx hQ;rcases oH hQ with⟨h2,rfl,rfl,rfl⟩|⟨h2,d,Au,hbd,F4,rfl,rfl,rfl⟩
  all_goals
   conv=>whnf
   repeat'(first|refine AU ?_|refine IW ?_ ?_<;>intro h<;>try omega)<;>conv=>whnf
   all_goals first|(exfalso;omega)|exact u9.uh h0 rfl rfl|exact u9.uh h0 rfl (zf SV.bool (by simp[h1]))
 rw[z6 (by omega)]at cG;conv=>whnf
 repeat'(first|refine AU ?_|refine IW ?_ ?_<;>intro h<;>try omega)<;>conv=>whnf
 refine CALL.aA [1] (hB) ?_;rintro r O nx hQ;rcases oH hQ with⟨h2,rfl,rfl,rfl⟩|⟨h2,d,Au,hbd,F4,rfl,rfl,rfl⟩
 .rw[yp (fun h=>h2 h.2.1)]at dD;generalize uX b 4096=e at h2 cG;subst dD cG;conv=>whnf
  repeat'(first|refine AU ?_|refine IW ?_ ?_<;>intro h<;>try omega)<;>conv=>whnf
  all_goals first|(exfalso;omega)|exact u9.uh h0 rfl rfl|exact u9.uh h0 rfl (zf SV.bool (by simp[h2]))
 rw[h2]at cG;have EH:=U6 (Z0 a) a c;have bP:=U6 (Z0 b) b d;have hEq:=TQ (ZH (Z0 a) a c) (ZH (Z0 b) b d) [] [] none none (by simp;omega) (by simp;omega);rw[zU,zU,EH,bP]at hEq
 have fu:decide (ZH (Z0 a) a c=ZH (Z0 b) b d)=sB:=by
  rw[dD,EG,F4];exact ve.2 ⟨fun h=>⟨h1,h2,h⟩,fun h=>h.2.2⟩
 rw[fu]at hEq;subst cG;have hyes:sB=true->∃qs,eA a b qs:=fun h=>ZkM h1 h2 iP Au (of_decide_eq_true (fu.trans h));have hno:sB=false->jP a 4096≠jP b 4096:=fun h=>by rw[EG,F4];exact of_decide_eq_false (fu.trans h)
 clear dD hS;conv=>whnf
 repeat'(first|refine AU ?_|refine IW ?_ ?_<;>intro h<;>try omega)<;>conv=>whnf
 refine CALL.aA [2,4] (hEq) ?_;rintro r O nx ⟨rfl,rfl,rfl⟩;conv=>whnf
 cases sB
 .have hn:=hno rfl;repeat'(first|refine AU ?_|refine IW ?_ ?_<;>intro h<;>try omega)<;>conv=>whnf
  all_goals first|(exfalso;simp at h;done)|skip
  refine CALL.aA [0,1] (hF) ?_;rintro r O nx ⟨ps,e,Fb,rfl,rfl,rfl⟩;have he:=Zjg h1 h2 Fb hn;conv=>whnf
  repeat'(first|refine AU ?_|refine IW ?_ ?_<;>intro h<;>try omega)<;>conv=>whnf
  all_goals first|(exfalso;simp at h;done)|exact u9.uh h0 rfl rfl|(rw[he.resolve_left (by omega)];exact u9.uh h0 rfl rfl)|trace_state
 .obtain⟨qs,hq⟩:=hyes rfl;repeat'(first|refine AU ?_|refine IW ?_ ?_<;>intro h<;>try omega)<;>conv=>whnf
  all_goals first|(exfalso;simp at h;done)|skip
  refine CALL.aA [0,1] (hF) ?_;rintro r O nx ⟨ps,e,Fb,rfl,rfl,rfl⟩;have jB:=ZkN Fb;have he:=hq.find Fb;have bP:e=0->eA a b ps:=fun h=>by subst h;exact S4 Fb
  conv=>whnf
  repeat'(first|refine AU ?_|refine IW ?_ ?_<;>intro h<;>try omega)<;>conv=>whnf
  exact u9.uh h0 rfl rfl;have hBp:=bP (by omega);have hR:=Z95 a [] none ps [] none ha (by simp;omega) (by simp;omega);rw[zU,zU,Zjf hBp]at hR;refine CALL.aA [0,6] (hR) ?_;rintro r O nx ⟨j,hj,rfl,rfl,rfl⟩;have TR:=TQ b b (List.replicate j Xj) [] (some b.length) none (by rw[ze,zT];omega) (by simp;omega);rw[zU,yA rfl]at TR;conv=>whnf
  repeat'(first|refine AU ?_|refine IW ?_ ?_<;>intro h<;>try omega)<;>conv=>whnf
  refine CALL.aA [7,1] (TR) ?_;rintro r O nx ⟨rfl,rfl,rfl⟩;conv=>whnf
  repeat'(first|refine AU ?_|refine IW ?_ ?_<;>intro h<;>try omega)<;>conv=>whnf
  exact u9.uh h0 rfl rfl
end Go.Proofs.YtlcbipfmodcedaaGreatDoor
