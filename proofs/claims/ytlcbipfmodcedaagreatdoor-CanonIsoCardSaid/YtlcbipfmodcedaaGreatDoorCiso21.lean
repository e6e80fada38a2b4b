/- Part 21: SxLent, SxPan, SxRaw, Part, PartK, RawL. Conditions: as each part says. -/
import Derived.RecoverIn
import Derived.Test.YtlcbipfmodcedaaGreatDoorCiso7
set_option linter.unusedVariables false
set_option linter.unusedSimpArgs false
namespace Go.Sx
open Go
def wN(w:World)(v:Value)(es:Nat)(rs:List (List SV))(en:Option qJ):Prop:=
 (∀x,en=some x->x.g<w.heap.size)/\∀(J:Env) (i:Nat),J[i]?=some en->Den J (.sl (.loc i) 0 es rs.length none) v/\vV J w false (.loc i) (.rows es rs)
theorem wN.now{w w':World}{F:Nat->Prop}{v:Value}{es:Nat}{rs:List (List SV)}{en:Option qJ}(h:wN w v es rs en)(hf:jw w w' F)(hF:∀k, ¬F k):wN w' v es rs en:=
 ⟨fun x hx=>yI (h.1 x hx) hf.size,fun J i hi=>⟨(h.2 J i hi).1,(h.2 J i hi).2.keep fun k f=>by
  obtain⟨e,he,f⟩:=f;rw[show J.get (.loc i)=some en from hi]at he;injection he with he;rcases f with rfl|f
  exact hf.block _ (h.1 e he) (hF _)
  exact f.elim⟩⟩
theorem Ru{J η':Env}(hp:J<+:η'){v:Value}{x:SV}(hx:Den η' x v):∀{pre post:List SV} {vs:List Value},vX J (pre++ .val v::post) vs->vX η' (pre++x::post) vs
 | [],post,vs,h=>by
   simp only[List.nil_append,vX]at h⊢;obtain⟨u,us,h1,h2,h3⟩:=h;simp only[Den]at h2;obtain⟨rfl,_⟩:=h2;exact⟨u,us,h1,hx,h3.mono hp⟩
 |c::pre,post,vs,h=>by
  simp only[List.cons_append,vX]at h⊢;obtain⟨u,us,h1,h2,h3⟩:=h;exact⟨u,us,h1,h2.mono hp,Ru hp hx h3⟩
section
variable {M:Mx}{O:u0}{nx:Nat}
theorem CALL.Gu{f:FuncId}{args:List SV}{K:SV->u0->Nat->Prop}{es:Nat}{rs:List (List SV)}{en:Option qJ}{v:Value}(pre post:List SV)(hv:wN M.w0 v es rs en)(hF:∀k, ¬M.F k)(ha:args=pre++ .val v::post)
 (hc:∀η1,CALL ⟨M.P,{M.C with S:=(.loc nx, .rows es rs)::M.C.S},M.w0,M.F,η1,none⟩ f (pre++ .sl (.loc nx) 0 es rs.length none::post) O (nx+1) K):CALL M f args O nx K:=by
 refine⟨fun J w vs H hd=>?_⟩;subst ha;have hpre:J<+:J++ [en]:=zD _ _;have hnew:(J++ [en])[nx]?=some en:=by rw[zz (by rw[H.len];omega),H.len];simp
 obtain⟨h1,h2⟩:=hv.2 _ _ hnew
 have hold:∀{b h},bM M.C b=some h->∀k,u5 (J++ [en]) M.w0 b h k->u5 M.η0 M.w0 b h k:=fun{b h} hb k f=>by
  obtain⟨x,hx,_⟩:=(H.wH b h hb).1.lt;exact f.less (H.pre.trans hpre) hx
 have H1:vU ⟨M.P,{M.C with S:=(.loc nx, .rows es rs)::M.C.S},M.w0,M.F,J++ [en],none⟩ (J++ [en]) w O (nx+1):=by
  refine⟨zx,by simp[H.len],⟨fun i h hi=>⟨(H.own.1 i h hi).1.mono hpre,fun k f=>(H.own.1 i h hi).2 k (H.stands hpre hi (fun _ _=>rfl) f)⟩,
   fun i j h h' k hi hj hne f f'=>H.own.2 i j h h' k hi hj hne (H.stands hpre hi (fun _ _=>rfl) f) (H.stands hpre hj (fun _ _=>rfl) f')⟩,H.fr,fun b h hb=>?_⟩
  have old:bM M.C b=some h->vV (J++ [en]) M.w0 false b h/\∀k,u5 (J++ [en]) M.w0 b h k->k<M.w0.heap.size/\¬M.F k:=fun hb=>
   ⟨(H.wH b h hb).1.mono (H.pre.trans hpre),fun k f=>(H.wH b h hb).2 k (hold hb k f)⟩
  cases b with
  |uM g=>exact old hb
  |loc i=>
   simp only[bM,kI,aZ]at hb;cases hi:Nat.beq i nx with
   |false=>rw[hi]at hb;exact old hb
   |true=>
    rw[hi]at hb;injection hb with hb;subst hb;have hi:=Zq hi;subst hi;refine⟨h2,fun k f=>⟨?_,hF k⟩⟩;obtain⟨e,he,f⟩:=f;rw[show(J++ [en]).get (.loc i)=some en from hnew]at he;injection he with he;have:=hv.1 e he;rcases f with rfl|f
    exact this;exact f.elim
 refine((hc (J++ [en])).out (J++ [en]) w vs H1 (Ru hpre h1 hd)).mono fun v' w' ⟨r,O',vZ,η',h3,h4,h5,h6⟩=>?_;exact⟨r,O',vZ,η',hpre.trans h3,⟨(H.pre.trans hpre).trans h3,h4.len,h4.own,h4.fr,H.wH⟩,h5,h6⟩
variable {J:Env}{w:World}
end
end Go.Sx
namespace Go.Sx
open Go
structure nO(M:Mx)(f:FuncId)(cap:List SV)(O:u0)(nx:Nat)(K:u0->Nat->Prop):Prop where
 out:∀J w vs,vU M J w O nx->vX J cap vs->∃g,(callFunc f ⟨vs⟩).run M.P w= .ok (.enter g ⟨vs⟩) w/\
  CallsDIn Fence.wide 0 M.P g ⟨vs⟩ .returning w fun e u w'=> ∃v,e= .returned v/\u= .returning/\∃η' O' vZ,J<+:η'/\vU M η' w' O' vZ/\K O' vZ
structure nP(M:Mx)(f:FuncId)(cap:List SV)(p:SV)(O:u0)(nx:Nat)(K:u0->Nat->Prop):Prop where
 out:∀J w vs x,vU M J w O nx->vX J cap vs->Den J p x->∃g,(callFunc f ⟨vs⟩).run M.P w= .ok (.enter g ⟨vs⟩) w/\
  CallsDIn Fence.wide 0 M.P g ⟨vs⟩ (.panicking [{v:=x,recovered:=false}]) w fun e u w'=> ∃v,e= .returned v/\u= .panicking [{v:=x,recovered:=true}]/\∃η' O' vZ,J<+:η'/\vU M η' w' O' vZ/\K O' vZ
def HY(M:Mx)(res:List ResultVar)(Q:SV->u0->Nat->Prop)(fr:Fr)(O:u0)(nx:Nat):Prop:=
 match u6 DS fr with
 |none=>Wb M.C fr O res fun vs=>mS M O nx Q vs
 |some (.jQ [.fn (.func f) [] cap])=>nO M f cap O nx fun O nx=>Wb M.C fr O res fun vs=>mS M O nx Q vs
 |_=>uE "end"
def BL(M:Mx)(res:List ResultVar)(Q:SV->u0->Nat->Prop):Post
 | .normal,fr,O,nx=>HY M res Q fr O nx
 | .ret,fr,O,nx=>HY M res Q fr O nx
 | .exit _,_,_,_=>uE "exit"
def Gv(M:Mx)(res:List ResultVar)(Q:SV->u0->Nat->Prop)(kp:Fr)(f:FuncId)(cap:List SV):SV->u0->Nat->Prop:=
 fun v O nx=>nP M f cap v O nx fun O nx=>Wb M.C kp O res fun vs=>mS M O nx Q vs
def iy(K:u0->Nat->Prop):Post
 | .normal,fr,O,nx=>(match u6 DS fr with|none=>K O nx|some _=>uE "end")
 | .ret,fr,O,nx=>(match u6 DS fr with|none=>K O nx|some _=>uE "end")
 | .exit _,_,_,_=>uE "exit"
theorem Rv{M:Mx}{J:Env}{w:World}{O:u0}{nx:Nat}(hT:ux M.P M.C.T){g:FuncId}{fn:Func}{id:Nat}{o0 o1:Oper}{rest:Code}(hf:M.P.funcs[g]?=some fn)(hb:fn.body=some (.seq (.region id #[o0,o1] false) rest))(N:Nat)(hN:fn.ntmps=N)(gM:N<=DS){cap:List SV}(hlen:cap.length<=N)(hres:fn.results= #[])
 {t0 t1:Tmp} (Gw:o0.op= .call ⟨.builtin .recover, #[], #[]⟩) (Qp:o0.dst=some t0) (ig:o0.guard=none) (pG:o1.op= .assign (.tmp t0)) (kU:o1.dst=some t1) (hg1:o1.guard=none) (hl0:Nat.blt t0 N=true) (kZ:Nat.blt t1 N=true)
 {K:u0->Nat->Prop} {vs:List Value} (H:vU M J w O nx) (hd:vX J cap vs) {p:SV} {x:Value} (hp:Den J p x) {u u2:FrameMode}
 (hu:∀(c₀:Frame) cs,c₀.mode=u->recoverD (c₀::cs)=some (x,{c₀ with mode:=u2}::cs)\/(recoverD (c₀::cs)=none/\x= .nilIface/\u2=u))
 (h:run (M.at N none J) rest ((t1,p)::(t0,p)::XU 0 cap) O nx (iy K)):
 CallsDIn Fence.wide 0 M.P g ⟨vs⟩ u w fun e u' w'=> ∃v,e= .returned v/\u'=u2/\∃η' O' vZ,J<+:η'/\vU M η' w' O' vZ/\K O' vZ:=by
 have hl:=ZL hd;refine callsDIn_of_wpSIn hf hb trivial fun c₀ cs hc=>?_
 have hm:u7 (M.at N none J) J (XU 0 cap) O nx {tmps:=⟨vs⟩++Array.replicate (fn.ntmps-(Array.mk vs).size) undef,defers:=[]} w:=by
  refine⟨H.at,?_,gM,Ko (zK hlen gM),(fun l j h=>by cases h),?_⟩
  .simp only[xT,xV,hN,yc];show vs.length+(N-vs.length)=N
   omega
  .intro t sv ht;obtain⟨v,_,h1,h2⟩:=UL hd ht;have hlt:=(zg.1 h1).1;simp only[Nat.sub_zero]at h1 hlt;rw[y5,ya (by simpa using hlt)];have:(Array.mk vs)[t]?=some v:=by simpa using h1
   rw[this];exact h2
 obtain⟨qh,rfl,wz⟩:=hm.put (d:=some t0) (u:=x) (v:=p) (Kp:=fun fr=>fr=(t0,p)::XU 0 cap) hl0 zx hm.heap hp rfl;obtain⟨fK,rfl,hm2⟩:=wz.put (d:=some t1) (u:=x) (v:=p) (Kp:=fun fr=>fr=(t1,p)::(t0,p)::XU 0 cap) kZ zx hm.heap hp rfl;have hx1:=wz.frame t0 p (by rw[Z6,z8 rfl]);generalize{tmps:=⟨vs⟩++Array.replicate (fn.ntmps-(Array.mk vs).size) undef,defers:=[]:Act}=a at hm wz hm2 hx1⊢
 have rG:(a.put (some t0) x).eval (.tmp t0)=x:=by
  simp only[Act.eval];exact DL (by rw[hm.size];show t0<N;simpa[yU]using hl0)
 refine wpSIn_seq (wpSIn_region ?_);have e0:(execOp a.eval o0).run M.P w= .ok .recover w:=by simp[execOp,Gw,resolve,invoke,builtin]
 have e1:(execOp (a.put (some t0) x).eval o1).run M.P w= .ok (.value x) w:=by simp[execOp,pG,rG]
 have fin:∀cs',cs'={c₀ with mode:=u2}::cs->(rest.wpSIn Fence.wide 0 M.P (bodyPostS M.P fn c₀ cs fun e u' w'=> ∃v,e= .returned v/\u'=u2/\∃η' O' vZ,J<+:η'/\vU M η' w' O' vZ/\K O' vZ)) ((a.put (some t0) x).put (some t1) x) cs' w:=by
  intro cs' hcs;refine wpSIn_of_wpIn rfl (Code.wpIn_mono ?_ (ZX (M:=M.at N none J) hT rest h J _ w hm2))
  have done:∀{η1:Env} {qh:Fr} {O1:u0} {qp:Nat} {a:Act} {w1:World},u7 (M.at N none J) η1 qh O1 qp a w1->(match u6 DS qh with|none=>K O1 qp|some _=>uE "end")->
   a.defers=[]/\∃u',cs'={c₀ with mode:=u'}::cs/\∃v,(results fn a.tmps).run M.P w1= .ok v w1/\∃v',Ending.returned v= .returned v'/\u'=u2/\∃η' O' vZ,J<+:η'/\vU M η' w1 O' vZ/\K O' vZ:=by
   intro η1 qh O1 qp a w1 wz hk;split at hk
   case h_2=>exact hk.out.elim
   rename_i hds;have hdf:=wz.defers;rw[hds]at hdf;exact⟨hdf,u2,hcs, .tuple #[],by rw[Nf,hres];simp,_,rfl,rfl,η1,O1,qp,wz.heap.pre,wz.heap.back H.pre H.wH,hk⟩
  intro e a w hq;cases e with
  |normal=>obtain⟨η1,qh,O1,qp,wz,hq⟩:=hq;exact done wz hq
  |ret=>obtain⟨η1,qh,O1,qp,wz,hq⟩:=hq;exact done wz hq
  |exit id=>obtain⟨η1,qh,O1,qp,wz,hq⟩:=hq;exact hq.out.elim
  |goto l=>exact hq.elim
  |panic ch=>obtain⟨_,_,hn,_⟩:=hq;cases hn
  |outgrown=>exact hq.elim
 show wpOpsSIn Fence.wide 0 M.P #[o0,o1] _ [0,1] a (c₀::cs) w
 have w0:Region.wanted o0 (yielded #[o0,o1] a.tmps)=true:=XR ig;have w1:Region.wanted o1 (yielded #[o0,o1] (a.put (some t0) x).tmps)=true:=XR hg1;rcases hu c₀ cs hc with hr|⟨hr,rfl,rfl⟩
 .simp only[wpOpsSIn,yJ,List.getElem?_cons_zero,List.getElem?_cons_succ,w0,yH,e0,hr,Qp,w1,e1,kU];exact⟨fun f _=>trivial,fun f _=>trivial,fin _ rfl⟩
 .simp only[wpOpsSIn,yJ,List.getElem?_cons_zero,List.getElem?_cons_succ,w0,yH,e0,hr,Qp,w1,e1,kU];exact⟨fun f _=>trivial,fun f _=>trivial,fin _ (by subst hc;rfl)⟩
theorem nO.inline{M:Mx}{O:u0}{nx:Nat}(hT:ux M.P M.C.T){f g:FuncId}{fn:Func}{id:Nat}{o0 o1:Oper}{rest:Code}{cap:List SV}{K:u0->Nat->Prop}(qf:∀args w,(callFunc f args).run M.P w= .ok (.enter g args) w)(hf:M.P.funcs[g]?=some fn)(hb:fn.body=some (.seq (.region id #[o0,o1] false) rest))(N:Nat)(hN:fn.ntmps=N)(t0 t1:Tmp)
 (h:∀η0:Env,η0.length=nx->run (M.at N none η0) rest ((t1, .val .nilIface)::(t0, .val .nilIface)::XU 0 cap) O nx (iy K)) (hlen:Nat.ble cap.length N=true:=by rfl) (hres:fn.results= #[]:=by rfl)
 (Gw:o0.op= .call ⟨.builtin .recover, #[], #[]⟩:=by rfl) (Qp:o0.dst=some t0:=by rfl) (ig:o0.guard=none:=by rfl) (pG:o1.op= .assign (.tmp t0):=by rfl) (kU:o1.dst=some t1:=by rfl) (hg1:o1.guard=none:=by rfl) (hl0:Nat.blt t0 N=true:=by rfl) (kZ:Nat.blt t1 N=true:=by rfl) (gM:Nat.ble N DS=true:=by rfl):nO M f cap O nx K:=
 ⟨fun J w vs H hd=>⟨g,qf _ _,Rv hT hf hb N hN (zP gM) (zP hlen) hres Gw Qp ig pG kU hg1 hl0 kZ H hd (p:= .val .nilIface) (x:= .nilIface) ⟨rfl,rfl⟩ (fun c₀ cs hc=> .inr ⟨by simp[recoverD,hc],rfl,rfl⟩) (h J H.len)⟩⟩
theorem nP.inline{M:Mx}{O:u0}{nx:Nat}(hT:ux M.P M.C.T){f g:FuncId}{fn:Func}{id:Nat}{o0 o1:Oper}{rest:Code}{cap:List SV}{p:SV}{K:u0->Nat->Prop}(qf:∀args w,(callFunc f args).run M.P w= .ok (.enter g args) w)(hf:M.P.funcs[g]?=some fn)(hb:fn.body=some (.seq (.region id #[o0,o1] false) rest))(N:Nat)(hN:fn.ntmps=N)(t0 t1:Tmp)
 (h:∀η0:Env,η0.length=nx->run (M.at N none η0) rest ((t1,p)::(t0,p)::XU 0 cap) O nx (iy K)) (hlen:Nat.ble cap.length N=true:=by rfl) (hres:fn.results= #[]:=by rfl)
 (Gw:o0.op= .call ⟨.builtin .recover, #[], #[]⟩:=by rfl) (Qp:o0.dst=some t0:=by rfl) (ig:o0.guard=none:=by rfl) (pG:o1.op= .assign (.tmp t0):=by rfl) (kU:o1.dst=some t1:=by rfl) (hg1:o1.guard=none:=by rfl) (hl0:Nat.blt t0 N=true:=by rfl) (kZ:Nat.blt t1 N=true:=by rfl) (gM:Nat.ble N DS=true:=by rfl):nP M f cap p O nx K:=
 ⟨fun J w vs x H hd hp=>⟨g,qf _ _,Rv hT hf hb N hN (zP gM) (zP hlen) hres Gw Qp ig pG kU hg1 hl0 kZ H hd hp (fun c₀ cs hc=> .inl (by simp[recoverD,hc])) (h J H.len)⟩⟩
theorem Rw{P:Program}{fn:Func}{tmps:Array Value}{R:Ending->World->Prop}{f g:FuncId}{vs:List Value}{u:FrameMode}{w:World}(hu:u≠ .run)(hc:(callFunc f ⟨vs⟩).run P w= .ok (.enter g ⟨vs⟩) w)
 (h:CallsDIn Fence.wide 0 P g ⟨vs⟩ u w fun e u' w'=> ∃v,e= .returned v/\settle u'= .returning/\∃v,(results fn tmps).run P w'= .ok v w'/\R (.returned v) w'):
 LeavesInM Fence.wide 0 P fn tmps R [{target:= .fn (.func f) ⟨vs⟩,args:= #[]}] u w:=by
 refine⟨hu, .inr ⟨(fun h=>by cases h), .func f,⟨vs⟩,g,⟨vs⟩,rfl,?_,fun g _=>trivial,?_⟩⟩;simpa[invoke]using hc
 .refine⟨h.1,fun c cs hm hr=>?_⟩;obtain⟨e,u',w',fr,⟨v,rfl,hs,v',h1,h2⟩,h3,h4,h5,h6⟩:=h.2 c cs hm hr;refine⟨.returned v,u',w',fr,?_,h3,h4,h5,h6⟩;show LeavesInM _ _ _ _ _ _ [] (settle u') w'
  rw[hs];exact⟨v',h1,h2⟩
theorem vW.iz{P:Program}{T:qg}{f g:FuncId}{k:Nat}{args:List SV}{O S:u0}{Q:SV->u0->Nat->Prop}{fn:Func}{c:Code}(hT:ux P T)(qf:∀args w,(callFunc f args).run P w= .ok (.enter g args) w)
 (hf:P.funcs[g]?=some fn) (hb:fn.body=some c) (N:Nat) (hN:fn.ntmps=N) (hlen:Nat.ble args.length N=true) (res:List ResultVar) (hres:fn.results=res.toArray) (kp:Fr) (f':FuncId) (cap:List SV) (hkp:u6 DS kp=some (.jQ [.fn (.func f') [] cap]))
 (h:∀w0 F η0,η0.length=k->run ⟨P,⟨T,N,qT S,none⟩,w0,F,η0,some (kp,Gv ⟨P,⟨T,N,qT S,none⟩,w0,F,η0,none⟩ res Q kp f' cap)⟩ c (XU 0 args) O k (BL ⟨P,⟨T,N,qT S,none⟩,w0,F,η0,none⟩ res Q)) (gM:Nat.ble N DS=true:=by rfl):vW P T f k args O S Q:=by
 refine⟨fun M vs hP dw hF hS H hd=> .inl ⟨g,by rw[hP];exact qf _ _,?_⟩⟩;obtain⟨P',⟨T',N',S',aO⟩,w0,F,η0,od⟩:=M;simp only at hP dw hF hS H hd⊢;subst hP dw hS;have hk:η0.length=k:=H.len;obtain⟨px,hpx⟩:∃px,px=some (kp,Gv ⟨P',⟨T',N,qT S,none⟩,w0,F,η0,none⟩ res Q kp f' cap):=⟨_,rfl⟩;have H':vU ⟨P',⟨T',N,qT S,none⟩,w0,F,η0,px⟩ η0 w0 O k:=⟨H.pre,H.len,H.own,H.fr,H.wH⟩;have hl:=ZL hd;refine callsIn_wide (n:=0)|>.1 (callsIn_of_wp_marks hf hb trivial ?_)
 have hm:u7 ⟨P',⟨T',N,qT S,none⟩,w0,F,η0,px⟩ η0 (XU 0 args) O k {tmps:=⟨vs⟩++Array.replicate (fn.ntmps-(Array.mk vs).size) undef,defers:=[]} w0:=by
  refine⟨H',?_,zP gM,Ko (zK (zP hlen) (zP gM)),(fun l j h=>by cases h),?_⟩
  .have:=zP hlen;simp only[xT,xV,hN,yc];show vs.length+(N-vs.length)=N
   omega
  .intro t sv ht;obtain⟨v,_,h1,h2⟩:=UL hd ht;have hlt:=(zg.1 h1).1;simp only[Nat.sub_zero]at h1 hlt;rw[y5,ya (by simpa using hlt)];have:(Array.mk vs)[t]?=some v:=by simpa using h1
   rw[this];exact h2
 have hrun:=h w0 F η0 hk;rw[<-hpx]at hrun;refine Code.wpIn_mono ?_ (ZX hT c hrun η0 _ w0 hm);obtain⟨M0,iA⟩:∃M0:Mx,M0=⟨P',⟨T',N,qT S,none⟩,w0,F,η0,none⟩:=⟨_,rfl⟩;rw[<-iA]at hpx;have cv:∀{η1:Env} {w1:World} {O1:u0} {qp:Nat},vU ⟨P',⟨T',N,qT S,none⟩,w0,F,η0,px⟩ η1 w1 O1 qp->vU M0 η1 w1 O1 qp:=fun h=>by subst iA;exact⟨h.pre,h.len,h.own,h.fr,h.wH⟩
 have BM:M0.P=P':=by subst iA;rfl
 have back:∀{η1:Env} {qh:Fr} {O1:u0} {qp:Nat} {a:Act} {w1:World},vU M0 η1 w1 O1 qp->jm η1 a qh->(Wb M0.C qh O1 res fun vs=>mS M0 O1 qp Q vs)->
  ∃v,(results fn a.tmps).run P' w1= .ok v w1/\∃v',Ending.returned v= .returned v'/\∃r O' vZ η',Q r O' vZ/\η0<+:η'/\vU ⟨P',⟨T',N',qT S,aO⟩,w0,F,η0,od⟩ η' w1 O' vZ/\Den η' r v':=by
  intro η1 qh O1 qp a w1 H1 hf1 hr;obtain⟨v,r,h1,h2,h3⟩:=Ni (K:=fun r O nx=>u9 M0 O nx r Q) (a:=a) (by subst iA;exact hT) hres H1 hf1 (by simpa only[DZ]using hr);obtain⟨r',O',vZ,η',h5,h6,h7,h8⟩:=h3.out η1 w1 v H1 h2;rw[BM]at h1;subst iA;exact⟨v,h1,v,rfl,r',O',vZ,η',h5,h6,⟨h7.pre,h7.len,h7.own,h7.fr,h7.wH⟩,h8⟩
 have fin:∀{η1:Env} {qh:Fr} {O1:u0} {qp:Nat} {a:Act} {w1:World},u7 ⟨P',⟨T',N,qT S,none⟩,w0,F,η0,px⟩ η1 qh O1 qp a w1->HY M0 res Q qh O1 qp->
  LeavesInM Fence.wide 0 P' fn a.tmps (fun e w'=> ∃v,e= .returned v/\∃r O' vZ η',Q r O' vZ/\η0<+:η'/\vU ⟨P',⟨T',N',qT S,aO⟩,w0,F,η0,od⟩ η' w' O' vZ/\Den η' r v) a.defers .returning w1:=by
  intro η1 qh O1 qp a w1 wz hr;have hdf:=wz.defers;unfold HY at hr;split at hr
  .rename_i hds;rw[hds]at hdf;have hdf:a.defers=[]:=hdf;rw[hdf];obtain⟨v,h1,h2⟩:=back (a:=a) (cv wz.heap) wz.frame hr;exact⟨v,h1,h2⟩
  .rename_i f1 BN hds;rw[hds]at hdf;have hdf:jh η1 [.fn (.func f1) [] BN] a.defers:=hdf;simp only[jh,vX]at hdf;obtain⟨us,HZ,r1,rfl,h2,h3,rfl⟩:=hdf;rw[h3];obtain⟨g1,h4,h5⟩:=hr.out η1 w1 HZ (cv wz.heap) h2;rw[BM]at h4 h5;refine Rw (by simp) h4 ⟨h5.1,fun c cs K8 hro=>?_⟩;obtain⟨e,u',w',fr,⟨v,he,hu,η',O',vZ,k1,k2,k3⟩,k4⟩:=h5.2 c cs K8 hro;subst hu;obtain⟨v2,q1,q2⟩:=back (a:=a) k2 (wz.frame.mono k1) k3;exact⟨e,_,w',fr,⟨v,he,rfl,v2,q1,q2⟩,k4⟩
  exact hr.out.elim
 intro e a w hq;cases e with
 |normal=>obtain⟨η1,qh,O1,qp,wz,hq⟩:=hq;exact fin wz (by subst iA;exact hq)
 |ret=>obtain⟨η1,qh,O1,qp,wz,hq⟩:=hq;exact fin wz (by subst iA;exact hq)
 |exit id=>obtain⟨η1,qh,O1,qp,wz,hq⟩:=hq;exact hq.out.elim
 |goto l=>exact hq.elim
 |panic ch=>
  obtain⟨kp',X',h1,η1,O1,qp,v,sv,rfl,wz,kU,hx⟩:=hq;rw[hpx]at h1;injection h1 with h1;injection h1 with h1 h2;subst h1 h2;have hdf:=wz.defers;rw[hkp]at hdf;have hdf:jh η1 [.fn (.func f') [] cap] a.defers:=hdf;simp only[jh,vX]at hdf;obtain⟨us,HZ,r1,rfl,h2,h3,rfl⟩:=hdf;show LeavesInM _ _ _ _ _ _ a.defers _ w
  rw[h3];obtain⟨g1,h4,h5⟩:=nP.out hx η1 w HZ v (cv wz.heap) h2 kU;rw[BM]at h4 h5;refine Rw (by simp) h4 ⟨h5.1,fun c cs K8 hro=>?_⟩;obtain⟨e,u',w',fr,⟨x,he,hu,η',O',vZ,k1,k2,k3⟩,k4⟩:=h5.2 c cs K8 hro;subst hu;obtain⟨v2,q1,q2⟩:=back (a:=a) k2 (wz.frame.mono k1) k3;exact⟨e,_,w',fr,⟨x,he,rfl,v2,q1,q2⟩,k4⟩
 |outgrown=>exact hq.elim
structure dH(J:Env)(w:World)(i es:Nat)(rs:List (List DC))(R:List (List SV)):Prop where
 sat:vV J w false (.loc i) (.rows es R)
 len:R.length=rs.length
 cv:∀(r c:Nat) (row:List DC) (sv:SV),rs[r]?=some row->row[c]?=some (DC.v sv)->∃rw:List SV,R[r]?=some rw/\rw[c]?=some sv
 ck:∀(r c:Nat) (row:List DC) (es':Nat) (rows:List (List SV)),rs[r]?=some row->row[c]?=some (DC.uC es' rows)->∃(rw:List SV) (v:Value),R[r]?=some rw/\rw[c]?=some (SV.val v)/\wD J w v es' rows
 lens:∀(r:Nat) (row:List DC) (rw:List SV),rs[r]?=some row->R[r]?=some rw->rw.length=row.length
def Ws(arr:Array Value)(o:Nat):Nat->List DC->List SV
 |_,[]=>[]
 |j, .v sv::r=>sv::Ws arr o (j+1) r
 |j, .uC _ _::r=> .val (arr.getD (o+j) undef)::Ws arr o (j+1) r
theorem W7(arr:Array Value)(o:Nat):∀(j:Nat) (r:List DC),(Ws arr o j r).length=r.length
 |_,[]=>rfl
 |j, .v sv::r=>by simp[Ws,W7 arr o (j+1) r]
 |j, .uC _ _::r=>by simp[Ws,W7 arr o (j+1) r]
theorem Vy(arr:Array Value)(o:Nat):∀(r:List DC) (j c:Nat),(Ws arr o j r)[c]?=(r[c]?).map fun d=>match d with| .v sv=>sv| .uC _ _=> .val (arr.getD (o+(j+c)) undef)
 | [],j,c=>by simp[Ws]
 | .v sv::r,j,0=>rfl
 | .uC _ _::r,j,0=>rfl
 | .v sv::r,j,c+1=>by
   simp only[Ws,List.getElem?_cons_succ];rw[Vy arr o r (j+1) c];cases r[c]? with
   |none=>rfl
   |some d=>cases d<;>simp only[Option.map_some];rw[show j+1+c=j+(c+1)by omega]
 | .uC _ _::r,j,c+1=>by
   simp only[Ws,List.getElem?_cons_succ];rw[Vy arr o r (j+1) c];cases r[c]? with
   |none=>rfl
   |some d=>cases d<;>simp only[Option.map_some];rw[show j+1+c=j+(c+1)by omega]
theorem Se{J:Env}{w:World}{i es:Nat}{rs:List (List DC)}(d:vV J w true (.loc i) (.deep false es rs)):∃R,dH J w i es rs R:=by
 simp only[vV]at d;obtain⟨h1,h2⟩:=d;rcases h1 with⟨hn,h0⟩|⟨e,arr,T,fz,he,ho,hown,hc⟩
 .have h0:rs=[]:=by simpa[ZA]using h0
  subst h0;refine⟨[],?_,rfl,fun r c row sv h=>by simp at h,fun r c row es' rows h=>by simp at h,fun r row rw h=>by simp at h⟩;simp only[vV];exact .inl ⟨hn,trivial⟩
 obtain⟨hb,hk⟩:=h2 e he;have hK:=hk _ ho
 have hrow:∀(r:Nat) (row:List DC),rs[r]?=some row->row.length=es/\um J arr (e.base+r*es) (row.map Y0):=fun r row hr=>by
  have:=hc r (row.map Y0) (by unfold ZA;rw[z7,hr];rfl);rw[zj]at this;exact this
 have ki:∀(r c:Nat) (row:List DC) (es':Nat) (rows:List (List SV)),rs[r]?=some row->row[c]?=some (.uC es' rows)->wD J w (arr.getD (e.base+r*es+c) undef) es' rows/\(arr.getD (e.base+r*es+c) undef).oneCell'=true/\arr[e.base+r*es+c]?=some (arr.getD (e.base+r*es+c) undef):=fun r c row es' rows hr dU=>by
  obtain⟨v,h3,h4,_⟩:=hK.sat r c es' rows (uB.2 ⟨row,hr,dU⟩);obtain⟨u,h5,h6,_⟩:=(hrow r row hr).2 c .any (by rw[z7,dU];rfl);simp only[ZY]at h3;rw[hb,zw]at h5⊢;rw[h3]at h5;injection h5 with h5;subst h5;have:arr.getD (r*es+c) undef=v:=by rw[y5,h3];rfl
  rw[this];exact⟨h4,h6,h3⟩
 refine⟨(List.range rs.length).map fun r=>Ws arr (e.base+r*es) 0 (rs.getD r []),?_,by simp,?_,?_,?_⟩
 .simp only[vV];refine .inr ⟨e,arr,T,fz,he,ho,(fun h=>by cases h),fun r bh hr=>?_⟩;rw[z7]at hr;obtain⟨r',h3,rfl⟩:=zH.1 hr;obtain⟨h4,rfl⟩:=zg.1 h3;rw[yw]at h4;simp only[yS];have hg:rs[r]?=some (rs.getD r []):=by rw[zi,z1 h4];rfl
  obtain⟨h5,h6⟩:=hrow r _ hg;refine⟨by rw[W7,h5],fun c sv mM=>?_⟩;rw[Vy]at mM;obtain⟨d,h7,h8⟩:=zH.1 mM;cases d with
  |v s=>
   simp only at h8;subst h8;exact h6 c s (by rw[z7,h7];rfl)
  |uC es' rows=>
   simp only at h8;subst h8;obtain⟨_,k2,k3⟩:=ki r c _ es' rows hg h7;rw[zw];exact⟨_,k3,k2,by simp only[Den];exact⟨trivial,k2⟩⟩
 .intro r c row sv hr mM;have h4:=(zg.1 hr).1;refine⟨_,by rw[z7,yz h4];rfl,?_⟩;rw[Vy,zi,hr,Option.getD_some,mM];rfl
 .intro r c row es' rows hr mM;have h4:=(zg.1 hr).1;refine⟨_,arr.getD (e.base+r*es+c) undef,by rw[z7,yz h4];rfl,?_,(ki r c row es' rows hr mM).1⟩;rw[Vy,zi,hr,Option.getD_some,mM];simp only[Option.map_some,zw]
 .intro r row bh hr h3;have h4:=(zg.1 hr).1;rw[z7,yz h4]at h3;injection h3 with h3;rw[<-h3,W7,zi,hr];rfl
theorem Zgw{J:Env}{w:World}{v:Value}{es:Nat}{rows:List (List SV)}(h:wD J w v es rows)(hp:Zj rows=true):∃en,wN w v es rows en:=by
 rcases h with⟨rfl,rfl⟩|⟨g,cap,arr,T,fz,rfl,k2,k3,k4,k5,k6⟩
 .refine⟨none,(fun x h=>by cases h),fun η' i hi=>⟨?_,?_⟩⟩;simp only[Den];exact .inl ⟨hi,trivial,rfl⟩;simp only[vV];exact .inl ⟨hi,trivial⟩
 .refine⟨some ⟨g,0,cap⟩,fun x h=>?_,fun η' i hi=>⟨?_,?_⟩⟩;injection h with h;subst h;exact(zC.1 k2).1
  .simp only[Den];exact .inr ⟨⟨g,0,cap⟩,0,hi,by simp,by simpa using k5,zn _,fun _=>by simp⟩
  .simp only[vV];refine .inr ⟨⟨g,0,cap⟩,arr,T,fz,hi,k2,(fun h=>by cases h),fun r row hr=>?_⟩;obtain⟨h1,h2⟩:=k6 r row hr;exact⟨h1,h2.plain (XT hp hr)⟩
def rY(M:Mx)(O:u0)(J:Env)(w:World)(i es:Nat)(R:List (List SV)):Mx:=⟨M.P,{M.C with S:=(.loc i, .rows es R)::(Q7 M.C O).S},w,fun _=>False,J,none⟩
section
variable {M:Mx}{J:Env}{w:World}{O:u0}{nx:Nat}
theorem vU.raw(H:vU M J w O nx){i es:Nat}{R:List (List SV)}(hs:vV J w false (.loc i) (.rows es R)):vU (rY M O J w i es R) J w [] nx:=by
 refine⟨zx,H.len,⟨fun i h hi=>by simp[u6]at hi,fun i j h h' n hi=>by simp[u6]at hi⟩,jw.refl _ _,fun b h hb=>?_⟩
 have go:Yv M.C O b=some h->vV J w false b h/\∀k,u5 J w b h k->k<w.heap.size/\¬False:=fun hb=>by
  have uc:=H.look hb;exact⟨uc,fun k f=>⟨uc.uL f,fun h=>h⟩⟩
 cases b with
 |uM g=>exact go (by rw[<-Cb];exact hb)
 |loc j=>
  simp only[rY,bM,kI,aZ]at hb;cases e:Nat.beq j i with
  |false=>rw[e]at hb;exact go (by rw[<-Cb];exact hb)
  |true=>
   rw[e]at hb;injection hb with hb;subst hb;have:=Zq e;subst this;exact⟨hs,fun k f=>⟨hs.uL f,fun h=>h⟩⟩
structure dI(M:Mx)(f:FuncId)(args:List SV)(O:u0)(nx:Nat)(r:SV):Prop where
 out:∀J w vs,vU M J w O nx->vX J args vs->j7 M.P f ⟨vs⟩ w fun v w'=>Den J r v/\jw w w' fun _=>False
theorem vU.nS(H:vU M J w O nx){w':World}(hf:jw w w' fun _=>False):vU M J w' O nx:=by
 have hk:∀{i h},u6 i O=some h->∀k,u5 J w (.loc i) h k->w'.heap[k]?=w.heap[k]?:=fun hi k f=>hf.block k ((H.own.1 _ _ hi).1.uL f) (fun h=>h);have hb:∀{i h},u6 i O=some h->∀k,u5 J w' (.loc i) h k->u5 J w (.loc i) h k:=fun hi k f=>H.stands zx hi (hk hi) f;exact⟨H.pre,H.len,⟨fun i h hi=>⟨(H.own.1 i h hi).1.keep (hk hi),fun k f=>(H.own.1 i h hi).2 k (hb hi k f)⟩,fun i j h h' k hi hj hij f f'=>H.own.2 i j h h' k hi hj hij (hb hi k f) (hb hj k f')⟩,H.fr.trans hf (fun n h=>h.elim),H.wH⟩
theorem CALL.quiet{f:FuncId}{args:List SV}{r:SV}{K:SV->u0->Nat->Prop}(h:dI M f args O nx r)(hK:K r O nx):CALL M f args O nx K:=
 ⟨fun J w vs H hd=>(h.out J w vs H hd).mono fun v w' ⟨h1,h2⟩=>⟨r,O,nx,J,zx,H.nS h2,h1,hK⟩⟩
theorem dI.raw{f:FuncId}{args:List SV}{r:SV}{i es:Nat}{rs:List (List DC)}(hi:u6 i O=some (.deep false es rs))(hp:plain r=true)
 (h:∀J w R,vU M J w O nx->dH J w i es rs R->CALL (rY M O J w i es R) f args [] nx fun r' _ _=>r'=r):dI M f args O nx r:=by
 refine⟨fun J w vs H hd=>?_⟩;obtain⟨R,hR⟩:=Se (H.own.1 i _ hi).1;refine((h J w R H hR).out J w vs (H.raw hR.sat) hd).mono fun v w' ⟨r',O',vZ,η',_,h4,h5,h6⟩=>?_;subst h6;exact⟨Den.uj (σ:=id) (k:=0) (fun i x hi=>by omega) (Xs 0 hp) (by rw[Xh _ hp];exact h5),h4.fr⟩
theorem CALL.ofW{G:World->Prop}{f:FuncId}{args:List SV}{K:SV->u0->Nat->Prop}{k:Nat}{uH:List SV}{Oc Sc:u0}{Q:SV->u0->Nat->Prop}(L:List Nat)(sp:pR G M.P M.C.T f k uH Oc Sc Q)(hG:∀J w,vU M J w O nx->G w)
 (hL:L.length=k) (eT:∀i∈L,i<nx) (ha:args=uR (Zk L nx) uH) (hb:ZZ k uH=true)
 (hO:∀p∈Oc,p.1<k/\u6 (Zk L nx p.1) O=some (uo (Zk L nx) p.2)/\Zp k p.2=true)
 (sX:∀j∈Zg Oc,∀j'∈Zg Oc,Zk L nx j=Zk L nx j'->j=j')
 (hS:∀p∈Sc,p.1<k/\Yv M.C O (.loc (Zk L nx p.1))=some (uo (Zk L nx) p.2)/\Zp k p.2=true/\Zk L nx p.1∉ (Zg Oc).map (Zk L nx))
 (hK:∀r O' vZ,Q r O' vZ->K (uD (Zk L nx) r) (qF (Zk L nx) O'++Ya ((Zg Oc).map (Zk L nx)) O) (nx+(vZ-k))):CALL M f args O nx K:=by
 refine⟨fun J w vs H hd=>?_⟩;obtain⟨Mc,h1,h2,h3,h4,h5,h6,h7,h8⟩:=C2 L hL eT ha hb hO sX hS H hd;refine(h1▸h5▸(sp.out Mc vs h1 h2 h3 h4 h6 h7 (h5▸hG J w H))).mono ?_;rintro v w' ⟨r,O',vZ,η',hq,hpre,H',fB⟩;obtain⟨η2,k1,k2,k3⟩:=h8 r O' vZ η' v w' hpre H' fB;exact⟨_,_,_,η2,k1,k2,k3,hK r O' vZ hq⟩
end
section
variable {M:Mx}{O:u0}{nx:Nat}
theorem CALL.part{f:FuncId}{K:SV->u0->Nat->Prop}{es n o i:Nat}{rs:List (List SV)}{lim:Option Nat}(hb:bM M.C (.loc i)=some (.rows es rs))(hn:0<n)
 (hc:∀η1,CALL ⟨M.P,{M.C with S:=(.loc nx, .rows es (rs.drop o))::M.C.S},M.w0,M.F,η1,none⟩ f [.sl (.loc nx) 0 es n none] O (nx+1) K):CALL M f [.sl (.loc i) o es n lim] O nx K:=by
 refine⟨fun J w vs H hd=>?_⟩;simp only[vX,Den]at hd;obtain⟨v,us,rfl,hv,rfl⟩:=hd;rcases hv with⟨_,_,h0⟩|⟨e,o',he,hv,hle,hcap,hof⟩
 omega;obtain⟨uc,hft⟩:=H.wH _ _ hb;have hx:∃x:qJ,x=⟨e.g,e.base+o*es,lim.getD e.cap-o⟩:=⟨_,rfl⟩;obtain⟨x,hx⟩:=hx;have hpre:J<+:J++ [some x]:=zD _ _;have hnew:(J++ [some x])[nx]?=some (some x):=by rw[zz (by rw[H.len];omega),H.len];simp
 have s7:vV (J++ [some x]) M.w0 false (.loc i) (.rows es rs):=uc.mono (H.pre.trans hpre);have Qf:(J++ [some x]).get (.loc i)=some (some e):=Env.ug hpre he
 have he0:M.η0.get (.loc i)=some (some e):=by
  obtain⟨y,hy,_⟩:=uc.lt;have:=(Env.ug H.pre hy).symm.trans he;rw[hy,this]
 have hlt:e.g<M.w0.heap.size/\¬M.F e.g:=hft _ (u5.own he0)
 have hold:∀{b h},bM M.C b=some h->∀k,u5 (J++ [some x]) M.w0 b h k->u5 M.η0 M.w0 b h k:=fun{b h} hb k f=>by
  obtain⟨y,hy,_⟩:=(H.wH b h hb).1.lt;exact f.less (H.pre.trans hpre) hy
 have h2:vV (J++ [some x]) M.w0 false (.loc nx) (.rows es (rs.drop o)):=by
  simp only[vV]at s7⊢;rcases s7 with⟨h3,_⟩|⟨e',arr,T,fz,h3,h4,_,h6⟩
  rw[Qf]at h3;cases h3
  .rw[Qf]at h3;injection h3 with h3;injection h3 with h3;subst h3
   refine .inr ⟨x,arr,T,fz,hnew,by rw[hx];exact h4,(fun h=>by cases h),fun r row hr=>?_⟩;rw[ye]at hr;obtain⟨h7,h8⟩:=h6 _ _ hr;refine⟨h7,?_⟩;have HS:x.base=e.base+o*es:=by rw[hx]
   rw[HS];rw[xB,<-xx]at h8;exact h8
 have H1:vU ⟨M.P,{M.C with S:=(.loc nx, .rows es (rs.drop o))::M.C.S},M.w0,M.F,J++ [some x],none⟩ (J++ [some x]) w O (nx+1):=by
  refine⟨zx,by simp[H.len],⟨fun i h hi=>⟨(H.own.1 i h hi).1.mono hpre,fun k f=>(H.own.1 i h hi).2 k (H.stands hpre hi (fun _ _=>rfl) f)⟩,
   fun i j h h' k hi hj hne f f'=>H.own.2 i j h h' k hi hj hne (H.stands hpre hi (fun _ _=>rfl) f) (H.stands hpre hj (fun _ _=>rfl) f')⟩,H.fr,fun b h hb=>?_⟩
  have old:bM M.C b=some h->vV (J++ [some x]) M.w0 false b h/\∀k,u5 (J++ [some x]) M.w0 b h k->k<M.w0.heap.size/\¬M.F k:=fun hb=>
   ⟨(H.wH b h hb).1.mono (H.pre.trans hpre),fun k f=>(H.wH b h hb).2 k (hold hb k f)⟩
  cases b with
  |uM g=>exact old hb
  |loc j=>
   simp only[bM,kI,aZ]at hb;cases hi:Nat.beq j nx with
   |false=>rw[hi]at hb;exact old hb
   |true=>
    rw[hi]at hb;injection hb with hb;subst hb;have hi:=Zq hi;subst hi;refine⟨h2,fun k f=>?_⟩;obtain⟨y,hy,f⟩:=f;rw[show(J++ [some x]).get (.loc j)=some (some x)from hnew]at hy;injection hy with hy;injection hy with hy;subst hy;rcases f with rfl|f
    rw[hx];exact hlt;exact f.elim
 have kU:vX (J++ [some x]) [.sl (.loc nx) 0 es n none] [v]:=by
  simp only[vX,Den];refine⟨v,[],rfl, .inr ⟨x,o',hnew,?_,?_,zn _,fun _=>?_⟩,rfl⟩;rw[hv,hx];simp;rw[hx];simp;omega;rw[hx];simp;exact hof (.inl (by omega))
 refine((hc (J++ [some x])).out (J++ [some x]) w [v] H1 kU).mono fun v' w' ⟨r,O',vZ,η',h3,h4,h5,h6⟩=>?_;exact⟨r,O',vZ,η',hpre.trans h3,⟨(H.pre.trans hpre).trans h3,h4.len,h4.own,h4.fr,H.wH⟩,h5,h6⟩
end
theorem ZeS{K:Env}{w:World}{v:Value}{es:Nat}{rows:List (List SV)}(h:wD K w v es rows)(hp:Zj rows=true):∃en,wN w v es rows en/\∀y,en=some y->v.ownBlock=some y.g:=by
 rcases h with⟨rfl,rfl⟩|⟨g,cap,arr,T,fz,rfl,k2,k3,k4,k5,k6⟩
 .refine⟨none,⟨(fun x h=>by cases h),fun η' i hi=>⟨?_,?_⟩⟩,fun y h=>by cases h⟩;simp only[Den];exact .inl ⟨hi,trivial,rfl⟩;simp only[vV];exact .inl ⟨hi,trivial⟩
 .refine⟨some ⟨g,0,cap⟩,⟨fun x h=>?_,fun η' i hi=>⟨?_,?_⟩⟩,fun y h=>by injection h with h;subst h;rfl⟩;injection h with h;subst h;exact(zC.1 k2).1
  .simp only[Den];exact .inr ⟨⟨g,0,cap⟩,0,hi,by simp,by simpa using k5,zn _,fun _=>by simp⟩
  .simp only[vV];refine .inr ⟨⟨g,0,cap⟩,arr,T,fz,hi,k2,(fun h=>by cases h),fun r row hr=>?_⟩;obtain⟨h1,h2⟩:=k6 r row hr;exact⟨h1,h2.plain (XT hp hr)⟩
section
variable {M:Mx}{O:u0}{nx:Nat}
end
theorem wN.An{w w':World}{F:Nat->Prop}{v:Value}{es:Nat}{rs:List (List SV)}{en:Option qJ}(h:wN w v es rs en)(hf:jw w w' F)(hF:∀y,en=some y->¬F y.g):wN w' v es rs en:=
 ⟨fun x hx=>yI (h.1 x hx) hf.size,fun K i hi=>⟨(h.2 K i hi).1,(h.2 K i hi).2.keep fun k f=>by
  obtain⟨e,he,f⟩:=f;rw[show K.get (.loc i)=some en from hi]at he;injection he with he;rcases f with rfl|f
  exact hf.block _ (h.1 e he) (hF _ he)
  exact f.elim⟩⟩
def QD(K:Env)(w:World)(O:u0)(i:Nat)(k:Nat):Prop:=∃(j:Nat) (h:Hp),j≠i/\u6 j O=some h/\u5 K w (.loc j) h k
section
variable {M:Mx}{K:Env}{w:World}{O:u0}{nx:Nat}
def GZ(M:Mx)(O:u0)(K:Env)(w:World)(i es:Nat)(R:List (List SV)):Mx:=⟨M.P,{M.C with S:=(.loc i, .rows es R)::M.C.S},w,QD K w O i,K,M.px⟩
theorem vU.iR(H:vU M K w O nx){i es:Nat}{rs:List (List DC)}{R:List (List SV)}(hi:u6 i O=some (.deep false es rs))(hR:dH K w i es rs R):vU (GZ M O K w i es R) K w (wh i O) nx:=by
 have hd:∀j h,u6 j (wh i O)=some h->j≠i/\u6 j O=some h:=fun j h hj=>by
  by_cases e:j=i
  subst e;rw[Ym]at hj;cases hj;exact⟨e,by rwa [Jq i O j e]at hj⟩
 refine⟨zx,H.len,⟨fun j h hj=>?_,fun j j' h h' k hj hj' hne f=>?_⟩,jw.refl _ _,fun b h hb=>?_⟩
 .obtain⟨h1,h2⟩:=hd j h hj;exact⟨(H.own.1 j h h2).1,fun k f=> .inl ⟨j,h,h1,h2,f⟩⟩
 exact H.own.2 j j' h h' k (hd j h hj).2 (hd j' h' hj').2 hne f
 have old:bM M.C b=some h->vV K w false b h/\∀k,u5 K w b h k->k<w.heap.size/\¬QD K w O i k:=fun hb=>by
  refine⟨H.shared hb,fun k f=>?_⟩;obtain⟨h1,h2⟩:=H.wH b h hb;obtain⟨x,hx,_⟩:=h1.lt
  have f2:u5 M.η0 M.w0 b h k:=(f.less H.pre hx).keep fun e he=>by
   obtain⟨h3,h4⟩:=h2 e.g (u5.own he);exact H.fr.block _ h3 h4
  obtain⟨h3,h4⟩:=h2 k f2;refine⟨yI h3 H.fr.size,?_⟩;rintro⟨j,h',_,hj,f3⟩;rcases(H.own.1 j h' hj).2 k f3 with h5|h5
  exact h4 h5;omega
 cases b with
 |uM g=>exact old hb
 |loc j=>
  simp only[GZ,bM,kI,aZ]at hb;cases e:Nat.beq j i with
  |false=>rw[e]at hb;exact old hb
  |true=>
   rw[e]at hb;injection hb with hb;subst hb;have:=Zq e;subst this;refine⟨hR.sat,fun k f=>⟨hR.sat.uL f,?_⟩⟩;rintro⟨j',h',hne,hj',f'⟩;obtain⟨en,he,f⟩:=f;rcases f with rfl|f
   exact H.own.2 j' j h' _ _ hj' hi hne f' ⟨en,he, .inl rfl⟩;exact f.elim
theorem vU.fh(H:vU M K w O nx){i es:Nat}{R:List (List SV)}{η':Env}{w':World}{O':u0}{n':Nat}(H':vU (GZ M O K w i es R) η' w' O' n'):vU M η' w' O' n':=by
 have go:∀k,QD K w O i k->M.F k\/M.w0.heap.size<=k:=fun k ⟨j,h,_,hj,f⟩=>(H.own.1 j h hj).2 k f;refine⟨H.pre.trans H'.pre,H'.len,⟨fun j h hj=>⟨(H'.own.1 j h hj).1,fun k f=>?_⟩,H'.own.2⟩,H.fr.trans H'.fr go,H.wH⟩;rcases(H'.own.1 j h hj).2 k f with h1|h1
 exact go k h1;exact .inr (zK H.fr.size h1)
theorem vU.nW(H:vU M K w O nx){i es:Nat}{rs:List (List DC)}{R:List (List SV)}(hi:u6 i O=some (.deep false es rs))(hR:dH K w i es rs R){r c es':Nat}{rows:List (List SV)}{row:List DC}(h1:rs[r]?=some row)(h2:row[c]?=some (.uC es' rows))(hp:Zj rows=true):
 ∃bh v,R[r]?=some bh/\bh[c]?=some (.val v)/\∀w',jw w w' (QD K w O i)->∃en,wN w' v es' rows en:=by
 obtain⟨bh,v,h3,h4,h5⟩:=hR.ck r c row es' rows h1 h2;refine⟨bh,v,h3,h4,fun w' hf=>?_⟩;obtain⟨en,h6,h7⟩:=ZeS h5 hp;refine⟨en,h6.An hf fun y hy=>?_⟩;rintro⟨j,h',hne,hj,f⟩;have hs:=hR.sat;simp only[vV]at hs;rcases hs with⟨_,hs⟩|⟨e,arr,T,fz,g2,g3,_,g5⟩
 rw[hs]at h3;simp at h3;obtain⟨_,g6⟩:=g5 r bh h3;obtain⟨u,g7,_,g8⟩:=g6 c (.val v) h4;simp only[Den]at g8;have hb:=(((H.own.1 i _ hi).1.qD).2.1 e g2).1;refine H.own.2 j i h' _ y.g hj hi hne f ⟨e,g2, .inr ⟨_,r,c,(es',rows),v,g3,uB.2 ⟨row,h1,h2⟩,?_,h7 y hy⟩⟩;simp only[ZY];rw[hb,zw]at g7;rw[g7,g8.1]
theorem u7.fh{fr fr':Fr}{a a':Act}(H:vU M K w O nx){i es:Nat}{R:List (List SV)}{η':Env}{w':World}{O':u0}{n':Nat}(h:u7 (GZ M O K w i es R) η' fr' O' n' a' w'):u7 M η' fr' O' n' a' w':=
 ⟨H.fh h.heap,h.size,h.fN,h.defers,h.ro,h.frame⟩
theorem ua.rest{body:Code}{fr:Fr}{Q:Post}{i es:Nat}{rs:List (List DC)}{O1:u0}(hi:u6 i O=some (.deep false es rs))(hO:wh i O=O1)
 (h:∀(K:Env) w,K.length=nx->∀R,dH K w i es rs R->(∀(r c es':Nat) (rows:List (List SV)) (row:List DC),rs[r]?=some row->row[c]?=some (.uC es' rows)->Zj rows=true->∃bh v,R[r]?=some bh/\bh[c]?=some (.val v)/\∀w',jw w w' (QD K w O i)->∃en,wN w' v es' rows en)->
   ua ⟨M.P,{M.C with S:=(.loc i, .rows es R)::M.C.S},w,QD K w O i,K,M.px⟩ body fr O1 nx Q):ua M body fr O nx Q:=by
 subst hO;refine⟨fun K a w hm b k cs hro=>?_⟩;have H:=hm.heap;obtain⟨R,hR⟩:=Se (H.own.1 i _ hi).1;have hl:=h K w H.len R hR fun r c es' rows row h1 h2 h3=>H.nW hi hR h1 h2 h3;have hm2:u7 (GZ M O K w i es R) K fr (wh i O) nx a w:=⟨H.iR hi hR,hm.size,hm.fN,hm.defers,hm.ro,hm.frame⟩;obtain⟨e,a',w',hq,ha⟩:=hl.out K a w hm2 b k cs hro;refine⟨e,a',w',?_,ha⟩;cases e with
 |normal=>obtain⟨η',fr',O',n',h1,h2⟩:=hq;exact⟨η',fr',O',n',u7.fh (a:=a) (fr:=fr) H h1,h2⟩
 |exit id=>obtain⟨η',fr',O',n',h1,h2⟩:=hq;exact⟨η',fr',O',n',u7.fh (a:=a) (fr:=fr) H h1,h2⟩
 |ret=>obtain⟨η',fr',O',n',h1,h2⟩:=hq;exact⟨η',fr',O',n',u7.fh (a:=a) (fr:=fr) H h1,h2⟩
 |panic ch=>
  obtain⟨kp,X,h1,η',O',n',v,sv,h2,h3,h4⟩:=hq;exact⟨kp,X,h1,η',O',n',v,sv,h2,u7.fh (a:=a) (fr:=fr) H h3,h4⟩
 |_=>exact hq.elim
end
end Go.Sx
