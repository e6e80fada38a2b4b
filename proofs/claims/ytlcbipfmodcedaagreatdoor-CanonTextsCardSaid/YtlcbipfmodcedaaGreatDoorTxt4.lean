/- 4. Conditions: none. -/
import Derived.OrdersIn
import Derived.TacticsIn
import Derived.Test.YtlcbipfmodcedaaGreatDoorTxt0
set_option linter.unusedVariables false
namespace Go.Sx
open Go
section
variable {F:Fence}{P:Program}{ops:Array Oper}{Q:Exit->Act->World->Prop}{md:Region.Mode}
def bP(F:Fence)(P:Program)(md:Region.Mode)(ops:Array Oper)(Q:Exit->Act->World->Prop)(S:Array Bool->World->Prop):Nat->Array Bool->Act->World->Prop
 |0,l,a,w=>Region.ready md ops l=[]/\Q .normal a w
 |n+1,l,a,w=>(Region.ready md ops l=[]->Q .normal a w)/\
  ∀i∈Region.ready md ops l,wpOpIn F 0 P ops Q i (fun a' w'=>S (l.setIfInBounds i true) w'/\bP F P md ops Q S n (l.setIfInBounds i true) a' w') a w
theorem MM{S:Array Bool->World->Prop}:∀(n:Nat) (l:Array Bool) (a:Act) (w:World),bP F P md ops Q S n l a w->wpAnyIn F 0 P md ops Q n l a w
 |0,_,_,_,h=>h
 |n+1,_,_,_,h=>⟨h.1,fun i hi=>wpOpIn_mono (fun a' w' h'=>MM n _ a' w' h'.2) (h.2 i hi)⟩
def cD(l l':Array Bool):Prop:=∀i,l.getD i false=true->l'.getD i false=true
theorem cD.set{l l':Array Bool}(h:cD l l')(i:Nat):cD l (l'.setIfInBounds i true):=fun j hj=>getD_set_true (h j hj)
theorem Gr{S S':Array Bool->World->Prop}{l0:Array Bool}(hS:∀l w,cD l0 l->S' l w->S l w):∀(n:Nat) (l:Array Bool) (a:Act) (w:World),cD l0 l->bP F P md ops Q S' n l a w->bP F P md ops Q S n l a w
 |0,_,_,_,_,h=>h
 |n+1,l,a,w,hg,h=>⟨h.1,fun i hi=>wpOpIn_mono (fun a' w' h'=>⟨hS _ _ (hg.set i) h'.1,Gr hS n _ a' w' (hg.set i) h'.2⟩) (h.2 i hi)⟩
def j8(md:Region.Mode)(ops:Array Oper)(l:Array Bool):Prop:=
 l.size=ops.size/\∀j o,ops[j]?=some o->l.getD j false=true->∀e∈o.after,Region.binds md e=true->l.getD e.on false=true
theorem j8.set{l:Array Bool}{i:Nat}(h:j8 md ops l)(hi:i∈Region.ready md ops l):j8 md ops (l.setIfInBounds i true):=by
 obtain⟨_,o,ho,hall⟩:=mem_ready.1 hi;refine⟨by simp[h.1],fun j o' hj hl e he hb=>?_⟩;by_cases hij:i=j
 .subst hij;rw[ho]at hj;injection hj with hj;subst hj
  exact getD_set_true (hall e he hb)
 .rw[getD_set_ne false hij]at hl;exact getD_set_true (h.2 j o' hj hl e he hb)
theorem ZeA{ro:Option Nat}(o:Oper)(hsel:∀cs b,o.op≠ .select cs b)(a:Act)(dst:Option Tmp)(v:Value)(h:∀d,dst=some d->d∉o.looksAt ops):o.semAt ro (a.put dst v).eval=o.semAt ro a.eval:=by
 have h1:=execOp_put o hsel a dst v h;unfold Oper.semAt;split
 .rename_i l c hc
  have e:=resolve_congr (ρ:=(a.put dst v).eval) (ρ':=a.eval) c o.type (fun x hx=>Act.eval_put fun d hd pq=>h d hd (by
   subst pq
   exact vH _ (List.mem_filterMap.2 ⟨.tmp d,by rw[hc];simpa[Op.operands]using hx,rfl⟩)))
  rw[e]
 exact h1
def kQ(P:Program)(ops:Array Oper)(N:World->Prop)(o:Oper)(v:Value)(a:Act):Prop:=
 (Region.wanted o (yielded ops a.tmps)=true/\∀w,N w->(execOp a.eval o).run P w= .ok (.value v) w\/((execOp a.eval o).run P w= .ok .skip w/\v=undef))\/
 (Region.wanted o (yielded ops a.tmps)=false/\v=undef)
theorem kQ.wpOp(hF:∀f,F.fn f){N:World->Prop}{i:Nat}{o:Oper}{v:Value}{a:Act}(hi:ops[i]?=some o)(hy:kQ P ops N o v a){K:Act->World->Prop}{w:World}(hN:N w)(h:K (a.put o.dst v) w):wpOpIn F 0 P ops Q i K a w:=by
 unfold Go.wpOpIn;simp only[hi];rcases hy with⟨hw,hv⟩|⟨hw,rfl⟩
 .rw[zh hw]
  have hnd:∀c,o.op≠ .defer c:=by
   intro c hc
   have key:∀(n:Next) (w':World),(∀d,n≠ .defer d)->(execOp a.eval o).run P w≠ .ok n w':=by
    intro n w' hn he;simp only[execOp,hc,Sem.run_bind]at he;cases hr:(resolve a.eval c o.type).run P w with
    |ok d w1=>
     rw[hr]at he;simp only[Result.andThen,Sem.run_pure]at he;injection he with he _;exact hn d he.symm
    |halt x w1=>rw[hr]at he;simp only[Result.andThen]at he;cases he
   rcases hv w hN with e|⟨e,_⟩
   exact key _ _ (fun d e=>by cases e) e;exact key _ _ (fun d e=>by cases e) e
  refine⟨fun f _=>hF f,?_⟩;rw[Oper.semAt_eq _ _ _ hnd];rcases hv w hN with e|⟨e,rfl⟩<;>rw[e]<;>exact h
 .rw[z7 (by rw[hw];simp)];exact⟨fun f _=>hF f,h⟩
theorem ZcN(hF:∀f,F.fn f){N:World->Prop}{j:Nat}{oi oj:Oper}{v:Value}(hj:ops[j]?=some oj)(hap:oi.apart ops oj=true)
 (hs:∀(j:Nat) (o:Oper) cs b,ops[j]?=some o->o.op≠ .select cs b) {i:Nat} (hi:ops[i]?=some oi)
 (hQ:∀c a w,Q (.panic c) (a.put oi.dst v) w->Q (.panic c) a w) {K:Act->World->Prop} {a:Act} {w:World}
 (hy:kQ P ops N oi v a) (h:wpOpIn F 0 P ops Q j K (a.put oi.dst v) w):
 wpOpIn F 0 P ops Q j (fun a' w'=>kQ P ops N oi v a'/\K (a'.put oi.dst v) w') a w:=by
 obtain⟨h1,h2,h3⟩:=Oper.apart_spec hap
 have same:∀(a:Act),kQ P ops N oi v a->∀u,kQ P ops N oi v (a.put oj.dst u):=by
  intro a hy u;unfold kQ at*;rw[execOp_put oi (fun cs b=>hs i oi cs b hi) a oj.dst u h3,wanted_put oi a oj.dst u h3];exact hy
 have Gt:∀d,kQ P ops N oi v {a with defers:=d::a.defers}:=fun d=>hy;have run:=ZeA (ro:=F.round) oj (fun cs b=>hs j oj cs b hj) a oi.dst v h1;have want:=wanted_put oj a oi.dst v h1;unfold Go.wpOpIn at h⊢;simp only[hj]at h⊢;rw[want]at h;by_cases hw:Region.wanted oj (yielded ops a.tmps)=true
 .rw[zh hw]at h⊢;refine⟨fun f _=>hF f,?_⟩;have h:=h.2;rw[run]at h;revert h;generalize(oj.semAt F.round a.eval).run P w=r;intro h;rcases r with⟨n,w'⟩|⟨x,w'⟩
  .cases n with
   |value u=>exact⟨same a hy u,by rw[<-Act.put_comm a v u h2];exact h⟩
   |skip=>exact⟨same a hy undef,by rw[<-Act.put_comm a v undef h2];exact h⟩
   |defer d=>
    refine⟨same _ (Gt d) undef,?_⟩;rw[<-Act.put_comm _ v undef h2,<-Act.put_defers];exact h
   |enter f args=>
    simp only[Oper.uponIn]at h⊢;refine⟨h.1,CallsIn.mono h.2 fun e w'' he=>?_⟩;cases e with
    |returned u=>exact⟨same a hy u,by rw[<-Act.put_comm a v u h2];exact he⟩
    |panicked c=>exact hQ _ _ _ he
    |outgrown=>exact he
   |row row args=>
    simp only[Oper.uponIn]at h⊢;exact⟨h.1,RowsIn.mono h.2 fun u w'' he=>⟨same a hy u,by rw[<-Act.put_comm a v u h2];exact he⟩⟩
   |round l f tmps assign body=>
    simp only[Oper.uponIn]at h⊢;refine⟨h.1,RoundIn.mono h.2 fun e w'' he=>?_⟩;cases e with
    |returned u=>exact⟨same a hy u,by rw[<-Act.put_comm a v u h2];exact he⟩
    |panicked c=>exact hQ _ _ _ he
    |outgrown=>exact he
   |_=>exact h
  .cases x with
   |panic u=>exact hQ _ _ _ h
   |_=>exact h
 .rw[z7 hw]at h⊢;exact⟨fun f _=>hF f,same a hy undef,by rw[<-Act.put_comm a v undef h2];exact h.2⟩
theorem ZeB(hF:∀f,F.fn f){S:Array Bool->World->Prop}{N:World->Prop}{i:Nat}{oi:Oper}{v:Value}(hi:ops[i]?=some oi)
 (hs:∀(j:Nat) (o:Oper) cs b,ops[j]?=some o->o.op≠ .select cs b) (hQ:∀c a w,Q (.panic c) (a.put oi.dst v) w->Q (.panic c) a w)
 (hN:∀l w,j8 md ops l->l.getD i true=false->S l w->N w)
 (hSi:∀l w,j8 md ops l->l.getD i true=false->i∈Region.ready md ops l->S (l.setIfInBounds i true) w->S l w):
 ∀(n:Nat) (l:Array Bool) (a:Act) (w:World),j8 md ops l->
  (∀j oj,ops[j]?=some oj->j≠i->l.getD j true=false->(∀e∈oj.after,Region.binds md e=true->e.on≠i)->oi.apart ops oj=true)->
  i∈Region.ready md ops l->kQ P ops N oi v a->S l w->S (l.setIfInBounds i true) w->
  bP F P md ops Q S n (l.setIfInBounds i true) (a.put oi.dst v) w->bP F P md ops Q S (n+1) l a w:=by
 intro n
 induction n with
 |zero=>
  intro l a w hc _ hr hy hS CQ H;have hun:=(mem_ready.1 hr).1;refine⟨fun h=>(by rw[h]at hr;cases hr),fun j hj=>?_⟩;by_cases hji:j=i
  subst hji;exact hy.wpOp hF hi (hN l w hc hun hS) ⟨CQ,H⟩
  .have:=ready_mono hj hji;rw[H.1]at this;cases this
 |succ n ih=>
  intro l a w hc hfree hr hy hS CQ H;have hun:=(mem_ready.1 hr).1;refine⟨fun h=>(by rw[h]at hr;cases hr),fun j hj=>?_⟩;by_cases hji:j=i
  subst hji;exact hy.wpOp hF hi (hN l w hc hun hS) ⟨CQ,H⟩
  .have h1:=H.2 j (ready_mono hj hji);obtain⟨Gu,oj,MN,hall⟩:=mem_ready.1 hj
   have hnot:∀e∈oj.after,Region.binds md e=true->e.on≠i:=by
    intro e he hb heq;have h1:=hall e he hb;rw[heq]at h1;rcases y9 i l.size with h'|h'
    simp[h']at hun h1;rw[hun]at h1;cases h1;simp[xP h']at hun
   have h2:=ZcN hF (N:=N) MN (hfree j oj MN hji Gu hnot) hs hi hQ hy h1;have bq:=hc.set hj;have hr':=ready_mono hr (yX hji);have CR:=(mem_ready.1 hr').1;refine wpOpIn_mono (fun a' w' h3=>?_) h2;obtain⟨hy',CS,H3⟩:=h3;rw[Array.setIfInBounds_comm _ _ (yX hji)]at CS H3;have MO:=hSi _ _ bq CR hr' CS;refine⟨MO,ih _ a' w' bq (fun k ok hk hki MP hno=>?_) hr' hy' MO CS H3⟩;refine hfree k ok hk hki ?_ hno;by_cases hjk:j=k
   subst hjk;exact Gu;rw[getD_set_ne true hjk]at MP;exact MP
theorem Zjl{S:Array Bool->World->Prop}{i n:Nat}{l:Array Bool}{a:Act}{w:World}(hr:Region.ready md ops l=[i])
 (h:wpOpIn F 0 P ops Q i (fun a' w'=>S (l.setIfInBounds i true) w'/\bP F P md ops Q S n (l.setIfInBounds i true) a' w') a w):bP F P md ops Q S (n+1) l a w:=
 ⟨fun h0=>(by rw[hr]at h0;cases h0),fun j hj=>by rw[hr]at hj;rw[zL.1 hj];exact h⟩
end
