/- Part 26: Itoa. Conditions: as each part says. -/
import Derived.Shelf.Strconv.Itoa3
import Derived.Test.YtlcbipfmodcedaaGreatDoorFrm7
set_option linter.unusedVariables false
set_option linter.unusedSimpArgs false
namespace Go.Sx
open Go Go.Sort Go.Shelf Go.Proofs
theorem qW.tP{w0 w:World}{F:Nat->Prop}(h:qW w0 w F)(q:Nat)(os:Array Obj):qW w0 (grow (w.drewN q) os) F:=by
 refine⟨h.os,h.tape,h.output,zO h.drawn (Nat.le_add_right _ _),?_,fun k hk hF=>?_⟩;simp only[grow,World.drewN,vQ];exact zO h.size (Nat.le_add_right _ _)
 .simp only[grow,World.drewN];rw[y9 (yH hk h.size)];exact h.block k hk hF
theorem vR.tP{M:Mx}{K:Env}{w:World}{O:vX}{nx:Nat}(H:vR M K w O nx)(q:Nat)(os:Array Obj):vR M K (grow (w.drewN q) os) O nx:=by
 have hk:∀{i h},u5 i O=some h->∀k,vY K w (.loc i) h k->(grow (w.drewN q) os).heap[k]?=w.heap[k]?:=fun hi k f=>by
  simp only[grow,World.drewN];exact y9 ((H.own.1 _ _ hi).1.uy f)
 have hb:∀{i h},u5 i O=some h->∀k,vY K (grow (w.drewN q) os) (.loc i) h k->vY K w (.loc i) h k:=fun hi k f=>H.stands zu hi (hk hi) f;exact⟨H.pre,H.len,⟨fun i h hi=>⟨(H.own.1 i h hi).1.keep (hk hi),fun k f=>(H.own.1 i h hi).2 k (hb hi k f)⟩,fun i j h h' k hi hj hij f f'=>H.own.2 i j h h' k hi hj hij (hb hi k f) (hb hj k f')⟩,H.fr.tP q os,H.wm⟩
theorem ZeH{P:Program}{T:wU}{ρ:Ren}(L:LaysM.n243 P ρ)(ef:∀args w,(callFunc (ρ.f 243) args).run P w= .ok (.enter (ρ.f 243) args) w){g:Nat}(DI:P.globalNamed "internal/strconv.uint64pow10" =some g)
 (C8:u5 g T.qt=some (.dY (Lib.pow10Tab.map fun z=>Value.int .u64 z))) (n:Int) (h0: -9223372036854775808<=n) (h1:n<=9223372036854775807):
 vS P T (ρ.f 243) 0 [.int .i64 n] [] [] (uN (.str (Lib.itoa n))):=by
 refine⟨fun M vs hP cD hF hS H hd=> .inl ⟨ρ.f 243,by rw[hP];exact ef _ _,?_⟩⟩;obtain⟨P',⟨T',N',S',pK⟩,w0,F,η0⟩:=M;simp only at hP cD hF hS H hd⊢;subst hP cD;simp only[vV,Den]at hd;obtain⟨v,us,rfl,rfl,rfl⟩:=hd
 have htab:Lib.TabIs P' w0 "internal/strconv.uint64pow10" .u64 Lib.pow10Tab:=by
  have h:=H.shared (b:= .uH g) C8;simp only[vT,Env.get]at h;obtain⟨e,he,hb,T,fz,hc⟩:=h;injection he with he;injection he with he;subst he;unfold Lib.TabIs World.var?;rw[DI];simp only[Option.bind_some];rw[hc]
 refine(Any.internal_strconv_Itoa L n h0 h1 w0 htab).mono ?_;rintro e w' ⟨rfl,q,os,rfl⟩;exact⟨_,rfl,_,_,_,η0,⟨rfl,rfl,rfl⟩,zu,H.tP q os,by simp only[Den]⟩
end Go.Sx
