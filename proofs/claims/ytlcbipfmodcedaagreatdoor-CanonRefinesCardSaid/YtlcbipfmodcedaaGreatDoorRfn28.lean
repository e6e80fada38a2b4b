/- Part 28: Itoa. Conditions: as each part says. -/
import Derived.Shelf.Strconv.Itoa3
import Derived.Test.YtlcbipfmodcedaaGreatDoorRfn8
set_option linter.unusedVariables false
set_option linter.unusedSimpArgs false
namespace Go.Sx
open Go Go.Sort Go.Shelf Go.Proofs
theorem FrW.grew{w0 w:World}{F:Nat->Prop}(h:FrW w0 w F)(q:Nat)(os:Array Obj):FrW w0 (grow (w.drewN q) os) F:=by
 refine⟨h.os,h.tape,h.output,Nat.le_trans h.drawn (Nat.le_add_right _ _),?_,fun k hk hF=>?_⟩
 ·simp only[grow,World.drewN,Array.size_append];exact Nat.le_trans h.size (Nat.le_add_right _ _)
 ·simp only[grow,World.drewN];rw[Array.getElem?_append_left (Nat.lt_of_lt_of_le hk h.size)];exact h.block k hk hF
theorem HeapOK.grew{M:Mx}{η:Env}{w:World}{O:Hps}{nx:Nat}(H:HeapOK M η w O nx)(q:Nat)(os:Array Obj):HeapOK M η (grow (w.drewN q) os) O nx:=by
 have hk:∀{i h},lkp i O=some h->∀k,feet η w (.loc i) h k->(grow (w.drewN q) os).heap[k]?=w.heap[k]?:=fun hi k f=>by
  simp only[grow,World.drewN];exact Array.getElem?_append_left ((H.own.1 _ _ hi).1.feet_lt f)
 have hb:∀{i h},lkp i O=some h->∀k,feet η (grow (w.drewN q) os) (.loc i) h k->feet η w (.loc i) h k:=fun hi k f=>H.stands List.prefix_rfl hi (hk hi) f;exact⟨H.pre,H.len,⟨fun i h hi=>⟨(H.own.1 i h hi).1.keep (hk hi),fun k f=>(H.own.1 i h hi).2 k (hb hi k f)⟩,fun i j h h' k hi hj hij f f'=>H.own.2 i j h h' k hi hj hij (hb hi k f) (hb hj k f')⟩,H.fr.grew q os,H.sok⟩
theorem Zdw{P:Program}{T:Tab}{ρ:Ren}(L:LaysM.n243 P ρ)(ef:∀args w,(callFunc (ρ.f 243) args).run P w= .ok (.enter (ρ.f 243) args) w){g:Nat}(hgn:P.globalNamed "internal/strconv.uint64pow10" =some g)
 (hgl:lkp g T.globs=some (.tbl (Lib.pow10Tab.map fun z=>Value.int .u64 z))) (n:Int) (h0: -9223372036854775808<=n) (h1:n<=9223372036854775807):
 Does P T (ρ.f 243) 0 [.int .i64 n] [] [] (Val (.str (Lib.itoa n))):=by
 refine⟨fun M vs hP hT' hF hS H hd=> .inl ⟨ρ.f 243,by rw[hP];exact ef _ _,?_⟩⟩;obtain⟨P',⟨T',N',S',ro'⟩,w0,F,η0⟩:=M;simp only at hP hT' hF hS H hd⊢;subst hP hT';simp only[DenL,Den]at hd;obtain⟨v,us,rfl,rfl,rfl⟩:=hd
 have htab:Lib.TabIs P' w0 "internal/strconv.uint64pow10" .u64 Lib.pow10Tab:=by
  have h:=H.shared (b:= .glob g) hgl;simp only[HpSat,Env.get]at h;obtain⟨e,he,hb,T,fz,hc⟩:=h;injection he with he;injection he with he;subst he;unfold Lib.TabIs World.var?;rw[hgn];simp only[Option.bind_some];rw[hc]
 refine(Any.internal_strconv_Itoa L n h0 h1 w0 htab).mono ?_;rintro e w' ⟨rfl,q,os,rfl⟩;exact⟨_,rfl,_,_,_,η0,⟨rfl,rfl,rfl⟩,List.prefix_rfl,H.grew q os,by simp only[Den]⟩
end Go.Sx
