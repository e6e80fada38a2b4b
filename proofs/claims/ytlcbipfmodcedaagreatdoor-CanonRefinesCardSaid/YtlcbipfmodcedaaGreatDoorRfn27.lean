/- Part 27: Build, Build2, GrowA, GrowB. Conditions: as each part says. -/
import Derived.Test.YtlcbipfmodcedaaGreatDoorProg
import Derived.WalkKit
import Derived.Lib.FrozenHead
import Derived.Lib.Builder
import Derived.Lib.UnsafeStr
import Derived.Shelf.RegionOpenPlain
import Derived.Lib.MakeNoZero
import Derived.Laws.IdiomCopy
import Derived.Test.YtlcbipfmodcedaaGreatDoorRfn9
set_option linter.unusedVariables false
set_option linter.unusedSimpArgs false
set_option maxRecDepth 100000
namespace Go.Proofs.YtlcbipfmodcedaaGreatDoor
open Go.Sx Go.RowKit
abbrev TB:TypeId:=186
abbrev TU:TypeId:=5
structure Stays(b:Nat)(w w':World):Prop where
 os:w'.os=w.os
 tape:w'.tape=w.tape
 output:w'.output=w.output
 drawn:w.drawn<=w'.drawn
 size:w.heap.size<=w'.heap.size
 block:∀k,k<w.heap.size->k≠b->¬kid w b (.bld TB TU []) k->w'.heap[k]?=w.heap[k]?
 kids:∀k,kid w' b (.bld TB TU []) k->kid w b (.bld TB TU []) k\/w.heap.size<=k
section
variable {P:Program}
end
end Go.Proofs.YtlcbipfmodcedaaGreatDoor
namespace Go.Proofs.YtlcbipfmodcedaaGreatDoor
open Go.Sx Go.RowKit
theorem Stays.of{b:Nat}{w w':World}(os:w'.os=w.os)(tape:w'.tape=w.tape)(output:w'.output=w.output)(drawn:w.drawn<=w'.drawn)(size:w.heap.size<=w'.heap.size)(hb:w'.heap[b]?=w.heap[b]?)
 (block:∀k,k<w.heap.size->k≠b->¬kid w b (.bld TB TU []) k->w'.heap[k]?=w.heap[k]?):Stays b w w':=⟨os,tape,output,drawn,size,block,fun k f=> .inl (f.keep hb)⟩
theorem Stays.trans{b:Nat}{u v w:World}(h:Stays b u v)(k:Stays b v w)(hk:∀x,kid v b (.bld TB TU []) x->kid u b (.bld TB TU []) x\/u.heap.size<=x):Stays b u w:=
 ⟨k.os.trans h.os,k.tape.trans h.tape,k.output.trans h.output,Nat.le_trans h.drawn k.drawn,Nat.le_trans h.size k.size,fun x hx hxb hxk=>(k.block x (Nat.lt_of_lt_of_le hx h.size) hxb (fun f=>(hk x f).elim hxk (fun g=>Nat.lt_irrefl _ (Nat.lt_of_lt_of_le hx g)))).trans (h.block x hx hxb hxk),fun x f=>(k.kids x f).elim (hk x) (fun g=> .inr (Nat.le_trans h.size g))⟩
end Go.Proofs.YtlcbipfmodcedaaGreatDoor
