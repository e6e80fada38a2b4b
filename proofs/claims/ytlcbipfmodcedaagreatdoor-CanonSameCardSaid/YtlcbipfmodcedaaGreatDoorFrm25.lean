/- Part 25: Build, Build2, GrowA, GrowB. Conditions: as each part says. -/
import Derived.Test.YtlcbipfmodcedaaGreatDoorProg
import Derived.WalkKit
import Derived.Lib.FrozenHead
import Derived.Lib.Builder
import Derived.Lib.UnsafeStr
import Derived.Shelf.RegionOpenPlain
import Derived.Lib.MakeNoZero
import Derived.Laws.IdiomCopy
import Derived.Test.YtlcbipfmodcedaaGreatDoorFrm8
set_option linter.unusedVariables false
set_option linter.unusedSimpArgs false
set_option maxRecDepth 100000
namespace Go.Proofs.YtlcbipfmodcedaaGreatDoor
open Go.Sx Go.RowKit
abbrev TB:TypeId:=186
abbrev TU:TypeId:=5
structure dm(b:Nat)(w w':World):Prop where
 os:w'.os=w.os
 tape:w'.tape=w.tape
 output:w'.output=w.output
 drawn:w.drawn<=w'.drawn
 size:w.heap.size<=w'.heap.size
 block:∀k,k<w.heap.size->k≠b->¬uA w b (.kV TB TU []) k->w'.heap[k]?=w.heap[k]?
 kids:∀k,uA w' b (.kV TB TU []) k->uA w b (.kV TB TU []) k\/w.heap.size<=k
section
variable {P:Program}
end
end Go.Proofs.YtlcbipfmodcedaaGreatDoor
namespace Go.Proofs.YtlcbipfmodcedaaGreatDoor
open Go.Sx Go.RowKit
theorem dm.of{b:Nat}{w w':World}(os:w'.os=w.os)(tape:w'.tape=w.tape)(output:w'.output=w.output)(drawn:w.drawn<=w'.drawn)(size:w.heap.size<=w'.heap.size)(hb:w'.heap[b]?=w.heap[b]?)
 (block:∀k,k<w.heap.size->k≠b->¬uA w b (.kV TB TU []) k->w'.heap[k]?=w.heap[k]?):dm b w w':=⟨os,tape,output,drawn,size,block,fun k f=> .inl (f.keep hb)⟩
theorem dm.trans{b:Nat}{u v w:World}(h:dm b u v)(k:dm b v w)(hk:∀x,uA v b (.kV TB TU []) x->uA u b (.kV TB TU []) x\/u.heap.size<=x):dm b u w:=
 ⟨k.os.trans h.os,k.tape.trans h.tape,k.output.trans h.output,zO h.drawn k.drawn,zO h.size k.size,fun x hx Hv Fm=>(k.block x (yH hx h.size) Hv (fun f=>(hk x f).elim Fm (fun g=>Nat.lt_irrefl _ (yH hx g)))).trans (h.block x hx Hv Fm),fun x f=>(k.kids x f).elim (hk x) (fun g=> .inr (zO h.size g))⟩
end Go.Proofs.YtlcbipfmodcedaaGreatDoor
