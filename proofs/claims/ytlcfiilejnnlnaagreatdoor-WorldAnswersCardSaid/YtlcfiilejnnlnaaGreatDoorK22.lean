/- A part of the proof: Sj. -/
import Derived.Test.YtlcfiilejnnlnaaGreatDoorK12
import Derived.Shelf.Strings.OnBuilder
set_option maxRecDepth 100000
set_option maxHeartbeats 20000000
set_option linter.all false
namespace Go.Proofs.YtlcfiilejnnlnaaGreatDoor
open Tryz
def wP:=@beq_self_eq_true
section
open Go
theorem ad6 {w:World} {O:Nat->Prop} {d:D} {ds:List D} {us:List Value} (h:RdL w O (d::ds) us):∃ u us',us=u::us'/\Rd w O d u/\RdL w O ds us':=by
 cases us with
 | nil=>have:=h.len;simp at this
 | cons u us'=>exact⟨u,us',rfl,h.at_ 0 _ _ rfl rfl,⟨by have:=h.len;simpa using this,fun j d u h1 h2=>h.at_ (j+1) d u (by simpa using h1) (by simpa using h2)⟩⟩
theorem av1 {w:World} {O:Nat->Prop} {us:List Value} (h:RdL w O [] us):us=[]:=by
 have:=h.len;exact List.eq_nil_of_length_eq_zero (by simpa using this)
end
end Go.Proofs.YtlcfiilejnnlnaaGreatDoor
namespace Go.Proofs
open Tryz YtlcfiilejnnlnaaGreatDoor
open Go.Shelf
def lays156_ren:Go.Shelf.Ren:=⟨fun | 156=>118 | 165=>162 | 166=>163 | 169=>164 | 240=>205 | 241=>206 | 276=>239 | 277=>240|n=>n,fun | 31=>48 | 9=>9 | 3=>3 | 4=>4 | 0=>0 | 20=>20 | 72=>266 | 76=>270 | 70=>264 | 37=>23 | 75=>269 | 127=>307 | 164=>323 | 5=>5 | 80=>272|n=>n,fun|n=>n⟩
theorem lays156:Go.Proofs.Lays.n156 prog lays156_ren:={
 mixed:=by kernel_rfl
 f156:=func118.trans (zM some (by kernel_rfl))
 f165:=func162.trans (zM some (by kernel_rfl))
 f166:=func163.trans (zM some (by kernel_rfl))
 f169:=func164.trans (zM some (by kernel_rfl))
 f240:=func205.trans (zM some (by kernel_rfl))
 f241:=func206.trans (zM some (by kernel_rfl))
 f276:=func239.trans (zM some (by kernel_rfl))
 f277:=func240.trans (zM some (by kernel_rfl))
 t0:=underlying0
 a0:=isAgg0
 z0:=sizeOf0
 v0:=zeroValue0
 t3:=underlying3
 a3:=isAgg3
 z3:=sizeOf3
 v3:=zeroValue3
 t4:=underlying4
 a4:=isAgg4
 z4:=sizeOf4
 v4:=zeroValue4
 t9:=underlying9
 a9:=isAgg9
 z9:=sizeOf9
 v9:=zeroValue9
 t20:=underlying20
 a20:=isAgg20
 z20:=sizeOf20
 v20:=zeroValue20
 t31:=underlying48
 a31:=isAgg48
 z31:=sizeOf48
 v31:=zeroValue48
 t37:=underlying23
 a37:=isAgg23
 z37:=sizeOf23
 v37:=zeroValue23
 t70:=underlying264
 a70:=isAgg264
 z70:=sizeOf264
 v70:=zeroValue264
 t72:=underlying266
 a72:=isAgg266
 z72:=sizeOf266
 v72:=zeroValue266
 t75:=underlying269
 a75:=isAgg269
 z75:=sizeOf269
 v75:=zeroValue269
 t76:=underlying270
 a76:=isAgg270
 z76:=sizeOf270
 v76:=zeroValue270
 t127:=underlying307
 a127:=isAgg307
 z127:=sizeOf307
 v127:=zeroValue307
 t164:=underlying323
 a164:=isAgg323
 z164:=sizeOf323
 v164:=zeroValue323 }
theorem Builder_Extra_156:Builder.Extra prog lays156_ren:={
 sizeBuilder:=by kernel_rfl
 liesBuilder:=by kernel_rfl
 t5:=underlying5
 a5:=isAgg5
 z5:=sizeOf5
 v5:=zeroValue5
 infoByte:=by kernel_rfl
 cellsByte:=by kernel_rfl
 sizeByte:=by kernel_rfl
 neB5:=by decide }
open Go.RowKit in
theorem strings_Join (bk o c:Nat) (xs:List ByteArray) (sep:ByteArray) (w:World) (hcells:∀ (j:Nat) x,xs[j]?=some x->w.cell? ⟨bk,o+j,none⟩=some (.string x)) (hbk:bk<w.heap.size) (hN:xs.length<=140737488355328) (hcap:xs.length<=c) (hlen:(Lib.join (xs.map (·.data.toList)) sep.data.toList).length<=140737488355328) :
  Calls prog 118 #[.slice (some ⟨bk,o,none⟩) xs.length c,.string sep] w fun e w'=>e = .returned (.string ⟨(Lib.join (xs.map (·.data.toList)) sep.data.toList).toArray⟩)/\Below w.heap.size w w':=Any.strings_Join lays156 Builder_Extra_156 bk o c xs sep w hcells hbk hN hcap hlen
end Go.Proofs
