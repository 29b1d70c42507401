/- A part of the proof: Rep Map Gb D Op Aop. -/
import Derived.WalkKit
import Derived.Lib.Hide
import Derived.Deep.Draws
import Derived.Maps.OwnSet
import Derived.Test.YtlcfiilejnnlnaaGreatDoorProg
import Derived.Lib.LaidTab
import Derived.Lib.ItoaLen
import Derived.Sort.LoopGhostIn
import Derived.OrdersIn
import Derived.TacticsInMore
import Derived.StillTail
import Derived.Laws.Cells
import Derived.Shelf.Abstract
import Derived.IntWalk
set_option maxRecDepth 100000
set_option maxHeartbeats 20000000
set_option linter.all false
namespace Go.Proofs.YtlcfiilejnnlnaaGreatDoor
open Tryz
/-- A proof, set aside. -/
structure Hd7 (B : Prop) : Prop where
  run : B
end Go.Proofs.YtlcfiilejnnlnaaGreatDoor
namespace Go.Proofs.YtlcfiilejnnlnaaGreatDoor
open Tryz
section
open Go.RowKit
structure Keep (S:Nat->Prop) (w w':World):Prop where
 os:w'.os=w.os
 tape:w'.tape=w.tape
 output:w'.output=w.output
 size:w.heap.size<=w'.heap.size
 block:∀ b,b<w.heap.size->¬ S b->w'.heap[b]?=w.heap[b]?
def zT:=@Nat.le_refl
theorem Keep.refl (S:Nat->Prop) (w:World):Keep S w w:=⟨rfl,rfl,rfl,zT _,fun _ _ _=>rfl⟩
def xH:=@Nat.le_trans
def yI:=@Nat.lt_of_lt_of_le
theorem Keep.trans {S:Nat->Prop} {a b c:World} (h:Keep S a b) (k:Keep S b c):Keep S a c:=
 ⟨k.os.trans h.os,k.tape.trans h.tape,k.output.trans h.output,xH h.size k.size,
  fun i hi hs=>(k.block i (yI hi h.size) hs).trans (h.block i hi hs)⟩
theorem Keep.mono {S S':Nat->Prop} {w w':World} (h:Keep S w w') (hs:∀ b,b<w.heap.size->S b->S' b):Keep S' w w':=
 ⟨h.os,h.tape,h.output,h.size,fun b hb hn=>h.block b hb (fun hS=>hn (hs b hb hS))⟩
theorem Keep.drew {S:Nat->Prop} {a w:World} (h:Keep S a w):Keep S a w.drew:=⟨h.os,h.tape,h.output,h.size,h.block⟩
theorem Keep.drewN {S:Nat->Prop} {a w:World} {n:Nat} (h:Keep S a w):Keep S a (w.drewN n):=⟨h.os,h.tape,h.output,h.size,h.block⟩
theorem Keep.alloc {S:Nat->Prop} {a w:World} (h:Keep S a w) (o:Obj):Keep S a (w.alloc o):=
 ⟨h.os,h.tape,h.output,by simp;have:=h.size;omega,fun b hb hn=>(Below.heap_alloc w o b (yI hb h.size)).trans (h.block b hb hn)⟩
theorem Keep.setCell {S:Nat->Prop} {a w:World} (h:Keep S a w) {p:Addr} (hp:a.heap.size<=p.block\/S p.block) (v:Value):Keep S a (w.setCell p v):=
 ⟨h.os,h.tape,h.output,by simp;exact h.size,fun b hb hn=>(Below.heap_setCell w p v b (by
  intro e;subst e;rcases hp with hp|hp
  ·omega
  ·exact hn hp)).trans (h.block b hb hn)⟩
theorem Keep.grown {S:Nat->Prop} {a w w':World} {row:Option Nat} (h:Keep S a w) (hg:w.grownBy w' row) (hr:∀ k,row=some k->a.heap.size<=k\/S k):Keep S a w':=
 ⟨hg.os.trans h.os,hg.tape.trans h.tape,hg.output.trans h.output,xH h.size hg.size,fun b hb hn=>
  (hg.block b (yI hb h.size) (fun e=>by
   rcases hr b e.symm with h' | h'
   ·omega
   ·exact hn h')).trans (h.block b hb hn)⟩
theorem Keep.cell {S:Nat->Prop} {w w':World} (h:Keep S w w') {p:Addr} {v:Value} (hc:w.cell? p=some v) (hp:¬ S p.block):w'.cell? p=some v:=
 (World.cell?_of_block (w:=w) (h.block p.block (World.block_lt_of_cell? w p hc) hp)).trans hc
def Ex (w w':World):Prop:=Keep (fun _=>False) w w'
theorem Ex.refl (w:World):Ex w w:=Keep.refl _ _
theorem Ex.trans {a b c:World} (h:Ex a b) (k:Ex b c):Ex a c:=Keep.trans h k
theorem Ex.drew {a w:World} (h:Ex a w):Ex a w.drew:=Keep.drew h
theorem Ex.drewN {a w:World} {n:Nat} (h:Ex a w):Ex a (w.drewN n):=Keep.drewN h
theorem Ex.alloc {a w:World} {o:Obj} (h:Ex a w):Ex a (w.alloc o):=Keep.alloc h o
theorem Ex.setCell {a w:World} (h:Ex a w) {p:Addr} (hp:a.heap.size<=p.block) (v:Value):Ex a (w.setCell p v):=Keep.setCell h (Or.inl hp) v
theorem Ex.grown {a w w':World} {row:Option Nat} (h:Ex a w) (hg:w.grownBy w' row) (hr:∀ k,row=some k->a.heap.size<=k):Ex a w':=Keep.grown h hg (fun k e=>Or.inl (hr k e))
theorem Ex.size {w w':World} (h:Ex w w'):w.heap.size<=w'.heap.size:=Keep.size h
theorem Ex.cell {w w':World} (h:Ex w w') {p:Addr} {v:Value} (hc:w.cell? p=some v):w'.cell? p=some v:=Keep.cell h hc (fun x=>x)
theorem Ex.block {w w':World} (h:Ex w w') (b:Nat) (hb:b<w.heap.size):w'.heap[b]?=w.heap[b]?:=Keep.block h b hb (fun x=>x)
theorem Ex.below {w w':World} (h:Ex w w'):Below w.heap.size w w':=⟨Keep.os h,Keep.tape h,Keep.output h,Keep.size h,fun k hk=>Ex.block h k hk⟩
theorem pA0 {w w':World} (h:Below w.heap.size w w'):Ex w w':=⟨h.os,h.tape,h.output,h.size,fun k hk _=>h.block k hk⟩
theorem Ex.frozen {w w':World} (h:Ex w w') {p:Addr} (hp:p.block<w.heap.size):w'.frozen? p=w.frozen? p:=World.frozen?_of_block (w:=w) (Ex.block h p.block hp)
theorem Ex.keep {S:Nat->Prop} {w w':World} (h:Ex w w'):Keep S w w':=Keep.mono h (fun _ _ h=>h.elim)
theorem Ex.rules {w w':World} (h:Ex w w'):(∀ b o,b<w.heap.size->w'.cell? ⟨b,o,none⟩=w.cell? ⟨b,o,none⟩)/\(∀ b o,b<w.heap.size->w'.frozen? ⟨b,o,none⟩=w.frozen? ⟨b,o,none⟩):=
 ⟨fun b o hb=>World.cell?_of_block (w:=w) (a:=⟨b,o,none⟩) (Ex.block h b hb),fun b o hb=>World.frozen?_of_block (w:=w) (a:=⟨b,o,none⟩) (Ex.block h b hb)⟩
def I64 (n:Int):Prop:=-9223372036854775808<=n/\n<=9223372036854775807
structure Row {α:Type} (k:Nat) (R:α->List Value->Prop) (w:World) (F:Nat->Prop) (xs:List α) (a:Option Addr) (cap:Nat):Prop where
 le:xs.length<=cap
 at_:∀ i x,xs[i]?=some x->∃ b off,a=some ⟨b,off,none⟩/\F b/\∃ vs:List Value,vs.length=k/\R x vs/\∀ j v,vs[j]?=some v->w.cell? ⟨b,off+i*k+j,none⟩=some v
def Same (F:Nat->Prop) (w w':World):Prop:=∀ b,F b->b<w.heap.size->w'.heap[b]?=w.heap[b]?
theorem Ex.same {F:Nat->Prop} {w w':World} (h:Ex w w'):Same F w w':=fun b _ hb=>Ex.block h b hb
theorem Keep.same {F S:Nat->Prop} {w w':World} (h:Keep S w w') (hd:∀ b,F b->¬ S b):Same F w w':=fun b hf hb=>h.block b hb (hd b hf)
theorem Same.cell {F:Nat->Prop} {w w':World} (h:Same F w w') {p:Addr} {v:Value} (hc:w.cell? p=some v) (hp:F p.block):w'.cell? p=some v:=
 (World.cell?_of_block (w:=w) (h p.block hp (World.block_lt_of_cell? w p hc))).trans hc
def zG:=@List.mem_of_getElem?
theorem Row.keep {α:Type} {k:Nat} {R R':α->List Value->Prop} {w w':World} {F F':Nat->Prop} {xs:List α} {a:Option Addr} {cap:Nat}
  (h:Row k R w F xs a cap) (hs:Same F w w') (hF:∀ b,F b->F' b) (hR:∀ x vs,x∈xs->R x vs->R' x vs):Row k R' w' F' xs a cap:=
 ⟨h.le,fun i x hx=>by
  obtain⟨b,off,ha,hb,vs,hl,hr,hc⟩:=h.at_ i x hx;exact⟨b,off,ha,hF b hb,vs,hl,hR x vs (zG hx) hr,fun j v hv=>hs.cell (hc j v hv) hb⟩⟩
def zW:=@Nat.zero_le
theorem Row.nil {α:Type} {k:Nat} {R:α->List Value->Prop} {w:World} {F:Nat->Prop} {a:Option Addr} {cap:Nat}:Row k R w F ([]:List α) a cap:=
 ⟨zW _,fun i x hx=>by simp at hx⟩
def RInt (x:Int) (vs:List Value):Prop:=vs=[.int .i64 x]/\I64 x
def RStr (s:ByteArray) (vs:List Value):Prop:=vs=[.string s]
def bh9 (x:UInt8) (vs:List Value):Prop:=vs=[.int .u8 x.toNat]
def RTwo (x:Int × Int) (vs:List Value):Prop:=vs=[.int .i64 x.1,.int .i64 x.2]/\I64 x.1/\I64 x.2
abbrev RInts (w:World) (F:Nat->Prop):=Row 1 RInt w F
abbrev ay5 (w:World) (F:Nat->Prop):=Row 1 RStr w F
abbrev cu9 (w:World) (F:Nat->Prop):=Row 2 RTwo w F
structure Fld where
 name:ByteArray
 of:ByteArray
 up:ByteArray
 kind:Int
 lo:Int
 hi:Int
 words:List ByteArray
 wz:List Int
structure Knd where
 name:ByteArray
 lo:Int
 hi:Int
 fields:List Fld
structure Lif where
 name:ByteArray
 tz:List ByteArray
 mz:List (Int × Int)
structure Rul where
 name:ByteArray
 kind:ByteArray
 a:ByteArray
 b:ByteArray
 n:Int
structure Sch where
 vz:Int
 kz:List Knd
 lz:List Lif
 rules:List Rul
def RFld (w:World) (F:Nat->Prop) (x:Fld) (vs:List Value):Prop:=
 ∃ wa wc ga gc,vs=[.string x.name,.string x.of,.string x.up,.int .i64 x.kind,.int .i64 x.lo,.int .i64 x.hi,.slice wa x.words.length wc,.slice ga x.wz.length gc] /\
  I64 x.kind/\I64 x.lo/\I64 x.hi/\ay5 w F x.words wa wc/\RInts w F x.wz ga gc
abbrev RFlds (w:World) (F:Nat->Prop):=Row 8 (RFld w F) w F
def RKnd (w:World) (F:Nat->Prop) (x:Knd) (vs:List Value):Prop:=
 ∃ fa fc,vs=[.string x.name,.int .i64 x.lo,.int .i64 x.hi,.slice fa x.fields.length fc]/\I64 x.lo/\I64 x.hi/\RFlds w F x.fields fa fc
abbrev RKnds (w:World) (F:Nat->Prop):=Row 4 (RKnd w F) w F
def RLif (w:World) (F:Nat->Prop) (x:Lif) (vs:List Value):Prop:=
 ∃ sa sc ma mc,vs=[.string x.name,.slice sa x.tz.length sc,.slice ma x.mz.length mc]/\ay5 w F x.tz sa sc/\cu9 w F x.mz ma mc
abbrev RLifs (w:World) (F:Nat->Prop):=Row 3 (RLif w F) w F
def RRul (x:Rul) (vs:List Value):Prop:=vs=[.string x.name,.string x.kind,.string x.a,.string x.b,.int .i64 x.n]/\I64 x.n
abbrev RRuls (w:World) (F:Nat->Prop):=Row 5 RRul w F
def RSch (w:World) (F:Nat->Prop) (x:Sch) (v:Value):Prop:=
 ∃ ka kc la lc ra rc,v = .agg #[.int .i64 x.vz,.slice ka x.kz.length kc,.slice la x.lz.length lc,.slice ra x.rules.length rc]/\I64 x.vz /\
  RKnds w F x.kz ka kc/\RLifs w F x.lz la lc/\RRuls w F x.rules ra rc
section
variable {w w':World} {F F':Nat->Prop} (hs:Same F w w') (hF:∀ b,F b->F' b)
include hs hF
theorem RFld.keep {x:Fld} {vs:List Value} (h:RFld w F x vs):RFld w' F' x vs:=by
 obtain⟨wa,wc,ga,gc,h0,h1,h2,h3,h4,h5⟩:=h;exact⟨wa,wc,ga,gc,h0,h1,h2,h3,h4.keep hs hF (fun _ _ _ h=>h),h5.keep hs hF (fun _ _ _ h=>h)⟩
theorem RFlds.keep {xs:List Fld} {a:Option Addr} {c:Nat} (h:RFlds w F xs a c):RFlds w' F' xs a c:=Row.keep h hs hF (fun _ _ _ h=>h.keep hs hF)
theorem RKnd.keep {x:Knd} {vs:List Value} (h:RKnd w F x vs):RKnd w' F' x vs:=by
 obtain⟨fa,fc,h0,h1,h2,h3⟩:=h;exact⟨fa,fc,h0,h1,h2,h3.keep hs hF⟩
theorem RKnds.keep {xs:List Knd} {a:Option Addr} {c:Nat} (h:RKnds w F xs a c):RKnds w' F' xs a c:=Row.keep h hs hF (fun _ _ _ h=>h.keep hs hF)
theorem RLif.keep {x:Lif} {vs:List Value} (h:RLif w F x vs):RLif w' F' x vs:=by
 obtain⟨sa,sc,ma,mc,h0,h1,h2⟩:=h;exact⟨sa,sc,ma,mc,h0,h1.keep hs hF (fun _ _ _ h=>h),h2.keep hs hF (fun _ _ _ h=>h)⟩
theorem RLifs.keep {xs:List Lif} {a:Option Addr} {c:Nat} (h:RLifs w F xs a c):RLifs w' F' xs a c:=Row.keep h hs hF (fun _ _ _ h=>h.keep hs hF)
theorem RRuls.keep {xs:List Rul} {a:Option Addr} {c:Nat} (h:RRuls w F xs a c):RRuls w' F' xs a c:=Row.keep h hs hF (fun _ _ _ h=>h)
theorem RSch.keep {x:Sch} {v:Value} (h:RSch w F x v):RSch w' F' x v:=by
 obtain⟨ka,kc,la,lc,ra,rc,h0,h1,h2,h3,h4⟩:=h;exact⟨ka,kc,la,lc,ra,rc,h0,h1,h2.keep hs hF,h3.keep hs hF,h4.keep hs hF⟩
end
def idx {α:Type} (p:α->Bool) (xs:List α):Int:=match xs.findIdx? p with|some i=>i|none=>-1
def zE:=@List.getElem?_eq_some_iff
def wB:=@List.findIdx?_eq_some_iff_getElem
def zD:=@List.getElem?_eq_getElem
theorem ad3 {α:Type} {p:α->Bool} {xs:List α} {k:Nat} {x:α} (hk:xs[k]?=some x) (hx:p x=true) (hno:∀ i y,i<k->xs[i]?=some y->p y=false):idx p xs=k:=by
 have hlt:k<xs.length:=(zE.1 hk).1;have:xs.findIdx? p=some k:=by
  rw [wB];refine⟨hlt,?_,?_⟩
  ·rw [zD hlt] at hk;simp at hk;rw [hk];exact hx
  ·intro j hj;simp [hno j _ hj (zD (by omega))]
 simp [idx,this]
def yO:=@List.getElem?_of_mem
theorem ai8 {α:Type} {p:α->Bool} {xs:List α} (hno:∀ (i:Nat) y,xs[i]?=some y->p y=false):idx p xs = -1:=by
 have:xs.findIdx? p=none:=by
  rw [List.findIdx?_eq_none_iff];intro x hx;obtain⟨i,hi⟩:=yO hx;exact hno i x hi
 simp [idx,this]
theorem ay3 {α:Type} (p:α->Bool) (xs:List α):idx p xs<xs.length:=by
 unfold idx;split
 ·rename_i i h;have:=wB.1 h;obtain⟨h1,_⟩:=this;omega
 ·omega
def wC:=@List.any_eq_true
def wE:=@List.getElem_mem
theorem al6 {α:Type} (p:α->Bool) (xs:List α):decide (0<=idx p xs)=xs.any p:=by
 unfold idx;split
 ·rename_i i h;obtain⟨h1,h2,_⟩:=wB.1 h;have:xs.any p=true:=wC.2 ⟨xs[i],wE h1,h2⟩;simp [this]
 ·rename_i h;rw [List.findIdx?_eq_none_iff] at h;have:xs.any p=false:=by rw [List.any_eq_false];intro x hx;simp [h x hx]
  simp [this]
theorem cl0 {p:Prop} (h:p:=by repeat (first|exact Ex.refl _|assumption|apply Ex.alloc|apply Ex.drew|apply Ex.drewN|(refine Ex.trans ?_ (by assumption)))):p:=h
theorem ru7 {a b:World} (h:Ex a b:=by first|exact Ex.trans hb (show Ex _ w1 from cl0)|exact hb1):Ex a b/\(∀ d o,d<a.heap.size->b.cell? ⟨d,o,none⟩=a.cell? ⟨d,o,none⟩)/\(∀ d o,d<a.heap.size->b.frozen? ⟨d,o,none⟩=a.frozen? ⟨d,o,none⟩)/\a.heap.size<=b.heap.size:=⟨h,h.rules.1,h.rules.2,h.size⟩
theorem zsz7:(∀ (w:World) (o:Obj),(w.alloc o).heap.size=w.heap.size+1)/\(∀ (w:World),w.drew.heap.size=w.heap.size)/\(∀ (w:World) (p:Addr) (v:Value),(w.setCell p v).heap.size=w.heap.size)/\(∀ (w:World) (n:Nat),(w.drewN n).heap=w.heap):=⟨fun _ _=>World.size_alloc ..,fun _=>World.size_drew ..,fun _ _ _=>World.size_setCell ..,fun _ _=>World.heap_drewN ..⟩
theorem z07 (w w1:World) (h:w.heap.size<w1.heap.size:=by omega):w.heap.size<w1.heap.size:=h
theorem z17 (w w1:World) (h:w.heap.size+1<w1.heap.size:=by omega):w.heap.size+1<w1.heap.size:=h
theorem z27 (w w1:World) (h:w.heap.size+1+1<w1.heap.size:=by omega):w.heap.size+1+1<w1.heap.size:=h
end
section
open Go Go.Maps Go.MapKept
open Go.ChangeMaps (setBlock modify_eq_set heap_setBlock_same heap_setBlock_other)
structure Ents (P:Program) (k:TypeId) (es:Array MapEntry) (clock n:Nat) (f:Value->Option Value):Prop where
 size:es.size<=n
 stamped:Stamped es clock
 keys:∀ e∈es.toList,∃ l,keyOf P k e.key=some l
 mem:∀ e∈es.toList,f e.key=some e.val
 only:∀ key v,f key=some v->∃ e∈es.toList,e.key=key/\e.val=v
def MapIs (P:Program) (k:TypeId) (w:World) (b n:Nat) (f:Value->Option Value):Prop:=∃ es clock,w.heap[b]?=some (.map es clock)/\Ents P k es clock n f
def MapAt (P:Program) (k:TypeId) (w:World) (b n:Nat) (f:Value->Option Value) (key stamp:Value):Prop:=
 ∃ es clock,w.heap[b]?=some (.map es clock)/\Ents P k es clock n f/\∃ e∈es.toList,e.key=key/\stamp=goInt e.born
noncomputable def updF (f:Value->Option Value) (key v:Value):Value->Option Value:=open Classical in fun x=>if x=key then some v else f x
theorem MapAt.is {P:Program} {k:TypeId} {w:World} {b n:Nat} {f:Value->Option Value} {key stamp:Value} (h:MapAt P k w b n f key stamp):MapIs P k w b n f:=by
 obtain⟨es,c,h1,h2,_⟩:=h;exact⟨es,c,h1,h2⟩
theorem MapIs.made (P:Program) (k:TypeId) (w:World) (n:Nat):MapIs P k (w.alloc (.map #[] 0)) w.heap.size n (fun _=>none):=
 ⟨#[],0,(MapKept.heap_alloc w _).1,⟨by simp,stamped_empty 0,by simp,by simp,by simp⟩⟩
def zX:=@Array.getElem?_eq_some_iff
theorem MapIs.lt {P:Program} {k:TypeId} {w:World} {b n:Nat} {f:Value->Option Value} (h:MapIs P k w b n f):b<w.heap.size:=by
 obtain⟨es,clock,hb,_⟩:=h;exact (zX.1 hb).1
theorem MapIs.same {P:Program} {k:TypeId} {w w':World} {b n:Nat} {f:Value->Option Value} (h:MapIs P k w b n f) (hs:w'.heap[b]?=w.heap[b]?):MapIs P k w' b n f:=by
 obtain⟨es,clock,hb,h⟩:=h;exact⟨es,clock,hs.trans hb,h⟩
theorem MapIs.mono {P:Program} {k:TypeId} {w:World} {b n m:Nat} {f:Value->Option Value} (h:MapIs P k w b n f) (hn:n<=m):MapIs P k w b m f:=by
 obtain⟨es,clock,hb,h⟩:=h;exact⟨es,clock,hb,⟨xH h.size hn,h.stamped,h.keys,h.mem,h.only⟩⟩
section
variable {P:Program} {k t e:TypeId} {w:World} {b n:Nat} {f:Value->Option Value} {es:Array MapEntry} {clock:Nat}
theorem Ents.look (E:Ents P k es clock n f) (K:Keyed P k) {key:Value} {kl:Lit} (hkey:keyOf P k key=some kl) (w:World) :
  ((Instr.findKey k key es.toList).run P w = .ok none w/\f key=none/\∀ x∈es.toList,x.key≠key)\/∃ j e0,(Instr.findKey k key es.toList).run P w = .ok (some (j,e0.val)) w/\es.toList[j]?=some e0/\e0.key=key/\f key=some e0.val:=by
 rcases K.find w hkey es.toList E.keys with ⟨h1,h2⟩|⟨j,e0,h1,h2,h3⟩
 ·refine Or.inl ⟨h1,?_,h2⟩
  cases hf:f key with
  | none=>rfl
  | some v=>obtain⟨e0,he,hk,_⟩:=E.only key v hf;exact absurd hk (h2 e0 he)
 ·exact Or.inr ⟨j,e0,h1,h2,h3,by rw [← h3];exact E.mem e0 (zG h2)⟩
theorem MapIs.look (h:MapIs P k w b n f) (K:Keyed P k) (ht:P.underlying t=some (.map k e)) {z:Value} (hz:(zeroValue e).run P w = .ok z w) {key:Value} {kl:Lit} (hkey:keyOf P k key=some kl) :
  (Instr.lookup t (.map (some b)) key false).run P w = .ok ((f key).getD z) w:=by
 obtain⟨es,clock,hb,E⟩:=h;rcases E.look K hkey w with ⟨h1,h2,_⟩|⟨j,e0,h1,_,_,h4⟩
 ·simp [Instr.lookup,run_underlying ht,MapKept.run_getObj_map hb,K.check w _ hkey,h1,hz,h2,Result.andThen]
 ·simp [Instr.lookup,run_underlying ht,MapKept.run_getObj_map hb,K.check w _ hkey,h1,h4,Result.andThen]
theorem MapIs.look_ok (h:MapIs P k w b n f) (K:Keyed P k) (ht:P.underlying t=some (.map k e)) {z:Value} (hz:(zeroValue e).run P w = .ok z w) {key:Value} {kl:Lit} (hkey:keyOf P k key=some kl) :
  (Instr.lookup t (.map (some b)) key true).run P w = .ok (.tuple #[(f key).getD z,.bool (f key).isSome]) w:=by
 obtain⟨es,clock,hb,E⟩:=h;rcases E.look K hkey w with ⟨h1,h2,_⟩|⟨j,e0,h1,_,_,h4⟩
 ·simp [Instr.lookup,run_underlying ht,MapKept.run_getObj_map hb,K.check w _ hkey,h1,hz,h2,Result.andThen]
 ·simp [Instr.lookup,run_underlying ht,MapKept.run_getObj_map hb,K.check w _ hkey,h1,h4,Result.andThen]
theorem Keep.setBlock {o:Obj} {es:Array MapEntry} {clock:Nat} (hb:w.heap[b]?=some (.map es clock)):Keep (fun x=>x=b) w (setBlock w b o):=
 ⟨rfl,rfl,rfl,by simp [ChangeMaps.setBlock],fun i _ hi=>heap_setBlock_other hb _ (fun e=>hi e)⟩
def wS:=@List.pairwise_iff_getElem
theorem by2 (hs:Stamped es clock) {i j:Nat} {x y:MapEntry} (hi:es.toList[i]?=some x) (hj:es.toList[j]?=some y) (hne:i≠j):x.key≠y.key:=by
 have hp:=((stamped_iff es clock).1 hs).2.2;obtain⟨hi1,rfl⟩:=zE.1 hi;obtain⟨hj1,rfl⟩:=zE.1 hj;rcases Nat.lt_or_gt_of_ne hne with h|h
 ·exact wS.1 hp i j hi1 hj1 h
 ·exact (wS.1 hp j i hj1 hi1 h).symm
def zO:=@List.mem_append
def zN:=@List.mem_singleton
theorem Ents.push (E:Ents P k es clock n f) {key v:Value} {kl:Lit} (hkey:keyOf P k key=some kl) (h2:∀ x∈es.toList,x.key≠key):Ents P k (es.push ⟨key,v,clock⟩) (clock+1) (n+1) (updF f key v):=by
 refine⟨by simp;exact E.size,stamped_push E.stamped h2,?_,?_,?_⟩
 ·intro x hx;simp only [Array.toList_push,zO,zN] at hx;rcases hx with hx|rfl
  ·exact E.keys x hx
  ·exact⟨kl,hkey⟩
 ·intro x hx;simp only [Array.toList_push,zO,zN] at hx;rcases hx with hx|rfl
  ·simp only [updF,if_neg (h2 x hx)];exact E.mem x hx
  ·simp [updF]
 ·intro y u hy;simp only [updF] at hy;split at hy
  ·rename_i e1;cases hy;exact⟨⟨key,v,clock⟩,by simp,e1.symm,rfl⟩
  ·obtain⟨x,hx,h3⟩:=E.only y u hy;exact⟨x,by simp [hx],h3⟩
def yR:=@List.length_set
theorem Ents.modify (E:Ents P k es clock n f) {key v:Value} {kl:Lit} (hkey:keyOf P k key=some kl) {j:Nat} {e0:MapEntry} (h2:es.toList[j]?=some e0) (h3:e0.key=key) (g:MapEntry->MapEntry) (hg:∀ x,(g x).born=x.born) (hgk:(g e0).key=key) (hgv:(g e0).val=v) :
  Ents P k (es.modify j g) clock n (updF f key v):=by
 have hj:es[j]?=some e0:=by simpa using h2
 have hlist:(es.modify j g).toList=es.toList.set j (g e0):=by rw [Array.toList_modify,modify_eq_set _ _ _ _ h2]
 have hjl:j<es.toList.length:=(zE.1 h2).1;have who:∀ x∈es.toList.set j (g e0),x=g e0\/(x∈es.toList/\x.key≠key):=by
  intro x hx;obtain⟨i,hi,ex⟩:=List.getElem_of_mem hx;rw [List.getElem_set] at ex;split at ex
  ·exact Or.inl ex.symm
  ·rename_i hne;have hi':i<es.toList.length:=by simpa using hi
   refine Or.inr ⟨ex ▸ wE hi',?_⟩;rw [← h3];exact by2 E.stamped (by rw [zD hi',ex]) h2 (fun e1=>hne e1.symm)
 refine⟨by simpa using E.size,stamped_modify E.stamped _ _ (fun x _=>hg x) (fun e' _ he'=>by rw [hj] at he';cases he';rw [hgk,h3]),?_,?_,?_⟩
 ·intro x hx;rw [hlist] at hx;rcases who x hx with rfl|⟨h,_⟩
  ·exact⟨kl,by rw [hgk];exact hkey⟩
  ·exact E.keys x h
 ·intro x hx;rw [hlist] at hx;rcases who x hx with rfl|⟨h,hne⟩
  ·simp [updF,hgk,hgv]
  ·simp only [updF,if_neg hne];exact E.mem x h
 ·intro y u hy;simp only [updF] at hy;split at hy
  ·rename_i e1;cases hy
   refine⟨g e0,?_,by rw [hgk,e1],hgv⟩;rw [hlist];exact List.mem_set hjl _
  ·rename_i hne;obtain⟨x,hx,h4,h5⟩:=E.only y u hy;refine⟨x,?_,h4,h5⟩;rw [hlist];obtain⟨i,hi,ex⟩:=List.getElem_of_mem hx;have hij:j≠i:=by
    rintro rfl;have:=(zE.1 h2).2;rw [ex] at this;subst this;exact hne (h4.symm.trans h3)
   have:=List.getElem_set_ne hij (a:=g e0) (by rw [yR];exact hi);rw [ex] at this;rw [← this];exact wE _
theorem pA1 (h:MapIs P k w b n f) (K:Keyed P k) (ht:P.underlying t=some (.map k e)) {key v:Value} {kl:Lit} (hkey:keyOf P k key=some kl) :
  ∃ w',(Instr.mapUpdate t (.map (some b)) key v).run P w = .ok () w'/\MapIs P k w' b (n+1) (updF f key v)/\Keep (fun x=>x=b) w w':=by
 obtain⟨es,clock,hb,E⟩:=h;rcases E.look K hkey w with ⟨h1,_,h2⟩|⟨j,e0,h1,h2,h3,_⟩
 ·exact⟨_,by simp [Instr.mapUpdate,run_underlying ht,MapKept.run_getObj_map hb,K.check w false hkey,h1,MapKept.run_setObj_map _ hb,Result.andThen];rfl,⟨_,_,heap_setBlock_same hb _,E.push hkey h2⟩,Keep.setBlock hb⟩
 ·have hj:es[j]?=some e0:=by simpa using h2
  have E':=E.modify hkey h2 h3 (fun e'=>{ e' with key:=key,val:=v }) (fun _=>rfl) rfl rfl;exact⟨_,by simp [Instr.mapUpdate,run_underlying ht,MapKept.run_getObj_map hb,K.check w false hkey,h1,hj,h3,K.stays w hkey,MapKept.run_setObj_map _ hb,Result.andThen];rfl,⟨_,_,heap_setBlock_same hb _,⟨Nat.le_succ_of_le E'.size,E'.stamped,E'.keys,E'.mem,E'.only⟩⟩,Keep.setBlock hb⟩
end
end
section
open Go Go.Maps Go.MapKept
def Pow10 (w:World):Prop:=Lib.TabIs prog w "internal/strconv.uint64pow10" .u64 Lib.pow10Tab
def WordsAt (w:World):Prop:=∀ i s,[(⟨#[107,101,121]⟩:ByteArray),⟨#[114,101,102]⟩,⟨#[110,117,109]⟩,⟨#[112,105,99,107]⟩,⟨#[100,97,121]⟩,⟨#[115,116,101,112]⟩,⟨#[115,117,109]⟩,⟨#[115,104,97,114,101]⟩,⟨#[99,111,112,121]⟩][i]?=some s->w.cell? ⟨3,i,none⟩=some (.string s)
def chkV (f:FuncId):Value:=.func (.func f) #[] #[]
def chkM:Value->Option Value
 | .int .i64 0=>some (chkV 297)
 | .int .i64 1=>some (chkV 298)
 | .int .i64 4=>some (chkV 299)
 | .int .i64 5=>some (chkV 300)
 | .int .i64 6=>some (chkV 302)
 | .int .i64 7=>some (chkV 303)
 | .int .i64 8=>some (chkV 305)
 | _=>none
def aggF (f:Value->Option Value) (v:Value):Option Value:=(f v).map fun x=>.agg #[x]
def bU0 (w:World) (O:Nat->Prop):Prop:=∃ r,w.cell? ⟨0,0,none⟩=some (.map (some r))/\¬ O r/\MapIs prog 3 w r 7 (aggF chkM)
structure GOK (w:World) (O:Nat->Prop):Prop where
 lt:∀ b,O b->b<w.heap.size
 sz:8<=w.heap.size
 no:∀ b,b<8->¬ O b
 pow:Pow10 w
 words:WordsAt w
 checks:bU0 w O
theorem bn1 {w w':World} (hs:∀ b,b<8->w'.heap[b]?=w.heap[b]?) (h:Pow10 w):Pow10 w':=by
 unfold Pow10 Lib.TabIs World.var? at *;rw [show (prog.globalNamed "internal/strconv.uint64pow10")=some 5 by kernel_rfl] at *
 simp only [Option.bind_some] at *;rw [hs _ (by decide)];exact h
theorem GOK.keep {w w':World} {O O':Nat->Prop} (h:GOK w O) (hz:w.heap.size<=w'.heap.size) (hO:∀ b,b<w.heap.size->¬ O b->¬ O' b)
  (hs:∀ b,b<w.heap.size->¬ O b->w'.heap[b]?=w.heap[b]?) (hl:∀ b,O' b->b<w'.heap.size):GOK w' O':=by
 have h5:∀ b,b<8->w'.heap[b]?=w.heap[b]?:=fun b hb=>hs b (yI hb h.sz) (h.no b hb);refine⟨hl,xH h.sz hz,fun b hb=>hO b (yI hb h.sz) (h.no b hb),bn1 h5 h.pow,fun i s hi=>?_,?_⟩
 ·exact (World.cell?_of_block (w:=w) (a:=⟨3,i,none⟩) (h5 3 (by decide))).trans (h.words i s hi)
 ·obtain⟨r,h1,h2,h3⟩:=h.checks;exact⟨r,(World.cell?_of_block (w:=w) (a:=⟨0,0,none⟩) (h5 0 (by decide))).trans h1,hO r h3.lt h2,h3.same (hs r h3.lt h2)⟩
theorem GOK.ex {w w':World} {O:Nat->Prop} (h:GOK w O) (he:Ex w w'):GOK w' O:=
 h.keep he.size (fun _ _ h=>h) (fun b hb _=>he.block b hb) (fun b hb=>yI (h.lt b hb) he.size)
theorem GOK.mono {w:World} {O O':Nat->Prop} (h:GOK w O) (hO:∀ b,O' b->O b):GOK w O':=
 h.keep (zT _) (fun b _ hn ho=>hn (hO b ho)) (fun _ _ _=>rfl) (fun b hb=>h.lt b (hO b hb))
end
section
open Go Go.RowKit
inductive D where
 | v (x:Value)
 | any
 | sl (k:Nat) (xs:List (List D))
 | ro (cs:List D)
 | agg (cs:List D)
 | tup (ds:List D)
 | clo (f:FuncId) (cs:List D)
 | gl (g:Nat)
 | ifc (t:TypeId) (d:D)
inductive Rd (w:World) (O:Nat->Prop):D->Value->Prop
 | v (x:Value):Rd w O (.v x) x
 | any (x:Value):Rd w O .any x
 | sl (k:Nat) (xs:List (List D)) (a:Option Addr) (cap:Nat) (vs:Nat->Nat->Value) (hcap:xs.length<=cap) (hk:∀ x∈xs,x.length=k)
   (hc:∀ (i:Nat) x,xs[i]?=some x->∃ b off,a=some ⟨b,off,none⟩/\¬ O b/\b<w.heap.size/\∀ j,j<k->w.cell? ⟨b,off+i*k+j,none⟩=some (vs i j))
   (hr:∀ (i:Nat) x,xs[i]?=some x->∀ (j:Nat) d,x[j]?=some d->Rd w O d (vs i j)):Rd w O (.sl k xs) (.slice a xs.length cap)
 | ro (cs:List D) (b off:Nat) (vs:Nat->Value) (hO:¬ O b) (hb:b<w.heap.size)
   (hc:∀ j,j<cs.length->w.cell? ⟨b,off+j,none⟩=some (vs j))
   (hr:∀ (j:Nat) d,cs[j]?=some d->Rd w O d (vs j)):Rd w O (.ro cs) (.pointer (some ⟨b,off,none⟩))
 | agg (cs:List D) (vs:List Value) (hl:vs.length=cs.length) (hr:∀ (j:Nat) d u,cs[j]?=some d->vs[j]?=some u->Rd w O d u):Rd w O (.agg cs) (.agg vs.toArray)
 | tup (cs:List D) (vs:List Value) (hl:vs.length=cs.length) (hr:∀ (j:Nat) d u,cs[j]?=some d->vs[j]?=some u->Rd w O d u):Rd w O (.tup cs) (.tuple vs.toArray)
 | clo (f:FuncId) (cs:List D) (vs:List Value) (hl:vs.length=cs.length) (hr:∀ (j:Nat) d u,cs[j]?=some d->vs[j]?=some u->Rd w O d u):Rd w O (.clo f cs) (.func (.func f) #[] vs.toArray)
 | gl (g:Nat) (q:Option Nat) (hO:¬ O g) (hb:g<w.heap.size) (hc:w.cell? ⟨g,0,none⟩=some (.map q)):Rd w O (.gl g) (.map q)
 | ifc (t:TypeId) (d:D) (x:Value) (h:Rd w O d x):Rd w O (.ifc t d) (.iface t x)
structure RdL (w:World) (O:Nat->Prop) (cs:List D) (vs:List Value):Prop where
 len:vs.length=cs.length
 at_:∀ (j:Nat) d u,cs[j]?=some d->vs[j]?=some u->Rd w O d u
theorem Rd.keep {w w':World} {O O':Nat->Prop} (hz:w.heap.size<=w'.heap.size) (hO:∀ b,b<w.heap.size->¬ O b->¬ O' b)
  (hs:∀ b,b<w.heap.size->¬ O b->w'.heap[b]?=w.heap[b]?) {d:D} {x:Value} (h:Rd w O d x):Rd w' O' d x:=by
 induction h with
 | v x=>exact .v x
 | any x=>exact .any x
 | sl k xs a cap vs hcap hk hc hr ih=>
  refine .sl k xs a cap vs hcap hk (fun i x hx=>?_) ih;obtain⟨b,off,ha,hb,hlt,hcell⟩:=hc i x hx;exact⟨b,off,ha,hO b hlt hb,yI hlt hz,fun j hj=>(World.cell?_of_block (w:=w) (hs b hlt hb)).trans (hcell j hj)⟩
 | ro cs b off vs hb hlt hc hr ih=>
  exact .ro cs b off vs (hO b hlt hb) (yI hlt hz) (fun j hj=>(World.cell?_of_block (w:=w) (hs b hlt hb)).trans (hc j hj)) ih
 | agg cs vs hl hr ih=>exact .agg cs vs hl ih
 | tup cs vs hl hr ih=>exact .tup cs vs hl ih
 | clo f cs vs hl hr ih=>exact .clo f cs vs hl ih
 | gl g q h1 hb hc=>exact .gl g q (hO g hb h1) (yI hb hz) ((World.cell?_of_block (w:=w) (a:=⟨g,0,none⟩) (hs g hb h1)).trans hc)
 | ifc t d x h ih=>exact .ifc t d x ih
theorem RdL.keep {w w':World} {O O':Nat->Prop} (hz:w.heap.size<=w'.heap.size) (hO:∀ b,b<w.heap.size->¬ O b->¬ O' b)
  (hs:∀ b,b<w.heap.size->¬ O b->w'.heap[b]?=w.heap[b]?) {ds:List D} {xs:List Value} (h:RdL w O ds xs):RdL w' O' ds xs:=
 ⟨h.len,fun j d u h1 h2=>(h.at_ j d u h1 h2).keep hz hO hs⟩
theorem Rd.ex {w w':World} {O:Nat->Prop} (he:Ex w w') {d:D} {x:Value} (h:Rd w O d x):Rd w' O d x:=
 h.keep he.size (fun _ _ h=>h) (fun b hb _=>he.block b hb)
theorem RdL.ex {w w':World} {O:Nat->Prop} (he:Ex w w') {ds:List D} {xs:List Value} (h:RdL w O ds xs):RdL w' O ds xs:=
 h.keep he.size (fun _ _ h=>h) (fun b hb _=>he.block b hb)
theorem RdL.nil {w:World} {O:Nat->Prop}:RdL w O [] []:=⟨rfl,fun j d u h=>by simp at h⟩
theorem RdL.cons {w:World} {O:Nat->Prop} {d:D} {u:Value} {ds:List D} {xs:List Value} (h:Rd w O d u) (t:RdL w O ds xs):RdL w O (d::ds) (u::xs):=
 ⟨by simp [t.len],fun j d' u' h1 h2=>by
  cases j with
  | zero=>simp at h1 h2;subst h1 h2;exact h
  | succ j=>simp at h1 h2;exact t.at_ j d' u' h1 h2⟩
theorem RdL.get {w:World} {O:Nat->Prop} {ds:List D} {xs:List Value} (h:RdL w O ds xs) {j:Nat} {d:D} (hj:ds[j]?=some d):∃ u,xs[j]?=some u/\Rd w O d u:=by
 have hlt:j<ds.length:=(zE.1 hj).1;have hlt':j<xs.length:=by rw [h.len];exact hlt
 exact⟨xs[j],zD hlt',h.at_ j d _ hj (zD hlt')⟩
def zP:=@List.getElem?_map
theorem RdL.vals {w:World} {O:Nat->Prop} (xs:List Value):RdL w O (xs.map .v) xs:=
 ⟨by simp,fun j d u h1 h2=>by
  rw [zP,h2] at h1;simp at h1;subst h1;exact .v u⟩
theorem Rd.val {w:World} {O:Nat->Prop} {d:D} {x u:Value} (h:Rd w O d x) (hd:d = .v u):x=u:=by
 subst hd;generalize hq:D.v u=q at h
 cases h<;>cases hq
 rfl
theorem Rd.sl_inv {w:World} {O:Nat->Prop} {k:Nat} {xs:List (List D)} {x:Value} (h:Rd w O (.sl k xs) x):∃ (a:Option Addr) (cap:Nat) (vs:Nat->Nat->Value),x = .slice a xs.length cap/\xs.length<=cap/\(∀ y∈xs,y.length=k) /\
  (∀ (i:Nat) y,xs[i]?=some y->∃ b off,a=some ⟨b,off,none⟩/\¬ O b/\b<w.heap.size/\∀ j,j<k->w.cell? ⟨b,off+i*k+j,none⟩=some (vs i j))/\(∀ (i:Nat) y,xs[i]?=some y->∀ (j:Nat) d,y[j]?=some d->Rd w O d (vs i j)):=by
 generalize hq:D.sl k xs=q at h
 cases h<;>cases hq
 exact⟨_,_,_,rfl,by assumption,by assumption,by assumption,by assumption⟩
theorem Rd.ro_inv {w:World} {O:Nat->Prop} {cs:List D} {x:Value} (h:Rd w O (.ro cs) x):∃ (b off:Nat) (vs:Nat->Value),x = .pointer (some ⟨b,off,none⟩)/\¬ O b/\b<w.heap.size/\(∀ j,j<cs.length->w.cell? ⟨b,off+j,none⟩=some (vs j))/\(∀ (j:Nat) d,cs[j]?=some d->Rd w O d (vs j)):=by
 generalize hq:D.ro cs=q at h
 cases h<;>cases hq
 exact⟨_,_,_,rfl,by assumption,by assumption,by assumption,by assumption⟩
theorem Rd.agg_inv {w:World} {O:Nat->Prop} {cs:List D} {x:Value} (h:Rd w O (.agg cs) x):∃ vs:List Value,x = .agg vs.toArray/\RdL w O cs vs:=by
 generalize hq:D.agg cs=q at h
 cases h<;>cases hq
 rename_i vs hl hr;exact⟨vs,rfl,hl,hr⟩
theorem Rd.tup_inv {w:World} {O:Nat->Prop} {cs:List D} {x:Value} (h:Rd w O (.tup cs) x):∃ vs:List Value,x = .tuple vs.toArray/\RdL w O cs vs:=by
 generalize hq:D.tup cs=q at h
 cases h<;>cases hq
 rename_i vs hl hr;exact⟨vs,rfl,hl,hr⟩
theorem Rd.clo_inv {w:World} {O:Nat->Prop} {f:FuncId} {cs:List D} {x:Value} (h:Rd w O (.clo f cs) x):∃ vs:List Value,x = .func (.func f) #[] vs.toArray/\RdL w O cs vs:=by
 generalize hq:D.clo f cs=q at h
 cases h<;>cases hq
 rename_i vs hl hr;exact⟨vs,rfl,hl,hr⟩
theorem Rd.ifc_inv {w:World} {O:Nat->Prop} {t:TypeId} {d:D} {x:Value} (h:Rd w O (.ifc t d) x):∃ u,x = .iface t u/\Rd w O d u:=by
 generalize hq:D.ifc t d=q at h
 cases h<;>cases hq
 exact⟨_,rfl,by assumption⟩
def ag3:D->List D
 | .agg cs=>cs
 | .v (.agg vs)=>vs.toList.map .v
 | d=>[d]
theorem Rd.cells {w:World} {O:Nat->Prop} {d:D} {x:Value} (h:Rd w O d x) (hne:d ≠ .any):RdL w O (ag3 d) x.cells.toList:=by
 have one:∀ {d:D} {x:Value},Rd w O d x->RdL w O [d] [x]:=fun h=>.cons h .nil
 cases h with
 | v x=>cases x<;>first|exact one (.v _)|exact RdL.vals _
 | any x=>exact absurd rfl hne
 | sl k xs a cap vs hcap hk hc hr=>exact one (.sl k xs a cap vs hcap hk hc hr)
 | ro cs b off vs hO hb hc hr=>exact one (.ro cs b off vs hO hb hc hr)
 | agg cs vs hl hr=>exact (⟨hl,hr⟩:RdL w O cs vs)
 | tup cs vs hl hr=>exact one (.tup cs vs hl hr)
 | clo f cs vs hl hr=>exact one (.clo f cs vs hl hr)
 | gl g q h1 hb hc=>exact one (.gl g q h1 hb hc)
 | ifc t d x h=>exact one (.ifc t d x h)
inductive Blk where
 | cells (t:TypeId) (cs:List D)
 | obj (ok:Obj->Prop)
 | mp (P:Program) (k:TypeId) (G:Value->Option D)
abbrev aa1:=List (Nat × Blk)
def aa6 (σ:aa1):List Nat:=σ.map Prod.fst
def Own (σ:aa1) (X:Nat->Prop) (b:Nat):Prop:=X b\/b∈aa6 σ
def Blk.ok (w:World) (O:Nat->Prop):Blk->Obj->Prop
 | .cells t cs,o=>∃ vs:List Value,o = .cells vs.toArray t (0,0)/\RdL w O cs vs
 | .obj ok,o=>ok o
 | .mp P k G,o=>∃ es clock n F,o = .map es clock/\Ents P k es clock n F/\∀ key,(F key=none/\G key=none)\/∃ v d,F key=some v/\G key=some d/\Rd w O d v
structure StOK (w:World) (X:Nat->Prop) (σ:aa1):Prop where
 nodup:(aa6 σ).Nodup
 at_:∀ b k,(b,k)∈σ->¬ X b/\∃ o,w.heap[b]?=some o/\k.ok w (Own σ X) o
 xlt:∀ b,X b->b<w.heap.size
 gok:GOK w (Own σ X)
def xM:=@List.mem_map
theorem StOK.lt {w:World} {X:Nat->Prop} {σ:aa1} (h:StOK w X σ) {b:Nat} (hb:b∈aa6 σ):b<w.heap.size:=by
 obtain⟨⟨b',k⟩,hm,rfl⟩:=xM.1 hb;obtain⟨_,o,ho,_⟩:=h.at_ b' k hm;exact (zX.1 ho).1
theorem StOK.own_lt {w:World} {X:Nat->Prop} {σ:aa1} (h:StOK w X σ) {b:Nat} (hb:Own σ X b):b<w.heap.size:=by
 rcases hb with hb|hb
 ·exact h.xlt b hb
 ·exact h.lt hb
theorem StOK.ex {w w':World} {X:Nat->Prop} {σ:aa1} (h:StOK w X σ) (he:Ex w w'):StOK w' X σ:=
 ⟨h.nodup,fun b k hm=>by
  obtain⟨hx,o,ho,hk⟩:=h.at_ b k hm;refine⟨hx,o,(he.block b (zX.1 ho).1).trans ho,?_⟩
  cases k with
  | cells t cs=>obtain⟨vs,h1,h2⟩:=hk;exact⟨vs,h1,h2.ex he⟩
  | obj ok=>exact hk
  | mp P k G=>obtain⟨es,c,n,F,h1,h2,h3⟩:=hk;exact⟨es,c,n,F,h1,h2,fun key=>(h3 key).imp id fun ⟨v,d,q1,q2,q3⟩=>⟨v,d,q1,q2,q3.ex he⟩⟩,fun b hb=>yI (h.xlt b hb) he.size,h.gok.ex he⟩
structure Mv (w:World) (σ:aa1) (w':World) (σ':aa1):Prop where
 keep:Keep (fun b=>b∈aa6 σ) w w'
 new:∀ b,b∈aa6 σ'->b∈aa6 σ\/w.heap.size<=b
theorem Mv.refl (w:World) (σ:aa1):Mv w σ w σ:=⟨Keep.refl _ _,fun _ h=>Or.inl h⟩
theorem pA2 {w w':World} {σ:aa1} (h:Ex w w'):Mv w σ w' σ:=⟨h.keep,fun _ h=>Or.inl h⟩
theorem Mv.trans {a b c:World} {s t u:aa1} (h:Mv a s b t) (k:Mv b t c u):Mv a s c u:=by
 refine⟨⟨k.keep.os.trans h.keep.os,k.keep.tape.trans h.keep.tape,k.keep.output.trans h.keep.output,xH h.keep.size k.keep.size,fun i hi hs=>?_⟩,fun i hi=>?_⟩
 ·refine (k.keep.block i (yI hi h.keep.size) (fun hm=>?_)).trans (h.keep.block i hi hs);rcases h.new i hm with h1|h1
  ·exact hs h1
  ·omega
 ·rcases k.new i hi with h1|h1
  ·exact h.new i h1
  ·exact Or.inr (xH h.keep.size h1)
structure FR (w:World) (O:Nat->Prop) (a:List D) (t:Array Value):Prop where
 size:t.size=a.length
 at_:∀ (i:Nat) d,a[i]?=some d->∃ u,t[i]?=some u/\Rd w O d u
theorem FR.keep {w w':World} {O O':Nat->Prop} (hz:w.heap.size<=w'.heap.size) (hO:∀ b,b<w.heap.size->¬ O b->¬ O' b)
  (hs:∀ b,b<w.heap.size->¬ O b->w'.heap[b]?=w.heap[b]?) {a:List D} {t:Array Value} (h:FR w O a t):FR w' O' a t:=
 ⟨h.size,fun i d hd=>let ⟨u,h1,h2⟩:=h.at_ i d hd;⟨u,h1,h2.keep hz hO hs⟩⟩
theorem FR.ex {w w':World} {O:Nat->Prop} (he:Ex w w') {a:List D} {t:Array Value} (h:FR w O a t):FR w' O a t:=
 h.keep he.size (fun _ _ h=>h) (fun b hb _=>he.block b hb)
def putD (a:List D) (dst:Option Tmp) (d:D):List D:=match dst with|some i=>a.set i d|none=>a
def xP:=@List.getElem?_set
theorem FR.put {w:World} {O:Nat->Prop} {a:List D} {fr:Act} (h:FR w O a fr.tmps) {d:D} {u:Value} (hd:Rd w O d u) (dst:Option Tmp):FR w O (putD a dst d) (fr.put dst u).tmps:=by
 cases dst with
 | none=>exact h
 | some i=>
  refine⟨by simp [putD,Act.put,h.size],fun j d' hj=>?_⟩;simp only [putD,xP] at hj;simp only [Act.put,Array.getElem?_setIfInBounds];split at hj
  ·rename_i hij;subst hij;split at hj
   ·rename_i hlt
    cases hj
    have:i<fr.tmps.size:=by rw [h.size];exact hlt
    exact⟨u,by simp [this],hd⟩
   ·cases hj
  ·rename_i hij;obtain⟨u',h1,h2⟩:=h.at_ j d' hj;exact⟨u',by simp [hij,h1],h2⟩
def evD (a:List D):Operand->D
 | .tmp t=>a.getD t (.v undef)
 | .const v=>.v v
 | .global g=>.v (.pointer (some ⟨g,0,none⟩))
 | .func f=>.v (.func (.func f) #[] #[])
def wQ:=@Array.getElem?_eq_none
def yY:=@List.getElem?_eq_none_iff
theorem FR.eval {w:World} {O:Nat->Prop} {a:List D} {fr:Act} (h:FR w O a fr.tmps) (x:Operand):Rd w O (evD a x) (fr.eval x):=by
 cases x with
 | tmp t=>
  simp only [evD,Act.eval]
  cases ha:a[t]? with
  | some d=>
   obtain⟨u,h1,h2⟩:=h.at_ t d ha;simp [List.getD_eq_getElem?_getD,ha,h1];exact h2
  | none=>
   have:fr.tmps[t]?=none:=by
    rw [wQ];rw [h.size];exact yY.1 ha
   simp [List.getD_eq_getElem?_getD,ha,this];exact .v _
 | const v=>exact .v v
 | global g=>exact .v _
 | func f=>exact .v _
def mrk (b:Nat):Deferred:={ target:=.collected b,args:=#[] }
def Mks (w:World) (O:Nat->Prop) (B:Nat) (l:List Deferred):Prop:=B<=w.heap.size/\∃ bs:List Nat,l=bs.map mrk/\bs.Nodup/\∀ b∈bs,B<=b/\¬ O b/\w.heap[b]?=some (.deferred (some []))
theorem Mks.nil {w:World} {O:Nat->Prop} {B:Nat} (hB:B<=w.heap.size):Mks w O B []:=⟨hB,[],rfl,List.nodup_nil,fun b hb=>by cases hb⟩
theorem Mks.keep {w w':World} {O O':Nat->Prop} {B:Nat} {l:List Deferred} (h:Mks w O B l) (hz:w.heap.size<=w'.heap.size) (hO:∀ b,b<w.heap.size->¬ O b->¬ O' b)
  (hs:∀ b,b<w.heap.size->¬ O b->w'.heap[b]?=w.heap[b]?):Mks w' O' B l:=by
 obtain⟨h0,bs,h1,h2,h3⟩:=h;refine⟨xH h0 hz,bs,h1,h2,fun b hb=>?_⟩;obtain⟨k1,k2,k3⟩:=h3 b hb;have hlt:=(zX.1 k3).1;exact⟨k1,hO b hlt k2,(hs b hlt k2).trans k3⟩
theorem Mks.ex {w w':World} {O:Nat->Prop} {B:Nat} {l:List Deferred} (h:Mks w O B l) (he:Ex w w'):Mks w' O B l:=h.keep he.size (fun _ _ h=>h) (fun b hb _=>he.block b hb)
structure St (w:World) (X:Nat->Prop) (df:Nat) (a:List D) (σ:aa1) (ac:Act):Prop where
 fr:FR w (Own σ X) a ac.tmps
 st:StOK w X σ
 df:Mks w (Own σ X) df ac.defers
theorem St.ex {w w':World} {X:Nat->Prop} {df:Nat} {a:List D} {σ:aa1} {fr:Act} (h:St w X df a σ fr) (he:Ex w w'):St w' X df a σ fr:=⟨h.fr.ex he,h.st.ex he,h.df.ex he⟩
theorem St.put {w:World} {X:Nat->Prop} {df:Nat} {a:List D} {σ:aa1} {fr:Act} (h:St w X df a σ fr) {d:D} {u:Value} (hd:Rd w (Own σ X) d u) (dst:Option Tmp):St w X df (putD a dst d) σ (fr.put dst u):=
 ⟨h.fr.put hd dst,h.st,by cases dst<;>exact h.df⟩
def FW (r:Option Nat):Fence:={ Fence.wide with round:=r }
abbrev Pst:=Exit->List D->aa1->Prop
structure AWP (P:Program) (r:Option Nat) (n:Nat) (df:Nat) (c:Code) (Q:Pst) (a:List D) (σ:aa1):Prop where
 run:∀ (w:World) (X:Nat->Prop) (fr:Act),St w X df a σ fr ->
  c.wpIn (FW r) n P (fun e fr' w'=>∃ a' σ',Q e a' σ'/\St w' X df a' σ' fr'/\Mv w σ w' σ') fr w
def ca6 (next:List D->aa1->Prop) (Q:Pst):Pst
 | .normal,a,σ=>next a σ
 | e,a,σ=>Q e a σ
def bI3 (id:Nat) (Q:Pst):Pst
 | .exit id',a,σ=>if id'=id then Q .normal a σ else Q (.exit id') a σ
 | e,a,σ=>Q e a σ
section
variable {P:Program} {r:Option Nat} {n:Nat} {df:Nat} {Q:Pst} {a:List D} {σ:aa1}
theorem as4 {c:Code} {Q':Pst} (h:AWP P r n df c Q a σ) (hq:∀ e a σ,Q e a σ->Q' e a σ):AWP P r n df c Q' a σ:=
 ⟨fun w X fr hs=>wpIn_mono (h.run w X fr hs) fun e fr' w' ⟨a',σ',h1,h2⟩=>⟨a',σ',hq _ _ _ h1,h2⟩⟩
theorem bR8 (h:Q .normal a σ):AWP P r n df .skip Q a σ:=⟨fun w X fr hs=>wpIn_skip ⟨a,σ,h,hs,Mv.refl _ _⟩⟩
theorem ch4 (h:Q .ret a σ):AWP P r n df .ret Q a σ:=⟨fun w X fr hs=>wpIn_ret ⟨a,σ,h,hs,Mv.refl _ _⟩⟩
theorem bR9 {id:Nat} (h:Q (.exit id) a σ):AWP P r n df (.exit id) Q a σ:=⟨fun w X fr hs=>wpIn_exit ⟨a,σ,h,hs,Mv.refl _ _⟩⟩
theorem ch3 {x y:Code} (h:AWP P r n df x (ca6 (AWP P r n df y Q) Q) a σ):AWP P r n df (.seq x y) Q a σ:=by
 refine⟨fun w X fr hs=>?_⟩;refine wpIn_seq (wpIn_mono (h.run w X fr hs) ?_);rintro e fr' w' ⟨a',σ',h1,h2,h3⟩
 cases e with
 | normal=>exact wpIn_mono (h1.run w' X fr' h2) fun e fr'' w'' ⟨a'',σ'',k1,k2,k3⟩=>⟨a'',σ'',k1,k2,h3.trans k3⟩
 | exit id=>exact⟨a',σ',h1,h2,h3⟩
 | goto l=>exact⟨a',σ',h1,h2,h3⟩
 | ret=>exact⟨a',σ',h1,h2,h3⟩
 | panic ch=>exact⟨a',σ',h1,h2,h3⟩
 | outgrown=>exact⟨a',σ',h1,h2,h3⟩
theorem bJ1 {id:Nat} {c:Code} (h:AWP P r n df c (bI3 id Q) a σ):AWP P r n df (.block id c) Q a σ:=by
 refine⟨fun w X fr hs=>?_⟩;refine wpIn_block (wpIn_mono (h.run w X fr hs) ?_);rintro e fr' w' ⟨a',σ',h1,h2,h3⟩
 cases e with
 | exit id'=>
  simp only [bI3] at h1;simp only [Exit.inBlock];split at h1
  ·rename_i he;rw [if_pos he];exact⟨a',σ',h1,h2,h3⟩
  ·rename_i he;rw [if_neg he];exact⟨a',σ',h1,h2,h3⟩
 | normal=>exact⟨a',σ',h1,h2,h3⟩
 | goto l=>exact⟨a',σ',h1,h2,h3⟩
 | ret=>exact⟨a',σ',h1,h2,h3⟩
 | panic ch=>exact⟨a',σ',h1,h2,h3⟩
 | outgrown=>exact⟨a',σ',h1,h2,h3⟩
theorem bt2 {c:Operand} {x y:Code} {t:Bool} (hc:evD a c = .v (.bool t)) (h:AWP P r n df (if t then x else y) Q a σ):AWP P r n df (.cond c x y) Q a σ:=by
 refine⟨fun w X fr hs=>?_⟩;refine wpIn_cond (t:=t) ?_ (h.run w X fr hs);exact (hs.fr.eval c).val hc
theorem bI7 {c:Operand} {x y:Code} {t:Bool} (hc:evD a c = .v (.bool t)) (ht:t=true->AWP P r n df x Q a σ) (hf:t=false->AWP P r n df y Q a σ):AWP P r n df (.cond c x y) Q a σ:=by
 cases t
 ·exact bt2 hc (hf rfl)
 ·exact bt2 hc (ht rfl)
theorem bb5 {c:Code} (I:Nat->List D->aa1->Prop) (n₀:Nat) (h₀:I n₀ a σ)
  (round:∀ m a σ,I m a σ->AWP P r n df c (ca6 (fun a' σ'=>∃ m',m' < m/\I m' a' σ') Q) a σ):AWP P r n df (.loop c) Q a σ:=by
 refine⟨fun w X fr hs=>?_⟩;refine wpIn_loop_ghost (fun m fr' w'=>∃ a' σ',I m a' σ'/\St w' X df a' σ' fr'/\Mv w σ w' σ') n₀ ⟨a,σ,h₀,hs,Mv.refl _ _⟩ ?_;rintro m fr' w' ⟨a',σ',h1,h2,h3⟩;refine wpIn_mono ((round m a' σ' h1).run w' X fr' h2) ?_;rintro e fr'' w'' ⟨a'',σ'',k1,k2,k3⟩
 cases e with
 | normal=>obtain⟨m',hm,hI⟩:=k1;exact⟨m',hm,a'',σ'',hI,k2,h3.trans k3⟩
 | exit id=>exact⟨a'',σ'',k1,k2,h3.trans k3⟩
 | goto l=>exact⟨a'',σ'',k1,k2,h3.trans k3⟩
 | ret=>exact⟨a'',σ'',k1,k2,h3.trans k3⟩
 | panic ch=>exact⟨a'',σ'',k1,k2,h3.trans k3⟩
 | outgrown=>exact⟨a'',σ'',k1,k2,h3.trans k3⟩
end
end
section
open Go Go.RowKit
def aj0:Op->Bool
 | .defer _=>false
 | .select _ _=>false
 | _=>true
theorem ax0 {o:Oper} (h:aj0 o.op=true) (r:Option Nat) (ρ:Operand->Value):Oper.semAt r ρ o=execOp ρ o:=by
 cases r with
 | none=>rfl
 | some l=>exact Oper.semAt_some l ρ o (fun c hc=>by rw [hc] at h;cases h)
def YU (P:Program) (w:World) (X:Nat->Prop) (σ:aa1) (d:D):Result Next->Prop
 | .ok (.value u) w'=>Ex w w'/\Rd w' (Own σ X) d u
 | .ok (.enter f args) w'=>w'=w/\Calls P f args w (fun e w''=>∃ u,e = .returned u/\Ex w w''/\Rd w'' (Own σ X) d u)
 | _=>False
def Yd (P:Program) (o:Oper) (ρ:Operand->D) (σ:aa1) (d:D):Prop:=
 ∀ (w:World) (X:Nat->Prop) (η:Operand->Value),(∀ x∈o.op.operands,Rd w (Own σ X) (ρ x) (η x))->StOK w X σ->YU P w X σ d ((execOp η o).run P w)
theorem Yd.congr {P:Program} {o:Oper} {ρ ρ':Operand->D} {σ:aa1} {d:D} (h:Yd P o ρ σ d) (he:∀ x∈o.op.operands,ρ' x=ρ x):Yd P o ρ' σ d:=
 fun w X η hη hs=>h w X η (fun x hx=>by rw [← he x hx];exact hη x hx) hs
def ap1 (ops:Array Oper) (a:List D) (o:Oper):Option Bool:=
 match o.guard with
 | none=>some true
 | some (j,want)=>
  match (ops[j]?).bind (·.dst) with
  | some t=>(match a[t]? with|some (.v x)=>(match x with | .bool b=>some (b==want) | _=>some false) | _=>none)
  | none=>none
theorem aq7 {ops:Array Oper} {a:List D} {o:Oper} {t:Bool} {w:World} {O:Nat->Prop} {tmps:Array Value} (hf:FR w O a tmps) (h:ap1 ops a o=some t):Region.wanted o (yielded ops tmps)=t:=by
 unfold ap1 at h;unfold Region.wanted;split at h
 ·rename_i hg;cases h;simp only [hg]
 ·rename_i j want hg;simp only [hg];split at h
  ·rename_i tt ht;split at h
   ·rename_i x hb;obtain⟨u,h1,h2⟩:=hf.at_ _ _ hb;have:=h2.val rfl;subst this;simp only [yielded,ht,Option.bind_some,h1]
    cases u<;>simp only at h<;>cases h<;>first|rfl|(rename_i b0;cases b0<;>cases want<;>rfl)
   ·cases h
  ·cases h
section
variable {P:Program} {r:Option Nat} {n:Nat} {df:Nat} {ops:Array Oper} {Q:Pst} {a:List D} {σ:aa1}
def Pw (w:World) (X:Nat->Prop) (df:Nat) (σ:aa1) (Q:Pst):Exit->Act->World->Prop:=fun e fr' w'=>∃ a' σ',Q e a' σ'/\St w' X df a' σ' fr'/\Mv w σ w' σ'
theorem pA3 {w w':World} {X:Nat->Prop} {σ σ':aa1} (hm:Mv w σ w' σ') {e:Exit} {fr:Act} {w'':World} (h:Pw w' X df σ' Q e fr w''):Pw w X df σ Q e fr w'':=by
 obtain⟨a',s',h1,h2,h3⟩:=h;exact⟨a',s',h1,h2,hm.trans h3⟩
theorem ah9 {F:Fence} {Q1 Q2:Exit->Act->World->Prop} (hq:∀ e a w,Q1 e a w->Q2 e a w):∀ (l:List Oper) (fr:Act) (w:World),wpListIn F n P ops Q1 l fr w->wpListIn F n P ops Q2 l fr w
 | [],_,_,h=>hq _ _ _ h
 | o::l,fr,w,h=>by
  unfold wpListIn at h ⊢;split at h
  ·rename_i hw;rw [if_pos hw];have hm:=Oper.wpIn_mono (fun a w h=>ah9 hq l a w h) h;unfold Oper.wpIn at hm ⊢;refine⟨hm.1,?_⟩;have hm:=hm.2;generalize (o.semAt F.round fr.eval).run P w=res at *
   cases res with
   | ok x w'=>
    cases x<;>simp only [Oper.uponIn] at hm ⊢ <;> try exact hm
    case enter f args=>
     refine⟨hm.1,hm.2.mono fun e w'' he=>?_⟩
     cases e with
     | returned v=>exact he
     | panicked c=>exact hq _ _ _ he
     | outgrown=>obtain⟨a0,w0,h0⟩:=he;exact⟨a0,w0,hq _ _ _ h0⟩
    case round=>
     refine⟨hm.1,hm.2.mono fun e w'' he=>?_⟩
     cases e with
     | returned v=>exact he
     | panicked c=>exact hq _ _ _ he
     | outgrown=>obtain⟨a0,w0,h0⟩:=he;exact⟨a0,w0,hq _ _ _ h0⟩
   | halt x w'=>cases x<;>simp only [Oper.uponIn] at hm ⊢ <;> first|exact hq _ _ _ hm|exact hm
  ·rename_i hw;rw [if_neg hw];exact⟨h.1,ah9 hq l _ _ h.2⟩
structure AOps (P:Program) (r:Option Nat) (n:Nat) (df:Nat) (ops:Array Oper) (Q:Pst) (l:List Oper) (a:List D) (σ:aa1):Prop where
 run:∀ (w:World) (X:Nat->Prop) (fr:Act),St w X df a σ fr->wpListIn (FW r) n P ops (Pw w X df σ Q) l fr w
theorem bt4 (h:Q .normal a σ):AOps P r n df ops Q [] a σ:=⟨fun w X fr hs=>⟨a,σ,h,hs,Mv.refl _ _⟩⟩
theorem by0 {id:Nat} (h:AOps P r n df ops Q ops.toList a σ):AWP P r n df (.region id ops false) Q a σ:=⟨fun w X fr hs=>wpIn_region_list (h.run w X fr hs)⟩
theorem bf7 (o:Oper) (w:World) (ρ:Operand->Value):∀ f,o.about P w ρ=some f->(FW r).fn f:=fun _ _=>trivial
theorem bJ4 {o:Oper} {rest:List Oper} (hw:ap1 ops a o=some false) (h:AOps P r n df ops Q rest (putD a o.dst (.v undef)) σ):AOps P r n df ops Q (o::rest) a σ:=by
 refine⟨fun w X fr hs=>?_⟩;unfold wpListIn;rw [if_neg (by rw [aq7 hs.fr hw];simp)];exact⟨bf7 o w _,h.run w X _ (hs.put (.v _) o.dst)⟩
theorem ah3 {o:Oper} {rest:List Oper} (hw:ap1 ops a o=some true) (hn:aj0 o.op=true)
  (h:∀ w X fr,St w X df a σ fr->(match (execOp fr.eval o).run P w with
   | .ok (.value u) w'=>∃ d σ',Mv w σ w' σ'/\St w' X df (putD a o.dst d) σ' (fr.put o.dst u)/\AOps P r n df ops Q rest (putD a o.dst d) σ'
   | .ok .skip w'=>∃ σ',Mv w σ w' σ'/\St w' X df (putD a o.dst (.v undef)) σ' (fr.put o.dst undef)/\AOps P r n df ops Q rest (putD a o.dst (.v undef)) σ'
   | .ok (.enter f args) w'=>w'=w/\Calls P f args w (fun e w''=>∃ u,e = .returned u/\∃ d σ',Mv w σ w'' σ'/\St w'' X df (putD a o.dst d) σ' (fr.put o.dst u)/\AOps P r n df ops Q rest (putD a o.dst d) σ')
   | _=>False)):AOps P r n df ops Q (o::rest) a σ:=by
 refine⟨fun w X fr hs=>?_⟩;have h:=h w X fr hs;unfold wpListIn;rw [if_pos (by rw [aq7 hs.fr hw])];refine⟨bf7 o w _,?_⟩;rw [show (FW r).round=r from rfl,ax0 hn];generalize (execOp fr.eval o).run P w=res at h;have fin:∀ {w':World} {fr':Act} {a':List D} {σ':aa1},Mv w σ w' σ'->St w' X df a' σ' fr'->AOps P r n df ops Q rest a' σ'->wpListIn (FW r) n P ops (Pw w X df σ Q) rest fr' w':=
  fun hm hst hk=>ah9 (fun e a w'' hp=>pA3 hm hp) rest _ _ (hk.run _ X _ hst)
 cases res with
 | ok x w'=>
  cases x<;>simp only at h<;>try exact h.elim
  case value u=>obtain⟨d,σ',h1,h2,h3⟩:=h;exact fin h1 h2 h3
  case skip=>obtain⟨σ',h1,h2,h3⟩:=h;exact fin h1 h2 h3
  case enter f args=>
   obtain⟨rfl,hc⟩:=h;refine⟨fun hd=>by simp [FW,Fence.wide] at hd,?_⟩;have hc':CallsIn Fence.wide (n-1) P f args w' _:=callsIn_wide.2 hc;have:CallsIn (FW r) (n-1) P f args w' _:=hc';refine this.mono fun e w'' he=>?_;obtain⟨u,rfl,d,σ',h1,h2,h3⟩:=he;exact fin h1 h2 h3
 | halt x w'=>exact h.elim
theorem bJ3 {o:Oper} {rest:List Oper} {d:D} (hw:ap1 ops a o=some true) (hn:aj0 o.op=true) (hy:Yd P o (evD a) σ d) (h:AOps P r n df ops Q rest (putD a o.dst d) σ):AOps P r n df ops Q (o::rest) a σ:=by
 refine ah3 hw hn fun w X fr hs=>?_;have h1:=hy w X fr.eval (fun x _=>hs.fr.eval x) hs.st;generalize (execOp fr.eval o).run P w=res at h1
 cases res with
 | ok x w'=>
  cases x<;>simp only [YU] at h1
  case value u=>exact⟨d,σ,pA2 h1.1,(hs.ex h1.1).put h1.2 o.dst,h⟩
  case enter f args=>exact⟨h1.1,h1.2.mono fun e w'' ⟨u,he,hx,hr⟩=>⟨u,he,d,σ,pA2 hx,(hs.ex hx).put hr o.dst,h⟩⟩
 | halt x w'=>simp only [YU] at h1
theorem aE4 (a:List D) {x y:Option Tmp} (d e:D) (h:∀ i,x=some i->y≠some i):putD (putD a x d) y e=putD (putD a y e) x d:=by
 cases x with
 | none=>rfl
 | some i=>
  cases y with
  | none=>rfl
  | some j=>
   have:i≠j:=fun hij=>h i rfl (by rw [hij]);simp only [putD];exact List.set_comm _ _ this
theorem bl6 {a:List D} {dst:Option Tmp} {d:D} {x:Operand} (h:∀ i,dst=some i->x ≠ .tmp i):evD (putD a dst d) x=evD a x:=by
 cases dst with
 | none=>rfl
 | some i=>
  cases x with
  | tmp t=>
   have:i≠t:=fun e=>h i rfl (by rw [e]);simp [evD,putD,List.getD_eq_getElem?_getD,xP,this]
  | _=>rfl
def yW:=@List.mem_append_right
theorem aM8 {o:Oper} {dst:Option Tmp} {d:D} (h:∀ i,dst=some i->i ∉ o.looksAt ops):ap1 ops (putD a dst d) o=ap1 ops a o:=by
 cases dst with
 | none=>rfl
 | some i=>
  unfold ap1;split
  ·rfl
  ·rename_i j want hg;split
   ·rename_i t ht;have:i≠t:=fun e=>h i rfl (by
     subst e;unfold Oper.looksAt;refine yW _ ?_;simp [hg,ht])
    simp [putD,xP,this]
   ·rfl
def isAl (al:Option (Nat × TypeId)) (o:Oper):Bool:=match al with
 | none=>false
 | some (s,_)=>match o.dst with|some i=>Nat.beq i s|none=>false
def Hd (al:Option (Nat × TypeId)) (P:Program) (o:Oper) (ρ:Operand->D) (σ:aa1) (d:D):Prop:=
 (isAl al o=false/\Yd P o ρ σ d)\/(isAl al o=true/\(∃ s t,al=some (s,t)/\o.op = .alloc t/\o.dst=some s)/\d = .any)
theorem Hd.congr {al:Option (Nat × TypeId)} {P:Program} {o:Oper} {ρ ρ':Operand->D} {σ:aa1} {d:D} (h:Hd al P o ρ σ d) (he:∀ x∈o.op.operands,ρ' x=ρ x):Hd al P o ρ' σ d:=by
 rcases h with ⟨h1,h2⟩|h
 ·exact .inl ⟨h1,h2.congr he⟩
 ·exact .inr h
theorem Hd.yd {P:Program} {o:Oper} {ρ:Operand->D} {σ:aa1} {d:D} (h:Hd none P o ρ σ d):Yd P o ρ σ d:=by
 rcases h with ⟨_,h⟩|⟨h,_⟩
 ·exact h
 ·cases h
theorem Hd.of {P:Program} {o:Oper} {ρ:Operand->D} {σ:aa1} {d:D} (h:Yd P o ρ σ d):Hd none P o ρ σ d:=.inl ⟨rfl,h⟩
variable {al:Option (Nat × TypeId)}
def aOp (al:Option (Nat × TypeId)) (P:Program) (ops:Array Oper) (σ:aa1) (i:Nat) (K:List D->Prop) (a:List D):Prop:=
 match ops[i]? with
 | none=>K a
 | some o=>(ap1 ops a o=some true/\aj0 o.op=true/\∃ d,Hd al P o (evD a) σ d/\K (putD a o.dst d))\/(ap1 ops a o=some false/\K (putD a o.dst (.v undef)))
theorem bT6 {i:Nat} {K K':List D->Prop} (h:∀ a,K a->K' a) (hh:aOp al P ops σ i K a):aOp al P ops σ i K' a:=by
 unfold aOp at *;split
 ·rename_i ho;simp only [ho] at hh;exact h _ hh
 ·rename_i o ho;simp only [ho] at hh;rcases hh with ⟨h1,h2,d,h3,h4⟩|⟨h1,h2⟩
  ·exact .inl ⟨h1,h2,d,h3,h _ h4⟩
  ·exact .inr ⟨h1,h _ h2⟩
def YsIn (al:Option (Nat × TypeId)) (P:Program) (ops:Array Oper) (σ:aa1) (o:Oper) (d:D) (a:List D):Prop:=
 (ap1 ops a o=some true/\aj0 o.op=true/\Hd al P o (evD a) σ d)\/(ap1 ops a o=some false/\d = .v undef)
theorem YsIn.aOp {i:Nat} {o:Oper} {d:D} (hi:ops[i]?=some o) (hy:YsIn al P ops σ o d a) {K:List D->Prop} (h:K (putD a o.dst d)):aOp al P ops σ i K a:=by
 unfold Proofs.YtlcfiilejnnlnaaGreatDoor.aOp;simp only [hi];rcases hy with ⟨h1,h2,h3⟩|⟨h1,rfl⟩
 ·exact .inl ⟨h1,h2,d,h3,h⟩
 ·exact .inr ⟨h1,h⟩
theorem aM5 {i:Nat} {o:Oper} {K:List D->Prop} (hi:ops[i]?=some o) (h:aOp al P ops σ i K a):∃ d,YsIn al P ops σ o d a/\K (putD a o.dst d):=by
 unfold aOp at h;simp only [hi] at h;rcases h with ⟨h1,h2,d,h3,h4⟩|⟨h1,h2⟩
 ·exact⟨d,.inl ⟨h1,h2,h3⟩,h4⟩
 ·exact⟨_,.inr ⟨h1,rfl⟩,h2⟩
def xK:=@List.mem_append_left
theorem ax3 {o:Oper} {i:Nat} (h:i ∉ o.looksAt ops):∀ x∈o.op.operands,x ≠ .tmp i:=by
 intro x hx he;subst he;exact h (xK _ (List.mem_filterMap.2 ⟨.tmp i,by simpa using hx,rfl⟩))
theorem YsIn.put {o:Oper} {d:D} (hy:YsIn al P ops σ o d a) {dst:Option Tmp} {e:D} (h:∀ i,dst=some i->i ∉ o.looksAt ops):YsIn al P ops σ o d (putD a dst e):=by
 unfold YsIn at *;rw [aM8 h];rcases hy with ⟨h1,h2,h3⟩|h1
 ·exact .inl ⟨h1,h2,h3.congr fun x hx=>bl6 fun i hi=>ax3 (h i hi) x hx⟩
 ·exact .inr h1
theorem ci5 {j:Nat} {oi oj:Oper} {d:D} (hj:ops[j]?=some oj) (hap:oi.apart ops oj=true) {K:List D->Prop}
  (hy:YsIn al P ops σ oi d a) (h:aOp al P ops σ j K (putD a oi.dst d)):aOp al P ops σ j (fun a'=>YsIn al P ops σ oi d a'/\K (putD a' oi.dst d)) a:=by
 obtain⟨h1,h2,h3⟩:=Oper.apart_spec hap;unfold aOp at *;simp only [hj] at *;rw [aM8 h1] at h;rcases h with ⟨k1,k2,e,k3,k4⟩|⟨k1,k2⟩
 ·refine .inl ⟨k1,k2,e,k3.congr (fun x hx=>(bl6 fun i hi=>ax3 (h1 i hi) x hx).symm),hy.put h3,?_⟩;rw [← aE4 a d e h2];exact k4
 ·refine .inr ⟨k1,hy.put h3,?_⟩;rw [← aE4 a d _ h2];exact k2
variable {md:Region.Mode}
def bm5 (al:Option (Nat × TypeId)) (P:Program) (md:Region.Mode) (ops:Array Oper) (σ:aa1) (m:Nat) (L:Array Bool->List D->Prop):Nat->Array Bool->List D->Prop
 | 0,listed,a=>L listed a
 | f+1,listed,a=>Region.ready md ops listed≠[]/\∀ i∈Region.ready md ops listed,i<m/\aOp al P ops σ i (bm5 al P md ops σ m L f (listed.setIfInBounds i true)) a
theorem aR7 {m i:Nat} {oi:Oper} {d:D} {L:Array Bool->List D->Prop} (hi:ops[i]?=some oi)
  (hwt:∀ listed,HeadInv md ops m listed->listed.getD i true=false->∀ t,m<=t->t ∉ Region.ready md ops listed) (hin:i<m)
  (hdone:∀ listed a,L listed a->∀ j∈Region.ready md ops listed,m<=j) :
  ∀ (f:Nat) (listed:Array Bool) (a:List D),HeadInv md ops m listed ->
   (∀ j oj,ops[j]?=some oj->j≠i->listed.getD j true=false->(∀ e∈oj.after,Region.binds md e=true->e.on≠i)->oi.apart ops oj=true) ->
   i∈Region.ready md ops listed->YsIn al P ops σ oi d a ->
   bm5 al P md ops σ m L f (listed.setIfInBounds i true) (putD a oi.dst d)->bm5 al P md ops σ m L (f+1) listed a:=by
 intro f
 induction f with
 | zero=>
  intro listed a inv _ hr hy H;have hun:=(mem_ready.1 hr).1;refine⟨fun h=>(by rw [h] at hr;cases hr),fun j hj=>?_⟩;have hjn:j<m:=Nat.lt_of_not_le fun h=>hwt listed inv hun j h hj;refine⟨hjn,?_⟩;by_cases hji:j=i
  ·subst hji;exact hy.aOp hi H
  ·have:=hdone _ _ H j (ready_mono hj hji);omega
 | succ f ih=>
  intro listed a inv hfree hr hy H;have hun:=(mem_ready.1 hr).1;refine⟨fun h=>(by rw [h] at hr;cases hr),fun j hj=>?_⟩;have hjn:j<m:=Nat.lt_of_not_le fun h=>hwt listed inv hun j h hj;refine⟨hjn,?_⟩;by_cases hji:j=i
  ·subst hji;exact hy.aOp hi H
  ·obtain⟨hjun,oj,hoj,hall⟩:=mem_ready.1 hj;have hnot:∀ e∈oj.after,Region.binds md e=true->e.on≠i:=fun e he hb heq=>by
    have h1:=hall e he hb;rw [heq,getD_both hun] at h1
    cases h1
   have h2:=ci5 hoj (hfree j oj hoj hji hjun hnot) hy (H.2 j (ready_mono hj hji)).2;refine bT6 (fun a' h3=>ih (listed.setIfInBounds j true) a' (inv.set hj hjn) (fun k ok hk hki hunk hno=>hfree k ok hk hki ?_ hno) (ready_mono hr (Ne.symm hji)) h3.1 ?_) h2
   ·by_cases hjk:j=k
    ·subst hjk;exact hjun
    ·rw [getD_set_ne true hjk] at hunk;exact hunk
   ·rw [Array.setIfInBounds_comm _ _ hji];exact h3.2
def aD4 (al:Option (Nat × TypeId)) (P:Program) (ops:Array Oper) (σ:aa1) (L:List D->Prop):List Oper->List D->Prop
 | [],a=>L a
 | o::rest,a=>(ap1 ops a o=some true/\aj0 o.op=true/\∃ d,Hd al P o (evD a) σ d/\aD4 al P ops σ L rest (putD a o.dst d))\/(ap1 ops a o=some false/\aD4 al P ops σ L rest (putD a o.dst (.v undef)))
structure ALex (P:Program) (ops:Array Oper) (σ:aa1) (L:List D->Prop) (l:List Oper) (a:List D):Prop where
 run:aD4 none P ops σ L l a
def zJ:=@Bool.and_eq_true
def vQ:=@Nat.add_assoc
theorem aR6 {m g:Nat} {Lq:List D->Prop} (hwt:∀ i listed,i<m->HeadInv md ops m listed->listed.getD i true=false->∀ t,m<=t->t ∉ Region.ready md ops listed) :
  ∀ (l:List Oper) (k:Nat) (listed:Array Bool) (a:List D),(∀ j,j<l.length->l[j]?=ops[k+j]?)->k+l.length=m->HeadInv md ops m listed ->
  Region.lexHead md ops g l.length k listed=true->aD4 al P ops σ Lq l a ->
  bm5 al P md ops σ m (fun listed' a'=>Region.seqB md ops g m listed'=true/\Lq a') l.length listed a
 | [],k,listed,a,_,hk,_,hB,h=>by
  obtain rfl:k=m:=by simpa using hk
  exact⟨by simpa [Region.lexHead] using hB,h⟩
 | o::l,k,listed,a,hl,hk,inv,hB,h=>by
  have h0:ops[k]?=some o:=by simpa using (hl 0 (by simp)).symm
  simp only [List.length_cons,Region.lexHead,zJ] at hB hk;obtain⟨⟨hr,hf⟩,hB'⟩:=hB;have hr':k∈Region.ready md ops listed:=by simpa using hr
  have hst:aOp al P ops σ k (aD4 al P ops σ Lq l) a:=by unfold aOp;simp only [h0];exact h
  obtain⟨d,hy,hK⟩:=aM5 h0 hst;exact aR7 h0 (fun ls i1 i2=>hwt k ls (by omega) i1 i2) (by omega) (fun listed' a' hL=>seqB_ready hL.1) l.length listed a inv (Region.free_spec h0 hf) hr' hy
   (aR6 hwt l (k+1) _ _ (fun j hj=>by have:=hl (j+1) (by simp;omega);simpa [vQ,Nat.add_comm 1 j] using this) (by omega) (inv.set hr' (by omega)) hB' hK)
def zQ:=@decide_eq_true_eq
theorem au6 {F:Fence} {Q':Exit->Act->World->Prop}:∀ (l:List Oper) (k:Nat) (listed:Array Bool) (fr:Act) (w:World),(∀ j,l[j]?=ops[k+j]?) ->
  Region.seqB md ops l.length k listed=true->wpListIn F n P ops Q' l fr w->wpAnyIn F n P md ops Q' l.length listed fr w
 | [],_,_,_,_,_,hB,h=>⟨by simpa [Region.seqB] using hB,h⟩
 | o::l,k,listed,fr,w,hl,hB,h=>by
  have h0:ops[k]?=some o:=by simpa using (hl 0).symm
  simp only [List.length_cons,Region.seqB,zJ,zQ] at hB;refine⟨fun h1=>(by rw [hB.1] at h1;cases h1),fun i hi=>?_⟩;rw [hB.1] at hi;have hik:i=k:=by simpa using hi
  subst hik;have hw:wpOpIn F n P ops Q' i (wpListIn F n P ops Q' l) fr w:=by unfold wpOpIn;simp only [h0];exact h
  exact wpOpIn_mono (fun a' w' h'=>au6 l (i+1) _ a' w' (fun j=>by have:=hl (j+1);simpa [vQ,Nat.add_comm 1 j] using this) hB.2 h') hw
def xD:=@Nat.zero_add
theorem ao0 {m g:Nat} {L:Array Bool->List D->Prop} {Q':Exit->Act->World->Prop} {X:Nat->Prop} {w0:World}
  (hL:∀ listed a fr w,Ex w0 w->St w X df a σ fr->L listed a->wpAnyIn (FW r) n P md ops Q' g listed fr w) :
  ∀ (f:Nat) (listed:Array Bool) (a:List D) (fr:Act) (w:World),Ex w0 w->St w X df a σ fr->bm5 none P md ops σ m L f listed a->wpAnyIn (FW r) n P md ops Q' (f+g) listed fr w
 | 0,listed,a,fr,w,hx,hs,h=>by rw [xD];exact hL _ _ _ _ hx hs h
 | f+1,listed,a,fr,w,hx,hs,h=>by
  rw [show f+1+g=(f+g)+1 by omega];refine⟨fun h0=>absurd h0 h.1,fun i hi=>?_⟩;have h2:=(h.2 i hi).2;unfold aOp at h2;unfold wpOpIn;split
  ·rename_i ho;simp only [ho] at h2;exact ao0 hL f _ a fr w hx hs h2
  ·rename_i o ho;simp only [ho] at h2;rcases h2 with ⟨k1,k2,d,k3,k4⟩|⟨k1,k2⟩
   ·rw [if_pos (by rw [aq7 hs.fr k1])];refine⟨bf7 o w _,?_⟩;rw [show (FW r).round=r from rfl,ax0 k2];have h1:=k3.yd w X fr.eval (fun x _=>hs.fr.eval x) hs.st;generalize (execOp fr.eval o).run P w=res at h1
    cases res with
    | ok x w'=>
     cases x<;>simp only [YU] at h1
     case value u=>exact ao0 hL f _ _ _ _ (hx.trans h1.1) ((hs.ex h1.1).put h1.2 o.dst) k4
     case enter fn args=>
      obtain⟨rfl,hc⟩:=h1;refine⟨fun hd=>by simp [FW,Fence.wide] at hd,?_⟩;have hc':CallsIn Fence.wide (n-1) P fn args w' _:=callsIn_wide.2 hc;have:CallsIn (FW r) (n-1) P fn args w' _:=hc';refine this.mono fun e w'' he=>?_;obtain⟨u,rfl,hx2,hr2⟩:=he;exact ao0 hL f _ _ _ _ (hx.trans hx2) ((hs.ex hx2).put hr2 o.dst) k4
    | halt x w'=>simp only [YU] at h1
   ·rw [if_neg (by rw [aq7 hs.fr k1];simp)];exact⟨bf7 o w _,ao0 hL f _ _ _ _ hx (hs.put (.v _) o.dst) k2⟩
theorem aB1 (w:World):Ex w { w with drawn:=w.drawn+1 }:=(Ex.refl w).drew
def xR:=@List.getElem?_drop
theorem bb6 {id:Nat} {l:List Oper} (m:Nat) (hm:P.follows .mixedOrders=true) (hB:Region.lexTailB .any l.toArray m=true)
  (h:ALex P l.toArray σ (fun a'=>AOps P r n df l.toArray Q (l.drop m) a' σ) (l.take m) a):AWP P r n df (.region id l.toArray true) Q a σ:=by
 refine⟨fun w X fr hs=>?_⟩;simp only [Region.lexTailB,zJ,zQ] at hB;obtain⟨⟨⟨⟨hsel,hn⟩,hsk⟩,hc⟩,hlex⟩:=hB;have hn':m<l.length:=by simpa using hn
 have htl:(l.take m).length=m:=by simp;omega
 have hdl:(l.drop m).length=l.toArray.size-m:=by simp
 have inv0:HeadInv .any l.toArray m (Array.replicate l.toArray.size false):=
  ⟨by simp,fun j oj _ hl=>(by rw [getD_replicate_false] at hl;cases hl),fun t _ ht=>getD_in (by simpa using ht) (getD_replicate_false _ _)⟩
 have H:=aR6 (md:=.any) (g:=l.toArray.size-m) (fun i ls hi i1 i2=>tail_waits hsk hc hn i1 _ i rfl hi i2) (l.take m) 0 _ a (fun j hj=>by
  have hj':j<m:=by rw [htl] at hj;exact hj
  simp [hj']) (by simpa using htl) inv0 (by rw [htl];exact hlex) h.run
 refine wpIn_region_any hm ?_;have hx0:=aB1 w;have:=ao0 (r:=r) (n:=n) (df:=df) (Q':=Pw w X df σ Q) (g:=l.toArray.size-m) (X:=X) (w0:={ w with drawn:=w.drawn+1 }) (fun listed a' fr' w' hx' hs' hL=>by
  have:=au6 (md:=.any) (Q':=Pw w X df σ Q) (l.drop m) m listed fr' w' (fun j=>by simp [xR]) (by rw [hdl];exact hL.1)
   (ah9 (fun e a w'' hp=>pA3 (pA2 (hx0.trans hx')) hp) _ _ _ (hL.2.run w' X fr' hs'))
  rwa [hdl] at this) _ _ _ fr _ (Ex.refl _) (hs.ex hx0) H
 rw [htl,show m+(l.toArray.size-m)=l.toArray.size by omega] at this;exact this
theorem au3:∀ (f k:Nat) (listed:Array Bool),Region.lexFrom md ops f k listed=true->Region.lexHead md ops 0 f k listed=true
 | 0,k,listed,h=>h
 | f+1,k,listed,h=>by
  simp only [Region.lexFrom,Region.lexHead,zJ] at h ⊢;exact⟨h.1,au3 f (k+1) _ h.2⟩
theorem bS1 {id:Nat} {l:List Oper} (hm:P.follows .mixedOrders=true) (hB:Region.lexB .any l.toArray=true)
  (h:ALex P l.toArray σ (fun a'=>Q .normal a' σ) l a):AWP P r n df (.region id l.toArray true) Q a σ:=by
 refine⟨fun w X fr hs=>?_⟩;simp only [Region.lexB,zJ] at hB;have inv0:HeadInv .any l.toArray l.toArray.size (Array.replicate l.toArray.size false):=
  ⟨by simp,fun j oj _ hl=>(by rw [getD_replicate_false] at hl;cases hl),fun t _ ht=>getD_in (by simpa using ht) (getD_replicate_false _ _)⟩
 have H:=aR6 (md:=.any) (m:=l.toArray.size) (g:=0) (fun i ls hi i1 i2 t ht hr=>by
   obtain⟨_,o,ho,_⟩:=mem_ready.1 hr;have:=(zX.1 ho).1;omega) l 0 _ a (fun j hj=>by simp) (by simp) inv0 (au3 _ _ _ (by simpa using hB.2)) h.run
 refine wpIn_region_any hm ?_;have hx0:=aB1 w;have:=ao0 (r:=r) (n:=n) (df:=df) (Q':=Pw w X df σ Q) (g:=0) (X:=X) (w0:={ w with drawn:=w.drawn+1 }) (fun listed a' fr' w' hx' hs' hL=>
  ⟨by simpa [Region.seqB] using hL.1,a',σ,hL.2,hs',pA2 (hx0.trans hx')⟩) _ _ _ fr _ (Ex.refl _) (hs.ex hx0) H
 rw [show l.length+0=l.toArray.size by simp] at this;exact this
end
end
section
open Go Go.RowKit Go.Shelf
inductive ZV where
 | int (k:IntKind)|bool|str|ptr|sl|map|fn|ifc
 deriving DecidableEq
def zv:ZV->Value
 | .int k=>.int k 0 | .bool=>.bool false | .str=>.string ⟨#[]⟩ | .ptr=>.pointer none | .sl=>.slice none 0 0 | .map=>.map none | .fn=>.nilFunc | .ifc=>.nilIface
def zvOf:Value->Option ZV
 | .int k n=>if n=0 then some (.int k) else none
 | .bool b=>if b=false then some .bool else none
 | .string s=>if s.data.size=0 then some .str else none
 | .pointer none=>some .ptr
 | .slice none 0 0=>some .sl
 | .map none=>some .map
 | .nilFunc=>some .fn
 | .nilIface=>some .ifc
 | _=>none
theorem bY6 {v:Value} {z:ZV} (h:zvOf v=some z):v=zv z:=by
 unfold zvOf at h;split at h<;>(try (split at h))<;>(try cases h)<;>first
  | (rename_i h0;subst h0;rfl)
  | (rename_i s h0;cases s;simp at h0;subst h0;rfl)
  | rfl
  | skip
structure TI where
 agg:Bool
 size:Nat
 fs:List (Nat × Bool × Nat):=[]
 sl:Option (Nat × Bool × Nat × Nat):=none
 arr:Option (Nat × Bool × Nat):=none
 zero:List ZV:=[]
 str:Bool:=false
 deriving DecidableEq
def bG4:TypeDesc->Bool
 | .struct _ | .array _ _=>true
 | _=>false
def szOf (P:Program) (t:TypeId):Option (Bool × Nat):=
 match P.info? t,P.underlying t with
 | some i,some u=>some (bG4 u,i.size)
 | _,_=>none
def tiOf (P:Program) (t:TypeId):Option TI:=
 match P.info? t,P.underlying t with
 | some i,some u=>some {
   agg:=bG4 u,size:=i.size,
   fs:=match u with | .struct fs=>(fs.toList.mapM fun f=>(szOf P f.type).map fun s=>(f.offset,s.1,s.2)).getD [] | _=>[],
   sl:=match u with | .slice e=>(szOf P e).map fun s=>(e,s.1,s.2,P.bytesOf e) | _=>none,
   arr:=match u with | .array n e=>(szOf P e).map fun s=>(n,s.1,s.2) | _=>none,
   zero:=(i.zero.bind fun v=>v.cells.toList.mapM zvOf).getD [],
   str:=match u with | .string=>true | _=>false }
 | _,_=>none
theorem as9 {P:Program} {t:TypeId} {i:TI} (h:tiOf P t=some i):∃ inf u,P.info? t=some inf/\P.underlying t=some u/\i.agg=bG4 u/\i.size=inf.size /\
  i.fs=(match u with | .struct fs=>(fs.toList.mapM fun f=>(szOf P f.type).map fun s=>(f.offset,s.1,s.2)).getD [] | _=>[]) /\
  i.sl=(match u with | .slice e=>(szOf P e).map fun s=>(e,s.1,s.2,P.bytesOf e) | _=>none) /\
  i.arr=(match u with | .array n e=>(szOf P e).map fun s=>(n,s.1,s.2) | _=>none) /\
  i.zero=(inf.zero.bind fun v=>v.cells.toList.mapM zvOf).getD []/\i.str=(match u with | .string=>true | _=>false):=by
 unfold tiOf at h;split at h
 ·rename_i inf u h1 h2
  cases h
  exact⟨inf,u,h1,h2,rfl,rfl,rfl,rfl,rfl,rfl,rfl⟩
 ·cases h
theorem aq0 {P:Program} {t:TypeId} {b:Bool} {n:Nat} (h:szOf P t=some (b,n)) (w:World):(isAgg t).run P w = .ok b w/\(sizeOf t).run P w = .ok n w:=by
 unfold szOf at h;split at h
 ·rename_i i u h1 h2
  cases h
  refine⟨?_,by simp [sizeOf,typeInfo,program,Sem.run,h1]⟩;simp only [isAgg,Sem.run_bind,run_underlying h2,Result.andThen]
  cases u<;>rfl
 ·cases h
theorem aT1 {P:Program} {t:TypeId} {i:TI} (h:tiOf P t=some i) (w:World):(isAgg t).run P w = .ok i.agg w/\(sizeOf t).run P w = .ok i.size w:=by
 obtain⟨inf,u,h1,h2,h3,h4,_⟩:=as9 h;exact aq0 (by simp [szOf,h1,h2,h3,h4]) w
theorem as5 (b off n:Nat):(⟨b,off,none⟩:Addr).add n=⟨b,off+n,none⟩:=by
 unfold Addr.add;split
 ·rename_i h;subst h;rfl
 ·rfl
section
variable {P:Program} {σ:aa1} {w:World} {X:Nat->Prop}
def bT4:D->D->D->Option (Prop × D)
 | .v (.bool true),x,_=>some (True,x)
 | .v (.bool false),_,y=>some (True,y)
 | _,_,_=>none
def aBox:D->Option (Prop × D)
 | .any=>none
 | d=>some (True,.ro (ag3 d))
def aNil:D->Option (Prop × D)
 | .ro cs=>some (True,.ro cs)
 | .clo f cs=>some (True,.clo f cs)
 | .v (.pointer (some a))=>some (True,.v (.pointer (some a)))
 | .v (.func (.func f) x y)=>some (True,.v (.func (.func f) x y))
 | _=>none
structure InR (n:Int):Prop where
 lo:-9223372036854775808<=n
 hi:n<=9223372036854775807
def vBin:BinOp->Value->Value->Option (Prop × Value)
 | .add,.int .i64 x,.int .i64 y=>some (InR (x+y),.int .i64 (x+y))
 | .sub,.int .i64 x,.int .i64 y=>some (InR (x-y),.int .i64 (x-y))
 | .mul,.int .i64 x,.int .i64 y=>some (InR (x*y),.int .i64 (x*y))
 | .lss,.int .i64 x,.int .i64 y=>some (True,.bool (decide (x<y)))
 | .leq,.int .i64 x,.int .i64 y=>some (True,.bool (decide (x<=y)))
 | .gtr,.int .i64 x,.int .i64 y=>some (True,.bool (decide (y<x)))
 | .geq,.int .i64 x,.int .i64 y=>some (True,.bool (decide (y<=x)))
 | .eql,.int .i64 x,.int .i64 y=>some (True,.bool (decide (x=y)))
 | .neq,.int .i64 x,.int .i64 y=>some (True,.bool (!decide (x=y)))
 | .lss,.int .u8 x,.int .u8 y=>some (True,.bool (decide (x<y)))
 | .leq,.int .u8 x,.int .u8 y=>some (True,.bool (decide (x<=y)))
 | .gtr,.int .u8 x,.int .u8 y=>some (True,.bool (decide (y<x)))
 | .geq,.int .u8 x,.int .u8 y=>some (True,.bool (decide (y<=x)))
 | .eql,.int .u8 x,.int .u8 y=>some (True,.bool (decide (x=y)))
 | .neq,.int .u8 x,.int .u8 y=>some (True,.bool (!decide (x=y)))
 | .gtr,.int .u64 x,.int .u64 y=>some (True,.bool (decide (y<x)))
 | .rem,.int .i64 x,.int .i64 y=>some (y≠0,.int .i64 (x.tmod y))
 | .quo,.int .i64 x,.int .i64 y=>some (y≠0/\InR (x.tdiv y),.int .i64 (x.tdiv y))
 | .eql,.string x,.string y=>some (True,.bool (x.toList==y.toList))
 | .neq,.string x,.string y=>some (True,.bool (!(x.toList==y.toList)))
 | .add,.string x,.string y=>some (x.size+y.size<=9223372036854775807,.string (x++y))
 | _,_,_=>none
def aBin (b:BinOp):D->D->Option (Prop × D)
 | .v x,.v y=>(vBin b x y).map fun p=>(p.1,.v p.2)
 | _,_=>none
def vUn:UnOp->Value->Option (Prop × Value)
 | .not,.bool b=>some (True,.bool (!b))
 | .neg,.int .i64 n=>some (InR (-n),.int .i64 (-n))
 | _,_=>none
def aUn (u:UnOp):D->Option (Prop × D)
 | .v x=>(vUn u x).map fun p=>(p.1,.v p.2)
 | _=>none
def mkD (agg:Bool) (cs:List D):D:=bif agg then .agg cs else cs.headD .any
def bT8:Option TI->D->Option (Prop × D)
 | some i,.ro cs=>bif Nat.ble i.size cs.length&&(i.agg||i.size==1) then some (True,mkD i.agg (cs.take i.size)) else none
 | _,_=>none
def aG2:Option TI->Nat->D->Option (Prop × D)
 | some i,f,.ro cs=>match i.fs[f]? with
  | some (off,_,n)=>bif Nat.ble off cs.length && !(n==0) then some (True,.ro (cs.drop off)) else none
  | none=>none
 | some i,f,.v (.pointer (some ⟨b,o,none⟩))=>match i.fs[f]? with
  | some (off,_,n)=>bif !(n==0) then some (True,.v (.pointer (some ⟨b,o+off,none⟩))) else none
  | none=>none
 | _,_,_=>none
def bm4:Option TI->Nat->D->Option (Prop × D)
 | some i,f,.agg cs=>match i.fs[f]? with
  | some (off,ag,n)=>bif Nat.ble (off+n) cs.length&&(ag||n==1) then some (True,mkD ag ((cs.drop off).take n)) else none
  | none=>none
 | _,_,_=>none
def aExt:Nat->D->Option (Prop × D)
 | i,.tup ds=>match ds[i]? with|some d=>some (True,d)|none=>none
 | i,.v (.tuple vs)=>match vs[i]? with|some d=>some (True,.v d)|none=>none
 | _,_=>none
def aLen:Option TI->D->Option (Prop × D)
 | some i,.sl _ xs=>bif i.sl.isSome then some (True,.v (.int .i64 xs.length)) else none
 | some i,.v (.slice _ n _)=>bif i.sl.isSome then some (True,.v (.int .i64 n)) else none
 | some i,.v (.string s)=>bif i.str then some (True,.v (.int .i64 s.size)) else none
 | _,_=>none
def aIdx:Option TI->D->D->Option (Prop × D)
 | some i,.ro cs,.v (.int _ (.ofNat j))=>match i.arr with
  | some (n,_,k)=>bif Nat.blt j n&&Nat.ble (j*k) cs.length then some (True,.ro (cs.drop (j*k))) else none
  | none=>none
 | some i,.v (.slice (some ⟨b,off,none⟩) n _),.v (.int _ j)=>match i.sl with
  | some (_,_,k,_)=>some (0<=j/\j<n,.v (.pointer (some ⟨b,off+j.toNat*k,none⟩)))
  | none=>none
 | _,_,_=>none
def ci8 (T:TypeId->Option TI) (c:Call) (ρ:Operand->D):Option (Prop × D):=
 match c.callee,c.args.toList,c.argTypes.toList with
 | .builtin .len,[x],[t]=>aLen (T t) (ρ x)
 | _,_,_=>none
def aop (T:TypeId->Option TI) (op:Op) (ρ:Operand->D):Option (Prop × D):=
 match op with
 | .move x=>some (True,ρ x)
 | .assign x=>some (True,ρ x)
 | .pick c x y=>bT4 (ρ c) (ρ x) (ρ y)
 | .box _ x=>aBox (ρ x)
 | .nilCheck x=>aNil (ρ x)
 | .binOp b _ x y _=>aBin b (ρ x) (ρ y)
 | .unOp u _ x=>aUn u (ρ x)
 | .load t x=>bT8 (T t) (ρ x)
 | .fieldAddr s x f=>aG2 (T s) f (ρ x)
 | .field s x f=>bm4 (T s) f (ρ x)
 | .extract x i=>aExt i (ρ x)
 | .indexAddr t x i=>aIdx (T t) (ρ x) (ρ i)
 | .call c=>ci8 T c ρ
 | _=>none
theorem aP2 (hst:StOK w X σ) {b:Nat} (hb:w.heap.size<=b):¬ Own σ X b:=fun h=>by have:=hst.own_lt h;omega
theorem cm7 (hst:StOK w X σ) {d:D} {u:Value} (h:Rd w (Own σ X) d u) (hne:d ≠ .any) (t:TypeId):Rd (w.alloc (.cells u.cells t)) (Own σ X) (.ro (ag3 d)) (.pointer (some ⟨w.heap.size,0,none⟩)):=by
 have hc:=(h.ex ((Ex.refl w).alloc (o:=.cells u.cells t))).cells hne;refine .ro _ _ _ (fun j=>u.cells.toList.getD j undef) (aP2 hst (zT _)) (by simp) (fun j hj=>?_) (fun j d' hd'=>?_)
 ·have hlt:j<u.cells.toList.length:=by rw [hc.len];exact hj
  rw [xD,World.cell?_alloc_new];have hlt':j<u.cells.size:=by simpa using hlt
  simp [hlt']
 ·obtain⟨u',h1,h2⟩:=hc.get hd';simp only [List.getD_eq_getElem?_getD,h1];exact h2
theorem bi0 {n:Int} (h:InR n):IntKind.i64.wrap n=n:=IntWalk.i64_in _ ⟨h.lo,h.hi⟩
theorem bZ7 {b:BinOp} {x y:Value} {s:Prop} {u:Value} (h:vBin b x y=some (s,u)) (hs:s) (t:TypeId) (p q:Operand) (w:World) :
  (do eqGuard b t p q x y;binOp b t x y).run P w = .ok u w:=by
 unfold vBin at h;split at h<;>cases h<;>first
  | rfl
  | (simp [eqGuard,binOp,Op.intArith,bi0 hs];done)
  | (simp [eqGuard,binOp,Op.intCmp];done)
  | (simp [eqGuard,binOp,Op.intDiv,hs];done)
  | (simp [eqGuard,binOp,Op.intDiv,hs.1,bi0 hs.2];done)
  | (simp [eqGuard,binOp,Op.stringOp];done)
  | (show (Op.stringOp .add _ _).run P w=_;simp only [Op.stringOp];rw [if_neg (by rw [show IntKind.i64.max=9223372036854775807 from rfl];omega)];rfl)
theorem ck5 {b:UnOp} {x:Value} {s:Prop} {u:Value} (h:vUn b x=some (s,u)) (hs:s) (w:World):(Op.unary b x).run P w = .ok u w:=by
 unfold vUn at h;split at h<;>cases h
 ·simp [Op.unary]
 ·simp only [Op.unary,Op.intArith,Int.zero_sub,bi0 hs];rfl
theorem az0 {t:TypeId} {n b off:Nat} {f:Nat->Value} (h1:(isAgg t).run P w = .ok true w) (h2:(sizeOf t).run P w = .ok n w) (hc:∀ j,j<n->w.cell? ⟨b,off+j,none⟩=some (f j)) :
  (Instr.loadAt t (.pointer (some ⟨b,off,none⟩))).run P w = .ok (.agg ((List.range n).map f).toArray) w:=by
 have:=run_loadCells (P:=P) (w:=w) ⟨b,off,none⟩ n f (fun j hj=>by rw [as5];exact hc j hj);simp [Instr.loadAt,Instr.sureAddr,loadVar,h1,h2,this,Result.andThen]
theorem au1 {t:TypeId} {b off:Nat} {v:Value} (h1:(isAgg t).run P w = .ok false w) (hc:w.cell? ⟨b,off,none⟩=some v) :
  (Instr.loadAt t (.pointer (some ⟨b,off,none⟩))).run P w = .ok v w:=by
 simp [Instr.loadAt,Instr.sureAddr,loadVar,h1,Result.andThen,load,Sem.run,hc]
end
end
end Go.Proofs.YtlcfiilejnnlnaaGreatDoor
