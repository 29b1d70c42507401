/- A part of the proof: Rep Map Gb D. -/
import Derived.WalkKit
import Derived.Lib.Hide
import Derived.Deep.Draws
import Derived.Maps.OwnSet
import Derived.Test.YtjbbmjjildhfbaaGreatDoorProg
import Derived.Lib.LaidTab
import Derived.Lib.ItoaLen
import Derived.Sort.LoopGhostIn
import Derived.OrdersIn
import Derived.TacticsInMore
set_option maxRecDepth 100000
set_option maxHeartbeats 4000000
set_option linter.unusedVariables false
set_option linter.unusedSimpArgs false
namespace Go.Proofs.YtjbbmjjildhfbaaGreatDoor
/-- A proof, set aside. -/
structure Hd7 (B : Prop) : Prop where
  run : B
end Go.Proofs.YtjbbmjjildhfbaaGreatDoor
namespace Go.Proofs.YtjbbmjjildhfbaaGreatDoor
section
open Go.RowKit
structure Keep (S:Nat→Prop) (w w':World):Prop where
 os:w'.os=w.os
 tape:w'.tape=w.tape
 output:w'.output=w.output
 size:w.heap.size≤w'.heap.size
 block:∀ b,b<w.heap.size→¬ S b→w'.heap[b]?=w.heap[b]?
theorem Keep.refl (S:Nat→Prop) (w:World):Keep S w w:=⟨rfl,rfl,rfl,Nat.le_refl _,fun _ _ _=>rfl⟩
theorem Keep.trans {S:Nat→Prop} {a b c:World} (h:Keep S a b) (k:Keep S b c):Keep S a c:=
 ⟨k.os.trans h.os,k.tape.trans h.tape,k.output.trans h.output,Nat.le_trans h.size k.size,
  fun i hi hs=>(k.block i (Nat.lt_of_lt_of_le hi h.size) hs).trans (h.block i hi hs)⟩
theorem Keep.mono {S S':Nat→Prop} {w w':World} (h:Keep S w w') (hs:∀ b,b<w.heap.size→S b→S' b):Keep S' w w':=
 ⟨h.os,h.tape,h.output,h.size,fun b hb hn=>h.block b hb (fun hS=>hn (hs b hb hS))⟩
theorem Keep.drew {S:Nat→Prop} {a w:World} (h:Keep S a w):Keep S a w.drew:=⟨h.os,h.tape,h.output,h.size,h.block⟩
theorem Keep.drewN {S:Nat→Prop} {a w:World} {n:Nat} (h:Keep S a w):Keep S a (w.drewN n):=⟨h.os,h.tape,h.output,h.size,h.block⟩
theorem Keep.alloc {S:Nat→Prop} {a w:World} (h:Keep S a w) (o:Obj):Keep S a (w.alloc o):=
 ⟨h.os,h.tape,h.output,by simp;have:=h.size;omega,fun b hb hn=>(Below.heap_alloc w o b (Nat.lt_of_lt_of_le hb h.size)).trans (h.block b hb hn)⟩
theorem Keep.setCell {S:Nat→Prop} {a w:World} (h:Keep S a w) {p:Addr} (hp:a.heap.size≤p.block∨S p.block) (v:Value):Keep S a (w.setCell p v):=
 ⟨h.os,h.tape,h.output,by simp;exact h.size,fun b hb hn=>(Below.heap_setCell w p v b (by
  intro e;subst e;rcases hp with hp|hp
  ·omega
  ·exact hn hp)).trans (h.block b hb hn)⟩
theorem Keep.grown {S:Nat→Prop} {a w w':World} {row:Option Nat} (h:Keep S a w) (hg:w.grownBy w' row) (hr:∀ k,row=some k→a.heap.size≤k∨S k):Keep S a w':=
 ⟨hg.os.trans h.os,hg.tape.trans h.tape,hg.output.trans h.output,Nat.le_trans h.size hg.size,fun b hb hn=>
  (hg.block b (Nat.lt_of_lt_of_le hb h.size) (fun e=>by
   rcases hr b e.symm with h' | h'
   ·omega
   ·exact hn h')).trans (h.block b hb hn)⟩
theorem Keep.cell {S:Nat→Prop} {w w':World} (h:Keep S w w') {p:Addr} {v:Value} (hc:w.cell? p=some v) (hp:¬ S p.block):w'.cell? p=some v:=
 (World.cell?_of_block (w:=w) (h.block p.block (World.block_lt_of_cell? w p hc) hp)).trans hc
def Ex (w w':World):Prop:=Keep (fun _=>False) w w'
theorem Ex.refl (w:World):Ex w w:=Keep.refl _ _
theorem Ex.trans {a b c:World} (h:Ex a b) (k:Ex b c):Ex a c:=Keep.trans h k
theorem Ex.drew {a w:World} (h:Ex a w):Ex a w.drew:=Keep.drew h
theorem Ex.drewN {a w:World} {n:Nat} (h:Ex a w):Ex a (w.drewN n):=Keep.drewN h
theorem Ex.alloc {a w:World} {o:Obj} (h:Ex a w):Ex a (w.alloc o):=Keep.alloc h o
theorem Ex.setCell {a w:World} (h:Ex a w) {p:Addr} (hp:a.heap.size≤p.block) (v:Value):Ex a (w.setCell p v):=Keep.setCell h (Or.inl hp) v
theorem Ex.grown {a w w':World} {row:Option Nat} (h:Ex a w) (hg:w.grownBy w' row) (hr:∀ k,row=some k→a.heap.size≤k):Ex a w':=Keep.grown h hg (fun k e=>Or.inl (hr k e))
theorem Ex.size {w w':World} (h:Ex w w'):w.heap.size≤w'.heap.size:=Keep.size h
theorem Ex.cell {w w':World} (h:Ex w w') {p:Addr} {v:Value} (hc:w.cell? p=some v):w'.cell? p=some v:=Keep.cell h hc (fun x=>x)
theorem Ex.block {w w':World} (h:Ex w w') (b:Nat) (hb:b<w.heap.size):w'.heap[b]?=w.heap[b]?:=Keep.block h b hb (fun x=>x)
theorem Ex.below {w w':World} (h:Ex w w'):Below w.heap.size w w':=⟨Keep.os h,Keep.tape h,Keep.output h,Keep.size h,fun k hk=>Ex.block h k hk⟩
theorem Ex.of_below {w w':World} (h:Below w.heap.size w w'):Ex w w':=⟨h.os,h.tape,h.output,h.size,fun k hk _=>h.block k hk⟩
theorem Ex.frozen {w w':World} (h:Ex w w') {p:Addr} (hp:p.block<w.heap.size):w'.frozen? p=w.frozen? p:=World.frozen?_of_block (w:=w) (Ex.block h p.block hp)
theorem Ex.keep {S:Nat→Prop} {w w':World} (h:Ex w w'):Keep S w w':=Keep.mono h (fun _ _ h=>h.elim)
theorem Ex.rules {w w':World} (h:Ex w w'):(∀ b o,b<w.heap.size→w'.cell? ⟨b,o,none⟩=w.cell? ⟨b,o,none⟩)∧(∀ b o,b<w.heap.size→w'.frozen? ⟨b,o,none⟩=w.frozen? ⟨b,o,none⟩):=
 ⟨fun b o hb=>World.cell?_of_block (w:=w) (a:=⟨b,o,none⟩) (Ex.block h b hb),fun b o hb=>World.frozen?_of_block (w:=w) (a:=⟨b,o,none⟩) (Ex.block h b hb)⟩
def I64 (n:Int):Prop:=-9223372036854775808≤n∧n≤9223372036854775807
structure Row {α:Type} (k:Nat) (R:α→List Value→Prop) (w:World) (F:Nat→Prop) (xs:List α) (a:Option Addr) (cap:Nat):Prop where
 le:xs.length≤cap
 at_:∀ i x,xs[i]?=some x→∃ b off,a=some ⟨b,off,none⟩∧F b∧∃ vs:List Value,vs.length=k∧R x vs∧∀ j v,vs[j]?=some v→w.cell? ⟨b,off+i*k+j,none⟩=some v
def Same (F:Nat→Prop) (w w':World):Prop:=∀ b,F b→b<w.heap.size→w'.heap[b]?=w.heap[b]?
theorem Ex.same {F:Nat→Prop} {w w':World} (h:Ex w w'):Same F w w':=fun b _ hb=>Ex.block h b hb
theorem Keep.same {F S:Nat→Prop} {w w':World} (h:Keep S w w') (hd:∀ b,F b→¬ S b):Same F w w':=fun b hf hb=>h.block b hb (hd b hf)
theorem Same.cell {F:Nat→Prop} {w w':World} (h:Same F w w') {p:Addr} {v:Value} (hc:w.cell? p=some v) (hp:F p.block):w'.cell? p=some v:=
 (World.cell?_of_block (w:=w) (h p.block hp (World.block_lt_of_cell? w p hc))).trans hc
theorem Row.keep {α:Type} {k:Nat} {R R':α→List Value→Prop} {w w':World} {F F':Nat→Prop} {xs:List α} {a:Option Addr} {cap:Nat}
  (h:Row k R w F xs a cap) (hs:Same F w w') (hF:∀ b,F b→F' b) (hR:∀ x vs,x∈xs→R x vs→R' x vs):Row k R' w' F' xs a cap:=
 ⟨h.le,fun i x hx=>by
  obtain ⟨b,off,ha,hb,vs,hl,hr,hc⟩:=h.at_ i x hx
  exact ⟨b,off,ha,hF b hb,vs,hl,hR x vs (List.mem_of_getElem? hx) hr,fun j v hv=>hs.cell (hc j v hv) hb⟩⟩
theorem Row.nil {α:Type} {k:Nat} {R:α→List Value→Prop} {w:World} {F:Nat→Prop} {a:Option Addr} {cap:Nat}:Row k R w F ([]:List α) a cap:=
 ⟨Nat.zero_le _,fun i x hx=>by simp at hx⟩
def RInt (x:Int) (vs:List Value):Prop:=vs=[.int .i64 x]∧I64 x
def RStr (s:ByteArray) (vs:List Value):Prop:=vs=[.string s]
def RByte (x:UInt8) (vs:List Value):Prop:=vs=[.int .u8 x.toNat]
def RTwo (x:Int × Int) (vs:List Value):Prop:=vs=[.int .i64 x.1,.int .i64 x.2]∧I64 x.1∧I64 x.2
abbrev RInts (w:World) (F:Nat→Prop):=Row 1 RInt w F
abbrev aw9 (w:World) (F:Nat→Prop):=Row 1 RStr w F
abbrev RTwos (w:World) (F:Nat→Prop):=Row 2 RTwo w F
structure Fld where
 name:ByteArray
 of:ByteArray
 up:ByteArray
 kind:Int
 lo:Int
 hi:Int
 words:List ByteArray
 weights:List Int
structure Knd where
 name:ByteArray
 lo:Int
 hi:Int
 fields:List Fld
structure Lif where
 name:ByteArray
 states:List ByteArray
 moves:List (Int × Int)
structure Rul where
 name:ByteArray
 kind:ByteArray
 a:ByteArray
 b:ByteArray
 n:Int
structure Sch where
 version:Int
 kinds:List Knd
 lives:List Lif
 rules:List Rul
def RFld (w:World) (F:Nat→Prop) (x:Fld) (vs:List Value):Prop:=
 ∃ wa wc ga gc,vs=[.string x.name,.string x.of,.string x.up,.int .i64 x.kind,.int .i64 x.lo,.int .i64 x.hi,.slice wa x.words.length wc,.slice ga x.weights.length gc] ∧
  I64 x.kind∧I64 x.lo∧I64 x.hi∧aw9 w F x.words wa wc∧RInts w F x.weights ga gc
abbrev RFlds (w:World) (F:Nat→Prop):=Row 8 (RFld w F) w F
def RKnd (w:World) (F:Nat→Prop) (x:Knd) (vs:List Value):Prop:=
 ∃ fa fc,vs=[.string x.name,.int .i64 x.lo,.int .i64 x.hi,.slice fa x.fields.length fc]∧I64 x.lo∧I64 x.hi∧RFlds w F x.fields fa fc
abbrev RKnds (w:World) (F:Nat→Prop):=Row 4 (RKnd w F) w F
def RLif (w:World) (F:Nat→Prop) (x:Lif) (vs:List Value):Prop:=
 ∃ sa sc ma mc,vs=[.string x.name,.slice sa x.states.length sc,.slice ma x.moves.length mc]∧aw9 w F x.states sa sc∧RTwos w F x.moves ma mc
abbrev RLifs (w:World) (F:Nat→Prop):=Row 3 (RLif w F) w F
def RRul (x:Rul) (vs:List Value):Prop:=vs=[.string x.name,.string x.kind,.string x.a,.string x.b,.int .i64 x.n]∧I64 x.n
abbrev RRuls (w:World) (F:Nat→Prop):=Row 5 RRul w F
def RSch (w:World) (F:Nat→Prop) (x:Sch) (v:Value):Prop:=
 ∃ ka kc la lc ra rc,v = .agg #[.int .i64 x.version,.slice ka x.kinds.length kc,.slice la x.lives.length lc,.slice ra x.rules.length rc]∧I64 x.version ∧
  RKnds w F x.kinds ka kc∧RLifs w F x.lives la lc∧RRuls w F x.rules ra rc
section
variable {w w':World} {F F':Nat→Prop} (hs:Same F w w') (hF:∀ b,F b→F' b)
include hs hF
theorem RFld.keep {x:Fld} {vs:List Value} (h:RFld w F x vs):RFld w' F' x vs:=by
 obtain ⟨wa,wc,ga,gc,h0,h1,h2,h3,h4,h5⟩:=h
 exact ⟨wa,wc,ga,gc,h0,h1,h2,h3,h4.keep hs hF (fun _ _ _ h=>h),h5.keep hs hF (fun _ _ _ h=>h)⟩
theorem RFlds.keep {xs:List Fld} {a:Option Addr} {c:Nat} (h:RFlds w F xs a c):RFlds w' F' xs a c:=Row.keep h hs hF (fun _ _ _ h=>h.keep hs hF)
theorem RKnd.keep {x:Knd} {vs:List Value} (h:RKnd w F x vs):RKnd w' F' x vs:=by
 obtain ⟨fa,fc,h0,h1,h2,h3⟩:=h
 exact ⟨fa,fc,h0,h1,h2,h3.keep hs hF⟩
theorem RKnds.keep {xs:List Knd} {a:Option Addr} {c:Nat} (h:RKnds w F xs a c):RKnds w' F' xs a c:=Row.keep h hs hF (fun _ _ _ h=>h.keep hs hF)
theorem RLif.keep {x:Lif} {vs:List Value} (h:RLif w F x vs):RLif w' F' x vs:=by
 obtain ⟨sa,sc,ma,mc,h0,h1,h2⟩:=h
 exact ⟨sa,sc,ma,mc,h0,h1.keep hs hF (fun _ _ _ h=>h),h2.keep hs hF (fun _ _ _ h=>h)⟩
theorem RLifs.keep {xs:List Lif} {a:Option Addr} {c:Nat} (h:RLifs w F xs a c):RLifs w' F' xs a c:=Row.keep h hs hF (fun _ _ _ h=>h.keep hs hF)
theorem RRuls.keep {xs:List Rul} {a:Option Addr} {c:Nat} (h:RRuls w F xs a c):RRuls w' F' xs a c:=Row.keep h hs hF (fun _ _ _ h=>h)
theorem RSch.keep {x:Sch} {v:Value} (h:RSch w F x v):RSch w' F' x v:=by
 obtain ⟨ka,kc,la,lc,ra,rc,h0,h1,h2,h3,h4⟩:=h
 exact ⟨ka,kc,la,lc,ra,rc,h0,h1,h2.keep hs hF,h3.keep hs hF,h4.keep hs hF⟩
end
def idx {α:Type} (p:α→Bool) (xs:List α):Int:=match xs.findIdx? p with|some i=>i|none=>-1
theorem ad6 {α:Type} {p:α→Bool} {xs:List α} {k:Nat} {x:α} (hk:xs[k]?=some x) (hx:p x=true) (hno:∀ i y,i<k→xs[i]?=some y→p y=false):idx p xs=k:=by
 have hlt:k<xs.length:=(List.getElem?_eq_some_iff.1 hk).1
 have:xs.findIdx? p=some k:=by
  rw [List.findIdx?_eq_some_iff_getElem]
  refine ⟨hlt,?_,?_⟩
  ·rw [List.getElem?_eq_getElem hlt] at hk;simp at hk;rw [hk];exact hx
  ·intro j hj;simp [hno j _ hj (List.getElem?_eq_getElem (by omega))]
 simp [idx,this]
theorem an9 {α:Type} {p:α→Bool} {xs:List α} (hno:∀ (i:Nat) y,xs[i]?=some y→p y=false):idx p xs = -1:=by
 have:xs.findIdx? p=none:=by
  rw [List.findIdx?_eq_none_iff]
  intro x hx
  obtain ⟨i,hi⟩:=List.getElem?_of_mem hx
  exact hno i x hi
 simp [idx,this]
theorem aT3 {α:Type} (p:α→Bool) (xs:List α):idx p xs<xs.length:=by
 unfold idx;split
 ·rename_i i h;have:=List.findIdx?_eq_some_iff_getElem.1 h;obtain ⟨h1,_⟩:=this;omega
 ·omega
theorem an5 {α:Type} (p:α→Bool) (xs:List α):decide (0≤idx p xs)=xs.any p:=by
 unfold idx;split
 ·rename_i i h
  obtain ⟨h1,h2,_⟩:=List.findIdx?_eq_some_iff_getElem.1 h
  have:xs.any p=true:=List.any_eq_true.2 ⟨xs[i],List.getElem_mem h1,h2⟩
  simp [this]
 ·rename_i h
  rw [List.findIdx?_eq_none_iff] at h
  have:xs.any p=false:=by rw [List.any_eq_false];intro x hx;simp [h x hx]
  simp [this]
theorem cl0 {p:Prop} (h:p:=by repeat (first|exact Ex.refl _|assumption|apply Ex.alloc|apply Ex.drew|apply Ex.drewN|(refine Ex.trans ?_ (by assumption)))):p:=h
theorem ru7 {a b:World} (h:Ex a b:=by first|exact Ex.trans hb (show Ex _ w1 from cl0)|exact hb1):Ex a b∧(∀ d o,d<a.heap.size→b.cell? ⟨d,o,none⟩=a.cell? ⟨d,o,none⟩)∧(∀ d o,d<a.heap.size→b.frozen? ⟨d,o,none⟩=a.frozen? ⟨d,o,none⟩)∧a.heap.size≤b.heap.size:=⟨h,h.rules.1,h.rules.2,h.size⟩
theorem zsz7:(∀ (w:World) (o:Obj),(w.alloc o).heap.size=w.heap.size+1)∧(∀ (w:World),w.drew.heap.size=w.heap.size)∧(∀ (w:World) (p:Addr) (v:Value),(w.setCell p v).heap.size=w.heap.size)∧(∀ (w:World) (n:Nat),(w.drewN n).heap=w.heap):=⟨fun _ _=>World.size_alloc ..,fun _=>World.size_drew ..,fun _ _ _=>World.size_setCell ..,fun _ _=>World.heap_drewN ..⟩
theorem z07 (w w1:World) (h:w.heap.size<w1.heap.size:=by omega):w.heap.size<w1.heap.size:=h
theorem z17 (w w1:World) (h:w.heap.size+1<w1.heap.size:=by omega):w.heap.size+1<w1.heap.size:=h
theorem z27 (w w1:World) (h:w.heap.size+1+1<w1.heap.size:=by omega):w.heap.size+1+1<w1.heap.size:=h
end
section
open Go Go.Maps Go.MapKept
open Go.ChangeMaps (setBlock modify_eq_set heap_setBlock_same heap_setBlock_other)
structure Ents (P:Program) (k:TypeId) (es:Array MapEntry) (clock n:Nat) (f:Value→Option Value):Prop where
 size:es.size≤n
 stamped:Stamped es clock
 keys:∀ e∈es.toList,∃ l,keyOf P k e.key=some l
 mem:∀ e∈es.toList,f e.key=some e.val
 only:∀ key v,f key=some v→∃ e∈es.toList,e.key=key∧e.val=v
def MapIs (P:Program) (k:TypeId) (w:World) (b n:Nat) (f:Value→Option Value):Prop:=∃ es clock,w.heap[b]?=some (.map es clock)∧Ents P k es clock n f
def MapAt (P:Program) (k:TypeId) (w:World) (b n:Nat) (f:Value→Option Value) (key stamp:Value):Prop:=
 ∃ es clock,w.heap[b]?=some (.map es clock)∧Ents P k es clock n f∧∃ e∈es.toList,e.key=key∧stamp=goInt e.born
noncomputable def updF (f:Value→Option Value) (key v:Value):Value→Option Value:=open Classical in fun x=>if x=key then some v else f x
theorem MapAt.is {P:Program} {k:TypeId} {w:World} {b n:Nat} {f:Value→Option Value} {key stamp:Value} (h:MapAt P k w b n f key stamp):MapIs P k w b n f:=by
 obtain ⟨es,c,h1,h2,_⟩:=h;exact ⟨es,c,h1,h2⟩
theorem MapIs.made (P:Program) (k:TypeId) (w:World) (n:Nat):MapIs P k (w.alloc (.map #[] 0)) w.heap.size n (fun _=>none):=
 ⟨#[],0,(MapKept.heap_alloc w _).1,⟨by simp,stamped_empty 0,by simp,by simp,by simp⟩⟩
theorem MapIs.lt {P:Program} {k:TypeId} {w:World} {b n:Nat} {f:Value→Option Value} (h:MapIs P k w b n f):b<w.heap.size:=by
 obtain ⟨es,clock,hb,_⟩:=h;exact (Array.getElem?_eq_some_iff.1 hb).1
theorem MapIs.same {P:Program} {k:TypeId} {w w':World} {b n:Nat} {f:Value→Option Value} (h:MapIs P k w b n f) (hs:w'.heap[b]?=w.heap[b]?):MapIs P k w' b n f:=by
 obtain ⟨es,clock,hb,h⟩:=h;exact ⟨es,clock,hs.trans hb,h⟩
theorem MapIs.mono {P:Program} {k:TypeId} {w:World} {b n m:Nat} {f:Value→Option Value} (h:MapIs P k w b n f) (hn:n≤m):MapIs P k w b m f:=by
 obtain ⟨es,clock,hb,h⟩:=h;exact ⟨es,clock,hb,⟨Nat.le_trans h.size hn,h.stamped,h.keys,h.mem,h.only⟩⟩
section
variable {P:Program} {k t e:TypeId} {w:World} {b n:Nat} {f:Value→Option Value} {es:Array MapEntry} {clock:Nat}
theorem Ents.look (E:Ents P k es clock n f) (K:Keyed P k) {key:Value} {kl:Lit} (hkey:keyOf P k key=some kl) (w:World) :
  ((Instr.findKey k key es.toList).run P w = .ok none w∧f key=none∧∀ x∈es.toList,x.key≠key)∨∃ j e0,(Instr.findKey k key es.toList).run P w = .ok (some (j,e0.val)) w∧es.toList[j]?=some e0∧e0.key=key∧f key=some e0.val:=by
 rcases K.find w hkey es.toList E.keys with ⟨h1,h2⟩|⟨j,e0,h1,h2,h3⟩
 ·refine Or.inl ⟨h1,?_,h2⟩
  cases hf:f key with
  | none=>rfl
  | some v=>obtain ⟨e0,he,hk,_⟩:=E.only key v hf;exact absurd hk (h2 e0 he)
 ·exact Or.inr ⟨j,e0,h1,h2,h3,by rw [← h3];exact E.mem e0 (List.mem_of_getElem? h2)⟩
theorem MapIs.look (h:MapIs P k w b n f) (K:Keyed P k) (ht:P.underlying t=some (.map k e)) {z:Value} (hz:(zeroValue e).run P w = .ok z w) {key:Value} {kl:Lit} (hkey:keyOf P k key=some kl) :
  (Instr.lookup t (.map (some b)) key false).run P w = .ok ((f key).getD z) w:=by
 obtain ⟨es,clock,hb,E⟩:=h
 rcases E.look K hkey w with ⟨h1,h2,_⟩|⟨j,e0,h1,_,_,h4⟩
 ·simp [Instr.lookup,run_underlying ht,MapKept.run_getObj_map hb,K.check w _ hkey,h1,hz,h2,Result.andThen]
 ·simp [Instr.lookup,run_underlying ht,MapKept.run_getObj_map hb,K.check w _ hkey,h1,h4,Result.andThen]
theorem MapIs.look_ok (h:MapIs P k w b n f) (K:Keyed P k) (ht:P.underlying t=some (.map k e)) {z:Value} (hz:(zeroValue e).run P w = .ok z w) {key:Value} {kl:Lit} (hkey:keyOf P k key=some kl) :
  (Instr.lookup t (.map (some b)) key true).run P w = .ok (.tuple #[(f key).getD z,.bool (f key).isSome]) w:=by
 obtain ⟨es,clock,hb,E⟩:=h
 rcases E.look K hkey w with ⟨h1,h2,_⟩|⟨j,e0,h1,_,_,h4⟩
 ·simp [Instr.lookup,run_underlying ht,MapKept.run_getObj_map hb,K.check w _ hkey,h1,hz,h2,Result.andThen]
 ·simp [Instr.lookup,run_underlying ht,MapKept.run_getObj_map hb,K.check w _ hkey,h1,h4,Result.andThen]
theorem Keep.setBlock {o:Obj} {es:Array MapEntry} {clock:Nat} (hb:w.heap[b]?=some (.map es clock)):Keep (fun x=>x=b) w (setBlock w b o):=
 ⟨rfl,rfl,rfl,by simp [ChangeMaps.setBlock],fun i _ hi=>heap_setBlock_other hb _ (fun e=>hi e)⟩
theorem apart_keys (hs:Stamped es clock) {i j:Nat} {x y:MapEntry} (hi:es.toList[i]?=some x) (hj:es.toList[j]?=some y) (hne:i≠j):x.key≠y.key:=by
 have hp:=((stamped_iff es clock).1 hs).2.2
 obtain ⟨hi1,rfl⟩:=List.getElem?_eq_some_iff.1 hi
 obtain ⟨hj1,rfl⟩:=List.getElem?_eq_some_iff.1 hj
 rcases Nat.lt_or_gt_of_ne hne with h|h
 ·exact List.pairwise_iff_getElem.1 hp i j hi1 hj1 h
 ·exact (List.pairwise_iff_getElem.1 hp j i hj1 hi1 h).symm
theorem Ents.push (E:Ents P k es clock n f) {key v:Value} {kl:Lit} (hkey:keyOf P k key=some kl) (h2:∀ x∈es.toList,x.key≠key):Ents P k (es.push ⟨key,v,clock⟩) (clock+1) (n+1) (updF f key v):=by
 refine ⟨by simp;exact E.size,stamped_push E.stamped h2,?_,?_,?_⟩
 ·intro x hx
  simp only [Array.toList_push,List.mem_append,List.mem_singleton] at hx
  rcases hx with hx|rfl
  ·exact E.keys x hx
  ·exact ⟨kl,hkey⟩
 ·intro x hx
  simp only [Array.toList_push,List.mem_append,List.mem_singleton] at hx
  rcases hx with hx|rfl
  ·simp only [updF,if_neg (h2 x hx)];exact E.mem x hx
  ·simp [updF]
 ·intro y u hy
  simp only [updF] at hy
  split at hy
  ·rename_i e1;cases hy;exact ⟨⟨key,v,clock⟩,by simp,e1.symm,rfl⟩
  ·obtain ⟨x,hx,h3⟩:=E.only y u hy
   exact ⟨x,by simp [hx],h3⟩
theorem Ents.modify (E:Ents P k es clock n f) {key v:Value} {kl:Lit} (hkey:keyOf P k key=some kl) {j:Nat} {e0:MapEntry} (h2:es.toList[j]?=some e0) (h3:e0.key=key) (g:MapEntry→MapEntry) (hg:∀ x,(g x).born=x.born) (hgk:(g e0).key=key) (hgv:(g e0).val=v) :
  Ents P k (es.modify j g) clock n (updF f key v):=by
 have hj:es[j]?=some e0:=by simpa using h2
 have hlist:(es.modify j g).toList=es.toList.set j (g e0):=by rw [Array.toList_modify,modify_eq_set _ _ _ _ h2]
 have hjl:j<es.toList.length:=(List.getElem?_eq_some_iff.1 h2).1
 have who:∀ x∈es.toList.set j (g e0),x=g e0∨(x∈es.toList∧x.key≠key):=by
  intro x hx
  obtain ⟨i,hi,ex⟩:=List.getElem_of_mem hx
  rw [List.getElem_set] at ex
  split at ex
  ·exact Or.inl ex.symm
  ·rename_i hne
   have hi':i<es.toList.length:=by simpa using hi
   refine Or.inr ⟨ex ▸ List.getElem_mem hi',?_⟩
   rw [← h3]
   exact apart_keys E.stamped (by rw [List.getElem?_eq_getElem hi',ex]) h2 (fun e1=>hne e1.symm)
 refine ⟨by simpa using E.size,stamped_modify E.stamped _ _ (fun x _=>hg x) (fun e' _ he'=>by rw [hj] at he';cases he';rw [hgk,h3]),?_,?_,?_⟩
 ·intro x hx
  rw [hlist] at hx
  rcases who x hx with rfl|⟨h,_⟩
  ·exact ⟨kl,by rw [hgk];exact hkey⟩
  ·exact E.keys x h
 ·intro x hx
  rw [hlist] at hx
  rcases who x hx with rfl|⟨h,hne⟩
  ·simp [updF,hgk,hgv]
  ·simp only [updF,if_neg hne];exact E.mem x h
 ·intro y u hy
  simp only [updF] at hy
  split at hy
  ·rename_i e1;cases hy
   refine ⟨g e0,?_,by rw [hgk,e1],hgv⟩
   rw [hlist];exact List.mem_set hjl _
  ·rename_i hne
   obtain ⟨x,hx,h4,h5⟩:=E.only y u hy
   refine ⟨x,?_,h4,h5⟩
   rw [hlist]
   obtain ⟨i,hi,ex⟩:=List.getElem_of_mem hx
   have hij:j≠i:=by
    rintro rfl
    have:=(List.getElem?_eq_some_iff.1 h2).2
    rw [ex] at this
    subst this
    exact hne (h4.symm.trans h3)
   have:=List.getElem_set_ne hij (a:=g e0) (by rw [List.length_set];exact hi)
   rw [ex] at this
   rw [← this];exact List.getElem_mem _
theorem MapIs.update (h:MapIs P k w b n f) (K:Keyed P k) (ht:P.underlying t=some (.map k e)) {key v:Value} {kl:Lit} (hkey:keyOf P k key=some kl) :
  ∃ w',(Instr.mapUpdate t (.map (some b)) key v).run P w = .ok () w'∧MapIs P k w' b (n+1) (updF f key v)∧Keep (fun x=>x=b) w w':=by
 obtain ⟨es,clock,hb,E⟩:=h
 rcases E.look K hkey w with ⟨h1,_,h2⟩|⟨j,e0,h1,h2,h3,_⟩
 ·exact ⟨_,by simp [Instr.mapUpdate,run_underlying ht,MapKept.run_getObj_map hb,K.check w false hkey,h1,MapKept.run_setObj_map _ hb,Result.andThen];rfl,⟨_,_,heap_setBlock_same hb _,E.push hkey h2⟩,Keep.setBlock hb⟩
 ·have hj:es[j]?=some e0:=by simpa using h2
  have E':=E.modify hkey h2 h3 (fun e'=>{ e' with key:=key,val:=v }) (fun _=>rfl) rfl rfl
  exact ⟨_,by simp [Instr.mapUpdate,run_underlying ht,MapKept.run_getObj_map hb,K.check w false hkey,h1,hj,h3,K.stays w hkey,MapKept.run_setObj_map _ hb,Result.andThen];rfl,⟨_,_,heap_setBlock_same hb _,⟨Nat.le_succ_of_le E'.size,E'.stamped,E'.keys,E'.mem,E'.only⟩⟩,Keep.setBlock hb⟩
end
end
section
open Go Go.Maps Go.MapKept
def Pow10 (w:World):Prop:=Lib.TabIs Tryz.prog w "internal/strconv.uint64pow10" .u64 Lib.pow10Tab
def WordsAt (w:World):Prop:=∀ i s,[(⟨#[107,101,121]⟩:ByteArray),⟨#[114,101,102]⟩,⟨#[110,117,109]⟩,⟨#[112,105,99,107]⟩,⟨#[100,97,121]⟩,⟨#[115,116,101,112]⟩,⟨#[115,117,109]⟩,⟨#[115,104,97,114,101]⟩,⟨#[99,111,112,121]⟩][i]?=some s→w.cell? ⟨1,i,none⟩=some (.string s)
def chkV (f:FuncId):Value:=.func (.func f) #[] #[]
def chkM:Value→Option Value
 | .int .i64 0=>some (chkV 212)
 | .int .i64 1=>some (chkV 213)
 | .int .i64 4=>some (chkV 214)
 | .int .i64 5=>some (chkV 215)
 | .int .i64 6=>some (chkV 217)
 | .int .i64 7=>some (chkV 218)
 | .int .i64 8=>some (chkV 220)
 | _=>none
def aggF (f:Value→Option Value) (v:Value):Option Value:=(f v).map fun x=>.agg #[x]
def ChecksAt (w:World) (O:Nat→Prop):Prop:=∃ r,w.cell? ⟨0,0,none⟩=some (.map (some r))∧¬ O r∧MapIs Tryz.prog 3 w r 7 (aggF chkM)
structure GOK (w:World) (O:Nat→Prop):Prop where
 lt:∀ b,O b→b<w.heap.size
 sz:5≤w.heap.size
 no:∀ b,b<5→¬ O b
 pow:Pow10 w
 words:WordsAt w
 checks:ChecksAt w O
theorem var_same {w w':World} (hs:∀ b,b<5→w'.heap[b]?=w.heap[b]?) (h:Pow10 w):Pow10 w':=by
 unfold Pow10 Lib.TabIs World.var? at *
 rw [show (Tryz.prog.globalNamed "internal/strconv.uint64pow10")=some 2 by kernel_rfl] at *
 simp only [Option.bind_some] at *
 rw [hs _ (by decide)]
 exact h
theorem GOK.keep {w w':World} {O O':Nat→Prop} (h:GOK w O) (hz:w.heap.size≤w'.heap.size) (hO:∀ b,b<w.heap.size→¬ O b→¬ O' b)
  (hs:∀ b,b<w.heap.size→¬ O b→w'.heap[b]?=w.heap[b]?) (hl:∀ b,O' b→b<w'.heap.size):GOK w' O':=by
 have h5:∀ b,b<5→w'.heap[b]?=w.heap[b]?:=fun b hb=>hs b (Nat.lt_of_lt_of_le hb h.sz) (h.no b hb)
 refine ⟨hl,Nat.le_trans h.sz hz,fun b hb=>hO b (Nat.lt_of_lt_of_le hb h.sz) (h.no b hb),var_same h5 h.pow,fun i s hi=>?_,?_⟩
 ·exact (World.cell?_of_block (w:=w) (a:=⟨1,i,none⟩) (h5 1 (by decide))).trans (h.words i s hi)
 ·obtain ⟨r,h1,h2,h3⟩:=h.checks
  exact ⟨r,(World.cell?_of_block (w:=w) (a:=⟨0,0,none⟩) (h5 0 (by decide))).trans h1,hO r h3.lt h2,h3.same (hs r h3.lt h2)⟩
theorem GOK.ex {w w':World} {O:Nat→Prop} (h:GOK w O) (he:Ex w w'):GOK w' O:=
 h.keep he.size (fun _ _ h=>h) (fun b hb _=>he.block b hb) (fun b hb=>Nat.lt_of_lt_of_le (h.lt b hb) he.size)
theorem GOK.mono {w:World} {O O':Nat→Prop} (h:GOK w O) (hO:∀ b,O' b→O b):GOK w O':=
 h.keep (Nat.le_refl _) (fun b _ hn ho=>hn (hO b ho)) (fun _ _ _=>rfl) (fun b hb=>h.lt b (hO b hb))
end
section
open Go Go.RowKit
inductive D where
 | v (x:Value)
 | any
 | sl (k:Nat) (xs:List (List D))
 | ro (cs:List D)
 | agg (cs:List D)
 | tup (ds:List D)
 | clo (f:FuncId) (cs:List D)
 | gl (g:Nat)
inductive Rd (w:World) (O:Nat→Prop):D→Value→Prop
 | v (x:Value):Rd w O (.v x) x
 | any (x:Value):Rd w O .any x
 | sl (k:Nat) (xs:List (List D)) (a:Option Addr) (cap:Nat) (vs:Nat→Nat→Value) (hcap:xs.length≤cap) (hk:∀ x∈xs,x.length=k)
   (hc:∀ (i:Nat) x,xs[i]?=some x→∃ b off,a=some ⟨b,off,none⟩∧¬ O b∧b<w.heap.size∧∀ j,j<k→w.cell? ⟨b,off+i*k+j,none⟩=some (vs i j))
   (hr:∀ (i:Nat) x,xs[i]?=some x→∀ (j:Nat) d,x[j]?=some d→Rd w O d (vs i j)):Rd w O (.sl k xs) (.slice a xs.length cap)
 | ro (cs:List D) (b off:Nat) (vs:Nat→Value) (hO:¬ O b) (hb:b<w.heap.size)
   (hc:∀ j,j<cs.length→w.cell? ⟨b,off+j,none⟩=some (vs j))
   (hr:∀ (j:Nat) d,cs[j]?=some d→Rd w O d (vs j)):Rd w O (.ro cs) (.pointer (some ⟨b,off,none⟩))
 | agg (cs:List D) (vs:List Value) (hl:vs.length=cs.length) (hr:∀ (j:Nat) d u,cs[j]?=some d→vs[j]?=some u→Rd w O d u):Rd w O (.agg cs) (.agg vs.toArray)
 | tup (cs:List D) (vs:List Value) (hl:vs.length=cs.length) (hr:∀ (j:Nat) d u,cs[j]?=some d→vs[j]?=some u→Rd w O d u):Rd w O (.tup cs) (.tuple vs.toArray)
 | clo (f:FuncId) (cs:List D) (vs:List Value) (hl:vs.length=cs.length) (hr:∀ (j:Nat) d u,cs[j]?=some d→vs[j]?=some u→Rd w O d u):Rd w O (.clo f cs) (.func (.func f) #[] vs.toArray)
 | gl (g:Nat) (q:Option Nat) (hO:¬ O g) (hb:g<w.heap.size) (hc:w.cell? ⟨g,0,none⟩=some (.map q)):Rd w O (.gl g) (.map q)
structure RdL (w:World) (O:Nat→Prop) (cs:List D) (vs:List Value):Prop where
 len:vs.length=cs.length
 at_:∀ (j:Nat) d u,cs[j]?=some d→vs[j]?=some u→Rd w O d u
theorem Rd.keep {w w':World} {O O':Nat→Prop} (hz:w.heap.size≤w'.heap.size) (hO:∀ b,b<w.heap.size→¬ O b→¬ O' b)
  (hs:∀ b,b<w.heap.size→¬ O b→w'.heap[b]?=w.heap[b]?) {d:D} {x:Value} (h:Rd w O d x):Rd w' O' d x:=by
 induction h with
 | v x=>exact .v x
 | any x=>exact .any x
 | sl k xs a cap vs hcap hk hc hr ih=>
  refine .sl k xs a cap vs hcap hk (fun i x hx=>?_) ih
  obtain ⟨b,off,ha,hb,hlt,hcell⟩:=hc i x hx
  exact ⟨b,off,ha,hO b hlt hb,Nat.lt_of_lt_of_le hlt hz,fun j hj=>(World.cell?_of_block (w:=w) (hs b hlt hb)).trans (hcell j hj)⟩
 | ro cs b off vs hb hlt hc hr ih=>
  exact .ro cs b off vs (hO b hlt hb) (Nat.lt_of_lt_of_le hlt hz) (fun j hj=>(World.cell?_of_block (w:=w) (hs b hlt hb)).trans (hc j hj)) ih
 | agg cs vs hl hr ih=>exact .agg cs vs hl ih
 | tup cs vs hl hr ih=>exact .tup cs vs hl ih
 | clo f cs vs hl hr ih=>exact .clo f cs vs hl ih
 | gl g q h1 hb hc=>exact .gl g q (hO g hb h1) (Nat.lt_of_lt_of_le hb hz) ((World.cell?_of_block (w:=w) (a:=⟨g,0,none⟩) (hs g hb h1)).trans hc)
theorem RdL.keep {w w':World} {O O':Nat→Prop} (hz:w.heap.size≤w'.heap.size) (hO:∀ b,b<w.heap.size→¬ O b→¬ O' b)
  (hs:∀ b,b<w.heap.size→¬ O b→w'.heap[b]?=w.heap[b]?) {ds:List D} {xs:List Value} (h:RdL w O ds xs):RdL w' O' ds xs:=
 ⟨h.len,fun j d u h1 h2=>(h.at_ j d u h1 h2).keep hz hO hs⟩
theorem Rd.ex {w w':World} {O:Nat→Prop} (he:Ex w w') {d:D} {x:Value} (h:Rd w O d x):Rd w' O d x:=
 h.keep he.size (fun _ _ h=>h) (fun b hb _=>he.block b hb)
theorem RdL.ex {w w':World} {O:Nat→Prop} (he:Ex w w') {ds:List D} {xs:List Value} (h:RdL w O ds xs):RdL w' O ds xs:=
 h.keep he.size (fun _ _ h=>h) (fun b hb _=>he.block b hb)
theorem RdL.nil {w:World} {O:Nat→Prop}:RdL w O [] []:=⟨rfl,fun j d u h=>by simp at h⟩
theorem RdL.cons {w:World} {O:Nat→Prop} {d:D} {u:Value} {ds:List D} {xs:List Value} (h:Rd w O d u) (t:RdL w O ds xs):RdL w O (d :: ds) (u :: xs):=
 ⟨by simp [t.len],fun j d' u' h1 h2=>by
  cases j with
  | zero=>simp at h1 h2;subst h1 h2;exact h
  | succ j=>simp at h1 h2;exact t.at_ j d' u' h1 h2⟩
theorem RdL.get {w:World} {O:Nat→Prop} {ds:List D} {xs:List Value} (h:RdL w O ds xs) {j:Nat} {d:D} (hj:ds[j]?=some d):∃ u,xs[j]?=some u∧Rd w O d u:=by
 have hlt:j<ds.length:=(List.getElem?_eq_some_iff.1 hj).1
 have hlt':j<xs.length:=by rw [h.len];exact hlt
 exact ⟨xs[j],List.getElem?_eq_getElem hlt',h.at_ j d _ hj (List.getElem?_eq_getElem hlt')⟩
theorem RdL.vals {w:World} {O:Nat→Prop} (xs:List Value):RdL w O (xs.map .v) xs:=
 ⟨by simp,fun j d u h1 h2=>by
  rw [List.getElem?_map,h2] at h1
  simp at h1;subst h1;exact .v u⟩
theorem Rd.val {w:World} {O:Nat→Prop} {d:D} {x u:Value} (h:Rd w O d x) (hd:d = .v u):x=u:=by
 subst hd
 generalize hq:D.v u=q at h
 cases h <;> cases hq
 rfl
theorem Rd.sl_inv {w:World} {O:Nat→Prop} {k:Nat} {xs:List (List D)} {x:Value} (h:Rd w O (.sl k xs) x):∃ (a:Option Addr) (cap:Nat) (vs:Nat→Nat→Value),x = .slice a xs.length cap∧xs.length≤cap∧(∀ y∈xs,y.length=k) ∧
  (∀ (i:Nat) y,xs[i]?=some y→∃ b off,a=some ⟨b,off,none⟩∧¬ O b∧b<w.heap.size∧∀ j,j<k→w.cell? ⟨b,off+i*k+j,none⟩=some (vs i j))∧(∀ (i:Nat) y,xs[i]?=some y→∀ (j:Nat) d,y[j]?=some d→Rd w O d (vs i j)):=by
 generalize hq:D.sl k xs=q at h
 cases h <;> cases hq
 exact ⟨_,_,_,rfl,by assumption,by assumption,by assumption,by assumption⟩
theorem Rd.ro_inv {w:World} {O:Nat→Prop} {cs:List D} {x:Value} (h:Rd w O (.ro cs) x):∃ (b off:Nat) (vs:Nat→Value),x = .pointer (some ⟨b,off,none⟩)∧¬ O b∧b<w.heap.size∧(∀ j,j<cs.length→w.cell? ⟨b,off+j,none⟩=some (vs j))∧(∀ (j:Nat) d,cs[j]?=some d→Rd w O d (vs j)):=by
 generalize hq:D.ro cs=q at h
 cases h <;> cases hq
 exact ⟨_,_,_,rfl,by assumption,by assumption,by assumption,by assumption⟩
theorem Rd.agg_inv {w:World} {O:Nat→Prop} {cs:List D} {x:Value} (h:Rd w O (.agg cs) x):∃ vs:List Value,x = .agg vs.toArray∧RdL w O cs vs:=by
 generalize hq:D.agg cs=q at h
 cases h <;> cases hq
 rename_i vs hl hr
 exact ⟨vs,rfl,hl,hr⟩
theorem Rd.tup_inv {w:World} {O:Nat→Prop} {cs:List D} {x:Value} (h:Rd w O (.tup cs) x):∃ vs:List Value,x = .tuple vs.toArray∧RdL w O cs vs:=by
 generalize hq:D.tup cs=q at h
 cases h <;> cases hq
 rename_i vs hl hr
 exact ⟨vs,rfl,hl,hr⟩
theorem Rd.clo_inv {w:World} {O:Nat→Prop} {f:FuncId} {cs:List D} {x:Value} (h:Rd w O (.clo f cs) x):∃ vs:List Value,x = .func (.func f) #[] vs.toArray∧RdL w O cs vs:=by
 generalize hq:D.clo f cs=q at h
 cases h <;> cases hq
 rename_i vs hl hr
 exact ⟨vs,rfl,hl,hr⟩
def ag4:D→List D
 | .agg cs=>cs
 | .v (.agg vs)=>vs.toList.map .v
 | d=>[d]
theorem Rd.cells {w:World} {O:Nat→Prop} {d:D} {x:Value} (h:Rd w O d x) (hne:d ≠ .any):RdL w O (ag4 d) x.cells.toList:=by
 have one:∀ {d:D} {x:Value},Rd w O d x→RdL w O [d] [x]:=fun h=>.cons h .nil
 cases h with
 | v x=>cases x <;> first|exact one (.v _)|exact RdL.vals _
 | any x=>exact absurd rfl hne
 | sl k xs a cap vs hcap hk hc hr=>exact one (.sl k xs a cap vs hcap hk hc hr)
 | ro cs b off vs hO hb hc hr=>exact one (.ro cs b off vs hO hb hc hr)
 | agg cs vs hl hr=>exact (⟨hl,hr⟩:RdL w O cs vs)
 | tup cs vs hl hr=>exact one (.tup cs vs hl hr)
 | clo f cs vs hl hr=>exact one (.clo f cs vs hl hr)
 | gl g q h1 hb hc=>exact one (.gl g q h1 hb hc)
inductive Blk where
 | cells (t:TypeId) (cs:List D)
 | obj (ok:Obj→Prop)
abbrev aa1:=List (Nat × Blk)
def ab2 (σ:aa1):List Nat:=σ.map Prod.fst
def Own (σ:aa1) (X:Nat→Prop) (b:Nat):Prop:=X b∨b∈ab2 σ
def Blk.ok (w:World) (O:Nat→Prop):Blk→Obj→Prop
 | .cells t cs,o=>∃ vs:List Value,o = .cells vs.toArray t (0,0)∧RdL w O cs vs
 | .obj ok,o=>ok o
structure StOK (w:World) (X:Nat→Prop) (σ:aa1):Prop where
 nodup:(ab2 σ).Nodup
 at_:∀ b k,(b,k)∈σ→¬ X b∧∃ o,w.heap[b]?=some o∧k.ok w (Own σ X) o
 xlt:∀ b,X b→b<w.heap.size
 gok:GOK w (Own σ X)
theorem StOK.lt {w:World} {X:Nat→Prop} {σ:aa1} (h:StOK w X σ) {b:Nat} (hb:b∈ab2 σ):b<w.heap.size:=by
 obtain ⟨⟨b',k⟩,hm,rfl⟩:=List.mem_map.1 hb
 obtain ⟨_,o,ho,_⟩:=h.at_ b' k hm
 exact (Array.getElem?_eq_some_iff.1 ho).1
theorem StOK.own_lt {w:World} {X:Nat→Prop} {σ:aa1} (h:StOK w X σ) {b:Nat} (hb:Own σ X b):b<w.heap.size:=by
 rcases hb with hb|hb
 ·exact h.xlt b hb
 ·exact h.lt hb
theorem StOK.ex {w w':World} {X:Nat→Prop} {σ:aa1} (h:StOK w X σ) (he:Ex w w'):StOK w' X σ:=
 ⟨h.nodup,fun b k hm=>by
  obtain ⟨hx,o,ho,hk⟩:=h.at_ b k hm
  refine ⟨hx,o,(he.block b (Array.getElem?_eq_some_iff.1 ho).1).trans ho,?_⟩
  cases k with
  | cells t cs=>obtain ⟨vs,h1,h2⟩:=hk;exact ⟨vs,h1,h2.ex he⟩
  | obj ok=>exact hk,fun b hb=>Nat.lt_of_lt_of_le (h.xlt b hb) he.size,h.gok.ex he⟩
structure Mv (w:World) (σ:aa1) (w':World) (σ':aa1):Prop where
 keep:Keep (fun b=>b∈ab2 σ) w w'
 new:∀ b,b∈ab2 σ'→b∈ab2 σ∨w.heap.size≤b
theorem Mv.refl (w:World) (σ:aa1):Mv w σ w σ:=⟨Keep.refl _ _,fun _ h=>Or.inl h⟩
theorem Mv.of_ex {w w':World} {σ:aa1} (h:Ex w w'):Mv w σ w' σ:=⟨h.keep,fun _ h=>Or.inl h⟩
theorem Mv.trans {a b c:World} {s t u:aa1} (h:Mv a s b t) (k:Mv b t c u):Mv a s c u:=by
 refine ⟨⟨k.keep.os.trans h.keep.os,k.keep.tape.trans h.keep.tape,k.keep.output.trans h.keep.output,Nat.le_trans h.keep.size k.keep.size,fun i hi hs=>?_⟩,fun i hi=>?_⟩
 ·refine (k.keep.block i (Nat.lt_of_lt_of_le hi h.keep.size) (fun hm=>?_)).trans (h.keep.block i hi hs)
  rcases h.new i hm with h1|h1
  ·exact hs h1
  ·omega
 ·rcases k.new i hi with h1|h1
  ·exact h.new i h1
  ·exact Or.inr (Nat.le_trans h.keep.size h1)
structure FR (w:World) (O:Nat→Prop) (a:List D) (t:Array Value):Prop where
 size:t.size=a.length
 at_:∀ (i:Nat) d,a[i]?=some d→∃ u,t[i]?=some u∧Rd w O d u
theorem FR.keep {w w':World} {O O':Nat→Prop} (hz:w.heap.size≤w'.heap.size) (hO:∀ b,b<w.heap.size→¬ O b→¬ O' b)
  (hs:∀ b,b<w.heap.size→¬ O b→w'.heap[b]?=w.heap[b]?) {a:List D} {t:Array Value} (h:FR w O a t):FR w' O' a t:=
 ⟨h.size,fun i d hd=>let ⟨u,h1,h2⟩:=h.at_ i d hd;⟨u,h1,h2.keep hz hO hs⟩⟩
theorem FR.ex {w w':World} {O:Nat→Prop} (he:Ex w w') {a:List D} {t:Array Value} (h:FR w O a t):FR w' O a t:=
 h.keep he.size (fun _ _ h=>h) (fun b hb _=>he.block b hb)
def putD (a:List D) (dst:Option Tmp) (d:D):List D:=match dst with|some i=>a.set i d|none=>a
theorem FR.put {w:World} {O:Nat→Prop} {a:List D} {fr:Act} (h:FR w O a fr.tmps) {d:D} {u:Value} (hd:Rd w O d u) (dst:Option Tmp):FR w O (putD a dst d) (fr.put dst u).tmps:=by
 cases dst with
 | none=>exact h
 | some i=>
  refine ⟨by simp [putD,Act.put,h.size],fun j d' hj=>?_⟩
  simp only [putD,List.getElem?_set] at hj
  simp only [Act.put,Array.getElem?_setIfInBounds]
  split at hj
  ·rename_i hij;subst hij
   split at hj
   ·rename_i hlt
    cases hj
    have:i<fr.tmps.size:=by rw [h.size];exact hlt
    exact ⟨u,by simp [this],hd⟩
   ·cases hj
  ·rename_i hij
   obtain ⟨u',h1,h2⟩:=h.at_ j d' hj
   exact ⟨u',by simp [hij,h1],h2⟩
def evD (a:List D):Operand→D
 | .tmp t=>a.getD t (.v undef)
 | .const v=>.v v
 | .global g=>.v (.pointer (some ⟨g,0,none⟩))
 | .func f=>.v (.func (.func f) #[] #[])
theorem FR.eval {w:World} {O:Nat→Prop} {a:List D} {fr:Act} (h:FR w O a fr.tmps) (x:Operand):Rd w O (evD a x) (fr.eval x):=by
 cases x with
 | tmp t=>
  simp only [evD,Act.eval]
  cases ha:a[t]? with
  | some d=>
   obtain ⟨u,h1,h2⟩:=h.at_ t d ha
   simp [List.getD_eq_getElem?_getD,ha,h1]
   exact h2
  | none=>
   have:fr.tmps[t]?=none:=by
    rw [Array.getElem?_eq_none]
    rw [h.size];exact List.getElem?_eq_none_iff.1 ha
   simp [List.getD_eq_getElem?_getD,ha,this]
   exact .v _
 | const v=>exact .v v
 | global g=>exact .v _
 | func f=>exact .v _
def mrk (b:Nat):Deferred:={ target:=.collected b,args:=#[] }
def Mks (w:World) (O:Nat→Prop) (B:Nat) (l:List Deferred):Prop:=B≤w.heap.size∧∃ bs:List Nat,l=bs.map mrk∧bs.Nodup∧∀ b∈bs,B≤b∧¬ O b∧w.heap[b]?=some (.deferred (some []))
theorem Mks.nil {w:World} {O:Nat→Prop} {B:Nat} (hB:B≤w.heap.size):Mks w O B []:=⟨hB,[],rfl,List.nodup_nil,fun b hb=>by cases hb⟩
theorem Mks.keep {w w':World} {O O':Nat→Prop} {B:Nat} {l:List Deferred} (h:Mks w O B l) (hz:w.heap.size≤w'.heap.size) (hO:∀ b,b<w.heap.size→¬ O b→¬ O' b)
  (hs:∀ b,b<w.heap.size→¬ O b→w'.heap[b]?=w.heap[b]?):Mks w' O' B l:=by
 obtain ⟨h0,bs,h1,h2,h3⟩:=h
 refine ⟨Nat.le_trans h0 hz,bs,h1,h2,fun b hb=>?_⟩
 obtain ⟨k1,k2,k3⟩:=h3 b hb
 have hlt:=(Array.getElem?_eq_some_iff.1 k3).1
 exact ⟨k1,hO b hlt k2,(hs b hlt k2).trans k3⟩
theorem Mks.ex {w w':World} {O:Nat→Prop} {B:Nat} {l:List Deferred} (h:Mks w O B l) (he:Ex w w'):Mks w' O B l:=h.keep he.size (fun _ _ h=>h) (fun b hb _=>he.block b hb)
structure St (w:World) (X:Nat→Prop) (df:Nat) (a:List D) (σ:aa1) (ac:Act):Prop where
 fr:FR w (Own σ X) a ac.tmps
 st:StOK w X σ
 df:Mks w (Own σ X) df ac.defers
theorem St.ex {w w':World} {X:Nat→Prop} {df:Nat} {a:List D} {σ:aa1} {fr:Act} (h:St w X df a σ fr) (he:Ex w w'):St w' X df a σ fr:=⟨h.fr.ex he,h.st.ex he,h.df.ex he⟩
theorem St.put {w:World} {X:Nat→Prop} {df:Nat} {a:List D} {σ:aa1} {fr:Act} (h:St w X df a σ fr) {d:D} {u:Value} (hd:Rd w (Own σ X) d u) (dst:Option Tmp):St w X df (putD a dst d) σ (fr.put dst u):=
 ⟨h.fr.put hd dst,h.st,by cases dst <;> exact h.df⟩
def FW (r:Option Nat):Fence:={ Fence.wide with round:=r }
abbrev Pst:=Exit→List D→aa1→Prop
structure AWP (P:Program) (r:Option Nat) (n:Nat) (df:Nat) (c:Code) (Q:Pst) (a:List D) (σ:aa1):Prop where
 run:∀ (w:World) (X:Nat→Prop) (fr:Act),St w X df a σ fr →
  c.wpIn (FW r) n P (fun e fr' w'=>∃ a' σ',Q e a' σ'∧St w' X df a' σ' fr'∧Mv w σ w' σ') fr w
def thenA (next:List D→aa1→Prop) (Q:Pst):Pst
 | .normal,a,σ=>next a σ
 | e,a,σ=>Q e a σ
def blockA (id:Nat) (Q:Pst):Pst
 | .exit id',a,σ=>if id'=id then Q .normal a σ else Q (.exit id') a σ
 | e,a,σ=>Q e a σ
section
variable {P:Program} {r:Option Nat} {n:Nat} {df:Nat} {Q:Pst} {a:List D} {σ:aa1}
theorem as9 {c:Code} {Q':Pst} (h:AWP P r n df c Q a σ) (hq:∀ e a σ,Q e a σ→Q' e a σ):AWP P r n df c Q' a σ:=
 ⟨fun w X fr hs=>wpIn_mono (h.run w X fr hs) fun e fr' w' ⟨a',σ',h1,h2⟩=>⟨a',σ',hq _ _ _ h1,h2⟩⟩
theorem awp_skip (h:Q .normal a σ):AWP P r n df .skip Q a σ:=⟨fun w X fr hs=>wpIn_skip ⟨a,σ,h,hs,Mv.refl _ _⟩⟩
theorem awp_ret (h:Q .ret a σ):AWP P r n df .ret Q a σ:=⟨fun w X fr hs=>wpIn_ret ⟨a,σ,h,hs,Mv.refl _ _⟩⟩
theorem awp_exit {id:Nat} (h:Q (.exit id) a σ):AWP P r n df (.exit id) Q a σ:=⟨fun w X fr hs=>wpIn_exit ⟨a,σ,h,hs,Mv.refl _ _⟩⟩
theorem awp_seq {x y:Code} (h:AWP P r n df x (thenA (AWP P r n df y Q) Q) a σ):AWP P r n df (.seq x y) Q a σ:=by
 refine ⟨fun w X fr hs=>?_⟩
 refine wpIn_seq (wpIn_mono (h.run w X fr hs) ?_)
 rintro e fr' w' ⟨a',σ',h1,h2,h3⟩
 cases e with
 | normal=>exact wpIn_mono (h1.run w' X fr' h2) fun e fr'' w'' ⟨a'',σ'',k1,k2,k3⟩=>⟨a'',σ'',k1,k2,h3.trans k3⟩
 | exit id=>exact ⟨a',σ',h1,h2,h3⟩
 | goto l=>exact ⟨a',σ',h1,h2,h3⟩
 | ret=>exact ⟨a',σ',h1,h2,h3⟩
 | panic ch=>exact ⟨a',σ',h1,h2,h3⟩
 | outgrown=>exact ⟨a',σ',h1,h2,h3⟩
theorem awp_block {id:Nat} {c:Code} (h:AWP P r n df c (blockA id Q) a σ):AWP P r n df (.block id c) Q a σ:=by
 refine ⟨fun w X fr hs=>?_⟩
 refine wpIn_block (wpIn_mono (h.run w X fr hs) ?_)
 rintro e fr' w' ⟨a',σ',h1,h2,h3⟩
 cases e with
 | exit id'=>
  simp only [blockA] at h1
  simp only [Exit.inBlock]
  split at h1
  ·rename_i he;rw [if_pos he];exact ⟨a',σ',h1,h2,h3⟩
  ·rename_i he;rw [if_neg he];exact ⟨a',σ',h1,h2,h3⟩
 | normal=>exact ⟨a',σ',h1,h2,h3⟩
 | goto l=>exact ⟨a',σ',h1,h2,h3⟩
 | ret=>exact ⟨a',σ',h1,h2,h3⟩
 | panic ch=>exact ⟨a',σ',h1,h2,h3⟩
 | outgrown=>exact ⟨a',σ',h1,h2,h3⟩
theorem awp_cond {c:Operand} {x y:Code} {t:Bool} (hc:evD a c = .v (.bool t)) (h:AWP P r n df (if t then x else y) Q a σ):AWP P r n df (.cond c x y) Q a σ:=by
 refine ⟨fun w X fr hs=>?_⟩
 refine wpIn_cond (t:=t) ?_ (h.run w X fr hs)
 exact (hs.fr.eval c).val hc
theorem awp_split {c:Operand} {x y:Code} {t:Bool} (hc:evD a c = .v (.bool t)) (ht:t=true→AWP P r n df x Q a σ) (hf:t=false→AWP P r n df y Q a σ):AWP P r n df (.cond c x y) Q a σ:=by
 cases t
 ·exact awp_cond hc (hf rfl)
 ·exact awp_cond hc (ht rfl)
theorem ba3 {c:Code} (I:Nat→List D→aa1→Prop) (n₀:Nat) (h₀:I n₀ a σ)
  (round:∀ m a σ,I m a σ→AWP P r n df c (thenA (fun a' σ'=>∃ m',m' < m∧I m' a' σ') Q) a σ):AWP P r n df (.loop c) Q a σ:=by
 refine ⟨fun w X fr hs=>?_⟩
 refine wpIn_loop_ghost (fun m fr' w'=>∃ a' σ',I m a' σ'∧St w' X df a' σ' fr'∧Mv w σ w' σ') n₀ ⟨a,σ,h₀,hs,Mv.refl _ _⟩ ?_
 rintro m fr' w' ⟨a',σ',h1,h2,h3⟩
 refine wpIn_mono ((round m a' σ' h1).run w' X fr' h2) ?_
 rintro e fr'' w'' ⟨a'',σ'',k1,k2,k3⟩
 cases e with
 | normal=>obtain ⟨m',hm,hI⟩:=k1;exact ⟨m',hm,a'',σ'',hI,k2,h3.trans k3⟩
 | exit id=>exact ⟨a'',σ'',k1,k2,h3.trans k3⟩
 | goto l=>exact ⟨a'',σ'',k1,k2,h3.trans k3⟩
 | ret=>exact ⟨a'',σ'',k1,k2,h3.trans k3⟩
 | panic ch=>exact ⟨a'',σ'',k1,k2,h3.trans k3⟩
 | outgrown=>exact ⟨a'',σ'',k1,k2,h3.trans k3⟩
end
end
end Go.Proofs.YtjbbmjjildhfbaaGreatDoor
