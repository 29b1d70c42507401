/- A part of the proof: Rep Spec TySpec TyQ Probs Cs V1 Map Gb. -/
import Derived.WalkKit
import Derived.Lib.Hide
import Derived.Deep.Draws
import Derived.Maps.OwnSet
import Derived.Test.YtilnpcolgcmofaaGreatDoorProg
import Derived.Lib.LaidTab
import Derived.Lib.ItoaLen
set_option maxRecDepth 100000
set_option maxHeartbeats 20000000
set_option linter.all false
namespace Go.Proofs.YtilnpcolgcmofaaGreatDoor
open Tryz
/-- A proof, set aside. -/
structure ar(B : Prop) : Prop where
  run : B
end Go.Proofs.YtilnpcolgcmofaaGreatDoor
namespace Go.Proofs.YtilnpcolgcmofaaGreatDoor
open Tryz
section
open Go.RowKit
structure aX(S:Nat->Prop)(w w':World):Prop where
 os:w'.os=w.os
 tape:w'.tape=w.tape
 output:w'.output=w.output
 size:w.heap.size<=w'.heap.size
 block:∀b,b<w.heap.size->¬S b->w'.heap[b]?=w.heap[b]?
def zT:=@Nat.le_refl
theorem aX.refl(S:Nat->Prop)(w:World):aX S w w:=⟨rfl,rfl,rfl,zT _,λ_ _ _=>rfl⟩
def xH:=@Nat.le_trans
def yI:=@Nat.lt_of_lt_of_le
theorem aX.trans{S:Nat->Prop}{a b c:World}(h:aX S a b)(k:aX S b c):aX S a c:=
 ⟨k.os.trans h.os,k.tape.trans h.tape,k.output.trans h.output,xH h.size k.size,
  λi d hs=>(k.block i (yI d h.size) hs).trans (h.block i d hs)⟩
theorem aX.mono{S c:Nat->Prop}{w w':World}(h:aX S w w')(hs:∀b,b<w.heap.size->S b->c b):aX c w w':=
 ⟨h.os,h.tape,h.output,h.size,λb a n=>h.block b a (λd=>n (hs b a d))⟩
theorem aX.drew{S:Nat->Prop}{a w:World}(h:aX S a w):aX S a w.drew:=⟨h.os,h.tape,h.output,h.size,h.block⟩
theorem aX.drewN{S:Nat->Prop}{a w:World}{n:Nat}(h:aX S a w):aX S a (w.drewN n):=⟨h.os,h.tape,h.output,h.size,h.block⟩
theorem aX.alloc{S:Nat->Prop}{a w:World}(h:aX S a w)(o:Obj):aX S a (w.alloc o):=
 ⟨h.os,h.tape,h.output,by simp;have:=h.size;omega,λb c n=>(Below.heap_alloc w o b (yI c h.size)).trans (h.block b c n)⟩
theorem aX.setCell{S:Nat->Prop}{a w:World}(h:aX S a w){p:Addr}(c:a.heap.size<=p.block\/S p.block)(v:Value):aX S a (w.setCell p v):=
 ⟨h.os,h.tape,h.output,by simp;exact h.size,λb d n=>(Below.heap_setCell w p v b (by
  intro e;subst e;rcases c with c|c
  .omega
  .exact n c)).trans (h.block b d n)⟩
theorem aX.cell{S:Nat->Prop}{w w':World}(h:aX S w w'){p:Addr}{v:Value}(c:w.cell? p=some v)(a:¬S p.block):w'.cell? p=some v:=
 (World.cell?_of_block (w:=w) (h.block p.block (World.block_lt_of_cell? w p c) a)).trans c
def Ex(w w':World):Prop:=aX (λ_=>False) w w'
theorem Ex.refl(w:World):Ex w w:=aX.refl _ _
theorem Ex.trans{a b c:World}(h:Ex a b)(k:Ex b c):Ex a c:=aX.trans h k
theorem Ex.drew{a w:World}(h:Ex a w):Ex a w.drew:=aX.drew h
theorem Ex.drewN{a w:World}{n:Nat}(h:Ex a w):Ex a (w.drewN n):=aX.drewN h
theorem Ex.alloc{a w:World}{o:Obj}(h:Ex a w):Ex a (w.alloc o):=aX.alloc h o
theorem Ex.setCell{a w:World}(h:Ex a w){p:Addr}(b:a.heap.size<=p.block)(v:Value):Ex a (w.setCell p v):=aX.setCell h (Or.inl b) v
theorem Ex.size{w w':World}(h:Ex w w'):w.heap.size<=w'.heap.size:=aX.size h
theorem Ex.cell{w w':World}(h:Ex w w'){p:Addr}{v:Value}(c:w.cell? p=some v):w'.cell? p=some v:=aX.cell h c (λx=>x)
theorem Ex.block{w w':World}(h:Ex w w')(b:Nat)(a:b<w.heap.size):w'.heap[b]?=w.heap[b]?:=aX.block h b a (λx=>x)
theorem Ex.below{w w':World}(h:Ex w w'):Below w.heap.size w w':=⟨aX.os h,aX.tape h,aX.output h,aX.size h,λk a=>Ex.block h k a⟩
theorem Ex.frozen{w w':World}(h:Ex w w'){p:Addr}(a:p.block<w.heap.size):w'.frozen? p=w.frozen? p:=World.frozen?_of_block (w:=w) (Ex.block h p.block a)
theorem Ex.keep{S:Nat->Prop}{w w':World}(h:Ex w w'):aX S w w':=aX.mono h (λ_ _ h=>h.elim)
theorem Ex.rules{w w':World}(h:Ex w w'):(∀b o,b<w.heap.size->w'.cell? ⟨b,o,none⟩=w.cell? ⟨b,o,none⟩)/\(∀b o,b<w.heap.size->w'.frozen? ⟨b,o,none⟩=w.frozen? ⟨b,o,none⟩):=
 ⟨λb o c=>World.cell?_of_block (w:=w) (a:=⟨b,o,none⟩) (Ex.block h b c),λb o c=>World.frozen?_of_block (w:=w) (a:=⟨b,o,none⟩) (Ex.block h b c)⟩
def FM(n:Int):Prop:=-9223372036854775808<=n/\n<=9223372036854775807
structure o6{α:Type}(k:Nat)(R:α->List Value->Prop)(w:World)(F:Nat->Prop)(xs:List α)(a:Option Addr)(cap:Nat):Prop where
 le:xs.length<=cap
 at_:∀i x,xs[i]?=some x->∃b off,a=some ⟨b,off,none⟩/\F b/\∃vs:List Value,vs.length=k/\R x vs/\∀j v,vs[j]?=some v->w.cell? ⟨b,off+i*k+j,none⟩=some v
def x7(F:Nat->Prop)(w w':World):Prop:=∀b,F b->b<w.heap.size->w'.heap[b]?=w.heap[b]?
theorem Ex.same{F:Nat->Prop}{w w':World}(h:Ex w w'):x7 F w w':=λb _ a=>Ex.block h b a
theorem aX.same{F S:Nat->Prop}{w w':World}(h:aX S w w')(d:∀b,F b->¬S b):x7 F w w':=λb f a=>h.block b a (d b f)
theorem x7.cell{F:Nat->Prop}{w w':World}(h:x7 F w w'){p:Addr}{v:Value}(c:w.cell? p=some v)(a:F p.block):w'.cell? p=some v:=
 (World.cell?_of_block (w:=w) (h p.block a (World.block_lt_of_cell? w p c))).trans c
def zG:=@List.mem_of_getElem?
theorem o6.keep{α:Type}{k:Nat}{R e:α->List Value->Prop}{w w':World}{F F':Nat->Prop}{xs:List α}{a:Option Addr}{c:Nat}
  (h:o6 k R w F xs a c) (hs:x7 F w w') (hF:∀b,F b->F' b) (n:∀x vs,x∈xs->R x vs->e x vs):o6 k e w' F' xs a c:=
 ⟨h.le,λi x hx=>by
  obtain⟨b,o,m,d,vs,l,r,g⟩:=h.at_ i x hx;exact⟨b,o,m,hF b d,vs,l,n x vs (zG hx) r,λj v f=>hs.cell (g j v f) d⟩⟩
def zW:=@Nat.zero_le
theorem o6.nil{α:Type}{k:Nat}{R:α->List Value->Prop}{w:World}{F:Nat->Prop}{a:Option Addr}{c:Nat}:o6 k R w F ([]:List α) a c:=
 ⟨zW _,λi x hx=>by simp at hx⟩
def bD2(x:Int)(vs:List Value):Prop:=vs=[.int .i64 x]/\FM x
def bD0(s:ByteArray)(vs:List Value):Prop:=vs=[.string s]
def bC9(x:Int×Int)(vs:List Value):Prop:=vs=[.int .i64 x.1,.int .i64 x.2]/\FM x.1/\FM x.2
abbrev Z'(w:World)(F:Nat->Prop):=o6 1 bD2 w F
abbrev MT(w:World)(F:Nat->Prop):=o6 1 bD0 w F
abbrev Z9(w:World)(F:Nat->Prop):=o6 2 bC9 w F
structure am where
 name:ByteArray
 of:ByteArray
 up:ByteArray
 kind:Int
 lo:Int
 hi:Int
 words:List ByteArray
 wz:List Int
structure au where
 name:ByteArray
 lo:Int
 hi:Int
 fields:List am
structure bX where
 name:ByteArray
 tz:List ByteArray
 mz:List (Int×Int)
structure cI where
 name:ByteArray
 kind:ByteArray
 a:ByteArray
 b:ByteArray
 n:Int
structure ak where
 vz:Int
 kz:List au
 lz:List bX
 rules:List cI
def Kx(w:World)(F:Nat->Prop)(x:am)(vs:List Value):Prop:=
 ∃a wc b g,vs=[.string x.name,.string x.of,.string x.up,.int .i64 x.kind,.int .i64 x.lo,.int .i64 x.hi,.slice a x.words.length wc,.slice b x.wz.length g] /\
  FM x.kind/\FM x.lo/\FM x.hi/\MT w F x.words a wc/\Z' w F x.wz b g
abbrev tV(w:World)(F:Nat->Prop):=o6 8 (Kx w F) w F
def Kv(w:World)(F:Nat->Prop)(x:au)(vs:List Value):Prop:=
 ∃a f,vs=[.string x.name,.int .i64 x.lo,.int .i64 x.hi,.slice a x.fields.length f]/\FM x.lo/\FM x.hi/\tV w F x.fields a f
abbrev tU(w:World)(F:Nat->Prop):=o6 4 (Kv w F) w F
def Ku(w:World)(F:Nat->Prop)(x:bX)(vs:List Value):Prop:=
 ∃s sc a m,vs=[.string x.name,.slice s x.tz.length sc,.slice a x.mz.length m]/\MT w F x.tz s sc/\Z9 w F x.mz a m
abbrev tT(w:World)(F:Nat->Prop):=o6 3 (Ku w F) w F
def bD1(x:cI)(vs:List Value):Prop:=vs=[.string x.name,.string x.kind,.string x.a,.string x.b,.int .i64 x.n]/\FM x.n
abbrev tR(w:World)(F:Nat->Prop):=o6 5 bD1 w F
def Qr(w:World)(F:Nat->Prop)(x:ak)(v:Value):Prop:=
 ∃c k b l a r,v= .agg #[.int .i64 x.vz,.slice c x.kz.length k,.slice b x.lz.length l,.slice a x.rules.length r]/\FM x.vz /\
  tU w F x.kz c k/\tT w F x.lz b l/\tR w F x.rules a r
section
variable {w w':World} {F F':Nat->Prop} (hs:x7 F w w') (hF:∀b,F b->F' b)
include hs hF
theorem Kx.keep{x:am}{vs:List Value}(h:Kx w F x vs):Kx w' F' x vs:=by
 obtain⟨a,wc,j,i,g,f,e,d,c,b⟩:=h;exact⟨a,wc,j,i,g,f,e,d,c.keep hs hF (λ_ _ _ h=>h),b.keep hs hF (λ_ _ _ h=>h)⟩
theorem tV.keep{xs:List am}{a:Option Addr}{c:Nat}(h:tV w F xs a c):tV w' F' xs a c:=o6.keep h hs hF (λ_ _ _ h=>h.keep hs hF)
theorem Kv.keep{x:au}{vs:List Value}(h:Kv w F x vs):Kv w' F' x vs:=by
 obtain⟨e,f,d,c,b,a⟩:=h;exact⟨e,f,d,c,b,a.keep hs hF⟩
theorem tU.keep{xs:List au}{a:Option Addr}{c:Nat}(h:tU w F xs a c):tU w' F' xs a c:=o6.keep h hs hF (λ_ _ _ h=>h.keep hs hF)
theorem Ku.keep{x:bX}{vs:List Value}(h:Ku w F x vs):Ku w' F' x vs:=by
 obtain⟨s,sc,a,m,d,c,b⟩:=h;exact⟨s,sc,a,m,d,c.keep hs hF (λ_ _ _ h=>h),b.keep hs hF (λ_ _ _ h=>h)⟩
theorem tT.keep{xs:List bX}{a:Option Addr}{c:Nat}(h:tT w F xs a c):tT w' F' xs a c:=o6.keep h hs hF (λ_ _ _ h=>h.keep hs hF)
theorem tR.keep{xs:List cI}{a:Option Addr}{c:Nat}(h:tR w F xs a c):tR w' F' xs a c:=o6.keep h hs hF (λ_ _ _ h=>h)
theorem Qr.keep{x:ak}{v:Value}(h:Qr w F x v):Qr w' F' x v:=by
 obtain⟨c,k,b,l,a,r,i,g,f,e,d⟩:=h;exact⟨c,k,b,l,a,r,i,g,f.keep hs hF,e.keep hs hF,d.keep hs hF⟩
end
def idx{α:Type}(p:α->Bool)(xs:List α):Int:=match xs.findIdx? p with|some i=>i|none=>-1
def zE:=@List.getElem?_eq_some_iff
def wB:=@List.findIdx?_eq_some_iff_getElem
def zD:=@List.getElem?_eq_getElem
theorem Kb{α:Type}{p:α->Bool}{xs:List α}{k:Nat}{x:α}(a:xs[k]?=some x)(hx:p x=true)(o:∀i y,i<k->xs[i]?=some y->p y=false):idx p xs=k:=by
 have h:k<xs.length:=(zE.1 a).1;have:xs.findIdx? p=some k:=by
  rw[wB];refine⟨h,?_,?_⟩
  .rw[zD h]at a;simp at a;rw[a];exact hx
  .intro j b;simp[o j _ b (zD (by omega))]
 simp[idx,this]
def yO:=@List.getElem?_of_mem
theorem ZM{α:Type}{p:α->Bool}{xs:List α}(h:∀(i:Nat)y,xs[i]?=some y->p y=false):idx p xs= -1:=by
 have:xs.findIdx? p=none:=by
  rw[List.findIdx?_eq_none_iff];intro x hx;obtain⟨i,a⟩:=yO hx;exact h i x a
 simp[idx,this]
theorem DC{α:Type}(p:α->Bool)(xs:List α):-1<=idx p xs:=by unfold idx;split<;>omega
theorem FK{α:Type}(p:α->Bool)(xs:List α):idx p xs<xs.length:=by
 unfold idx;split
 .rename_i i h;have:=wB.1 h;obtain⟨a,_⟩:=this;omega
 .omega
def wC:=@List.any_eq_true
def wE:=@List.getElem_mem
theorem rh{α:Type}(p:α->Bool)(xs:List α):decide (0<=idx p xs)=xs.any p:=by
 unfold idx;split
 .rename_i i h;obtain⟨b,a,_⟩:=wB.1 h;have:xs.any p=true:=wC.2 ⟨xs[i],wE b,a⟩;simp[this]
 .rename_i h;rw[List.findIdx?_eq_none_iff]at h;have:xs.any p=false:=by rw[List.any_eq_false];intro x hx;simp[h x hx]
  simp[this]
theorem ru7{a b:World}(h:Ex a b:=by first|exact Ex.trans hb (show Ex _ w1 from(by repeat(first|exact Ex.refl _|assumption|apply Ex.alloc|apply Ex.drew|apply Ex.drewN|(refine Ex.trans ?_ (by assumption)))))|exact hb1):Ex a b/\(∀d o,d<a.heap.size->b.cell? ⟨d,o,none⟩=a.cell? ⟨d,o,none⟩)/\(∀d o,d<a.heap.size->b.frozen? ⟨d,o,none⟩=a.frozen? ⟨d,o,none⟩)/\a.heap.size<=b.heap.size:=⟨h,h.rules.1,h.rules.2,h.size⟩
theorem bD6:(∀(w:World)(o:Obj),(w.alloc o).heap.size=w.heap.size+1)/\(∀(w:World),w.drew.heap.size=w.heap.size)/\(∀(w:World)(p:Addr)(v:Value),(w.setCell p v).heap.size=w.heap.size)/\(∀(w:World)(n:Nat),(w.drewN n).heap=w.heap):=⟨λ_ _=>World.size_alloc ..,λ_=>World.size_drew ..,λ_ _ _=>World.size_setCell ..,λ_ _=>World.heap_drewN ..⟩
theorem z07(w w1:World)(h:w.heap.size<w1.heap.size:=by omega):w.heap.size<w1.heap.size:=h
theorem z17(w w1:World)(h:w.heap.size+1<w1.heap.size:=by omega):w.heap.size+1<w1.heap.size:=h
theorem z27(w w1:World)(h:w.heap.size+1+1<w1.heap.size:=by omega):w.heap.size+1+1<w1.heap.size:=h
end
section
open Go
def JF(c:UInt8):Bool:=decide (97<=(c.toNat:Int))&&decide ((c.toNat:Int)<=122)
def n4(c:UInt8):Bool:=decide (48<=(c.toNat:Int))&&decide ((c.toNat:Int)<=57)
def eV(c:UInt8):Bool:=JF c||n4 c
def cA(n a b:Int):Bool:=decide (a<=n)&&decide (n<=b)
def lG(lo h a b:Int):Bool:=decide (a<=lo)&&(decide (lo<=h)&&decide (h<=b))
def bytes(s:ByteArray):List UInt8:=s.data.toList
def aZ(s:ByteArray):Bool:=cA s.size 1 12&&(match bytes s with|c::_=>JF c|[]=>false)&&(bytes s).all eV
def dG(s:ByteArray):Bool:=s.toList.isEmpty
def seq(a b:ByteArray):Bool:=a.toList==b.toList
def oB(ws:List ByteArray)(gs:List Int):Bool:=
 gs.all (λn=>cA n 0 1048576)&&cA ws.length 1 12&&decide (ws.length=gs.length)&&decide (0<gs.sum)&&ws.all aZ
def xj(r:cI):Bool:=aZ r.name&&aZ r.kind&&(dG r.a||aZ r.a)&&(dG r.b||aZ r.b) && !(dG r.a&&dG r.b)&&cA r.n (-1048576) 1048576
def cb(n:Nat)(m:Int×Int):Bool:=cA m.1 0 (n-1)&&cA m.2 0 (n-1)
def j6(x:bX):Bool:=aZ x.name&&cA x.tz.length 1 12&&x.tz.all aZ&&decide (x.mz.length<=32)&&x.mz.all (cb x.tz.length)
def im(k:Int):Bool:=k==1||k==4||k==5||k==6||k==7||k==8
def io(k:Int):Bool:=k==7||k==8
def il(k:Int):Bool:=k==1||k==2||k==4||k==5||k==7
def iU(k:Int):Bool:=il k||k==0
def eu(k:Int):Bool:=k==3
def l5(f:am):Bool:=(im f.kind||dG f.of)&&(io f.kind||dG f.up)&&(iU f.kind||f.lo==0)&&(il f.kind||f.hi==0)&&(eu f.kind||(f.words.isEmpty&&f.wz.isEmpty))
def fP(f:am):Bool:=
 if f.kind=0 then cA f.lo (-1048576) 1048576
 else if f.kind=1 then aZ f.of&&lG f.lo f.hi 0 65536
 else if f.kind=2 then lG f.lo f.hi (-1048576) 1048576
 else if f.kind=3 then oB f.words f.wz
 else if f.kind=4 then(dG f.of||aZ f.of)&&lG f.lo f.hi (-1048576) 1048576
 else if f.kind=5 then aZ f.of&&lG f.lo f.hi 0 32
 else if f.kind=6 then aZ f.of
 else if f.kind=7 then aZ f.of&&aZ f.up&&lG f.lo f.hi 0 1048576
 else if f.kind=8 then aZ f.of&&aZ f.up
 else false
def dF(f:am):Bool:=aZ f.name&&l5 f&&fP f
def jv(k:au):Bool:=aZ k.name&&lG k.lo k.hi 0 65536&&decide (k.fields.length<=10)&&k.fields.all dF
def ik(x:ak):Bool:=cA x.vz 0 1048576&&decide (x.kz.length<=6)&&decide (x.lz.length<=6)&&decide (x.rules.length<=16)&&x.kz.all jv&&x.lz.all j6&&x.rules.all xj
theorem EM(a b:ByteArray):seq a b=true↔a=b:=by
 unfold seq;rw[beq_iff_eq,ByteArray.toList_eq,ByteArray.toList_eq];constructor
 .intro h;cases a;cases b;simp at h;simp[h]
 .intro h;rw[h]
theorem PN(a:ByteArray):seq a a=true:=(EM a a).2 rfl
def gQ(s:ByteArray):Prop:=s.size<=1000000
structure SmF(f:am):Prop where
 name:gQ f.name
 of:gQ f.of
 up:gQ f.up
 words:∀s,s∈f.words->gQ s
 nwords:f.words.length<=1000000
 nweights:f.wz.length<=1000000
structure SmK(k:au):Prop where
 name:gQ k.name
 fields:∀f,f∈k.fields->SmF f
 nfields:k.fields.length<=1000000
structure SmL(x:bX):Prop where
 name:gQ x.name
 tz:∀s,s∈x.tz->gQ s
 nstates:x.tz.length<=1000000
 nmoves:x.mz.length<=1000000
structure SmR(r:cI):Prop where
 name:gQ r.name
 kind:gQ r.kind
 a:gQ r.a
 b:gQ r.b
structure Z6(x:ak):Prop where
 kz:∀k,k∈x.kz->SmK k
 lz:∀l,l∈x.lz->SmL l
 rules:∀r,r∈x.rules->SmR r
 nkinds:x.kz.length<=1000000
 nlives:x.lz.length<=1000000
 nrules:x.rules.length<=1000000
theorem gQ.le{s:ByteArray}(h:gQ s):s.size<=9223372036854775807:=by unfold gQ at h;omega
end
section
open Go
def bf(x:ak)(n:ByteArray):Int:=idx (λk=>seq k.name n) x.kz
def a7(k:au)(n:ByteArray):Int:=idx (λf=>seq f.name n) k.fields
def dw(x:ak)(i:Int):Option au:=if 0<=i then x.kz[i.toNat]? else none
def fieldAt(x:ak)(i j:Int):Option am:=match dw x i with|some k=>if 0<=j then k.fields[j.toNat]? else none|none=>none
def refUp(x:ak)(i:Int)(f:am):Int:=if bf x f.of<i then bf x f.of else -1
def ED(u j:Int):Option am->Option am
 |some g=>if u<j/\g.kind=1 then some g else none
 |none=>none
def Rn(x:ak)(i j:Int)(f:am):Option am:=
 match dw x i with
 |none=>none
 |some k=>ED (a7 k f.up) j (fieldAt x i (a7 k f.up))
def xh(x:ak)(i:Int):Option am->Int
 |some g=>refUp x i g
 |none=>-1
def aI(x:ak)(i j:Int):Int:=
 match fieldAt x i j with
 |none=>-1
 |some f=>if f.kind=7\/f.kind=8 then xh x i (Rn x i j f)else if f.kind=1 then refUp x i f else -1
def y4(x:ak)(i:Int)(f:am):List Int:=
 match dw x (bf x f.of)with
 |none=>[]
 |some k=>((List.range k.fields.length).filter λ(j:Nat)=>match k.fields[j]? with|some g=>decide (g.kind=7)&&seq g.of f.name&&decide (aI x (bf x f.of) j=i)|none=>false).map (λ(j:Nat)=>(j:Int))
def JM(x:ak)(i:Int)(f:am):Bool:=!decide (f.kind=6)||decide (bf x f.of<=i)
end
section
open Go
def EI(x:ak)(o i:Int)(f:am)(g:am)(j:Nat):Bool:=decide (g.kind=7)&&seq g.of f.name&&decide (aI x o j=i)
def tF(x:ak)(o i:Int)(f:am)(s:List am)(n:Nat):List Int:=
 ((List.range n).filter λ(j:Nat)=>match s[j]? with|some g=>EI x o i f g j|none=>false).map (λ(j:Nat)=>(j:Int))
def vZ:=@List.filter_append
def yB:=@List.map_append
theorem as1(x:ak)(o i:Int)(f:am)(s:List am)(n:Nat)(g:am)(h:s[n]?=some g):tF x o i f s (n+1)=tF x o i f s n++(if EI x o i f g n then[(n:Int)]else[]):=by
 simp only[tF,List.range_succ,vZ,yB]
 congr 1
 simp only[List.filter_cons,h,List.filter_nil];split<;>simp_all
def zL:=@List.length_map
theorem aI7(x:ak)(o i:Int)(f:am)(s:List am)(n:Nat):(tF x o i f s n).length<=n:=by
 simp only[tF,zL];exact xH (List.length_filter_le _ _) (by simp)
theorem mJ(x:ak)(i:Int)(f:am)(k:au)(h:dw x (bf x f.of)=some k):y4 x i f=tF x (bf x f.of) i f k.fields k.fields.length:=by
 simp only[y4,h,tF,EI]<;>rfl
theorem v7(x:ak)(n:ByteArray)(h:0<=bf x n):∃(o:Nat)(k:au),bf x n=o/\x.kz[o]?=some k/\seq k.name n=true:=by
 unfold bf idx at *;split at h
 .rename_i o a;obtain⟨c,b,_⟩:=wB.1 a;exact⟨o,x.kz[o],by simp[a],zD c,b⟩
 .omega
theorem mW(x:ak)(i:Int)(f:am)(h:0<=refUp x i f):∃(o:Nat)(k:au),refUp x i f=o/\x.kz[o]?=some k:=by
 unfold refUp at *;split at h
 .obtain⟨o,k,b,a,_⟩:=v7 x f.of h;exact⟨o,k,by rw[if_pos (by assumption)];exact b,a⟩
 .omega
def uC:=@if_false
theorem kt(x:ak)(i j:Int)(h:0<=aI x i j):∃(o:Nat)(k:au),aI x i j=o/\x.kz[o]?=some k:=by
 unfold aI at *
 cases b:fieldAt x i j with
 |none=>simp[b]at h
 |some f=>
  simp only[b]at h⊢;split at h
  .rename_i a;simp only[a,if_true];unfold xh at *;split at h
   .rename_i g d;exact mW x i g h
   .omega
  .rename_i a;simp only[a,uC];split at h
   .rename_i c;simp only[c,if_true];exact mW x i f h
   .omega
def gU(x:ak)(i j:Int)(f:am):Option am:=
 if aI x i j<0 then none else match dw x (aI x i j)with|some k=>fieldAt x (aI x i j) (a7 k f.of)|none=>none
def x2:am:=⟨⟨#[]⟩,⟨#[]⟩,⟨#[]⟩,0,0,0,[],[]⟩
def ff(x:ak)(i j:Int)(f:am):am×Bool:=match gU x i j f with|some g=>(g,true)|none=>(x2,false)
def hK(x:ak)(i j:Int):am×Bool:=match fieldAt x i j with|some g=>(g,true)|none=>(x2,false)
def js:List (Bool×Int)->Int
 |[]=>0
 |(true,c)::_=>c
 |(false,_)::l=>js l
def eZ(x:ak)(k:au)(o:Int)(n:ByteArray):Bool:=!dG n && !(hK x o (a7 k n)).2
def fJ(x:ak)(k:au)(o:Int)(n:ByteArray):Bool:=!dG n&&((hK x o (a7 k n)).1.kind !=2&&(hK x o (a7 k n)).1.kind !=4)
def oG(x:ak)(i:Nat)(r:cI):Bool:=(x.rules.take i).any (λs=>seq s.name r.name)
def jq(x:ak)(i:Nat)(r:cI):Int:=
 match dw x (bf x r.kind)with
 |none=>js [(oG x i r,7),(true,12),(false,13),(seq r.a r.b,1)]
 |some k=>js [(oG x i r,7),(eZ x k (bf x r.kind) r.a||eZ x k (bf x r.kind) r.b,12),(fJ x k (bf x r.kind) r.a||fJ x k (bf x r.kind) r.b,13),(seq r.a r.b,1)]
theorem aC6:∀(f:List (Bool×Int))(n:Nat),(∀(j:Nat)x,j<n->f[j]?=some x->x.1=false)->js (f.drop n)=js f
 |f,0,_=>by simp
 |[],n+1,_=>by simp
 |(b,c)::l,n+1,h=>by
  have a:b=false:=h 0 (b,c) (by omega) rfl;subst a;have:=aC6 l n (λj x d hx=>h (j+1) x (by omega) (by simpa using hx))
  simpa [js]using this
def vG:=@List.drop_eq_getElem_cons
theorem wm{f:List (Bool×Int)}{n:Nat}{x:Bool×Int}(h:∀(j:Nat)x,j<n->f[j]?=some x->x.1=false)(hx:f[n]?=some x)(a:x.1=true):js f=x.2:=by
 rw[←aC6 f n h];have t:=(zE.1 hx).1;have e:=(zE.1 hx).2;rw[vG t,e];obtain⟨b,c⟩:=x;simp only at a;subst a;rfl
theorem nQ{f:List (Bool×Int)}(h:∀(j:Nat)x,f[j]?=some x->x.1=false):js f=0:=by
 rw[←aC6 f f.length (λj x _ hx=>h j x hx),List.drop_length];rfl
end
section
open Go
abbrev fp:=Int×Int×Int×Int
def one(k f r e:Int):List fp:=if e=0 then[]else[(k,f,r,e)]
theorem EL(k f r e:Int):(one k f r e).length<=1:=by unfold one;split<;>simp
theorem vk(k f r:Int):one k f r 0=[]:=by simp[one]
def aq{α:Type}(q:Nat)(g:Nat->List α):List α:=(List.range q).flatMap g
theorem j9{α:Type}(q:Nat)(g:Nat->List α):aq (q+1) g=aq q g++g q:=by simp[aq,List.range_succ,List.flatMap_append]
def zI:=@List.length_append
def vC:=@Nat.add_mul
theorem fL{α:Type}{g:Nat->List α}{m:Nat}(h:∀i,(g i).length<=m):∀q,(aq q g).length<=q*m
 |0=>by simp[aq]
 |q+1=>by rw[j9,zI,vC];have:=fL h q;have:=h q;omega
def gg(x:ak)(i:Int)(f:am):Int×List Int:=if JM x i f then(-1,[])else(bf x f.of,y4 x i f)
def cq(x:ak)(i j:Int)(f:am):Int×am:=match gU x i j f with
 |none=>(-1,x2)
 |some g=>(g.kind,g)
def FG(x:ak)(i j:Int)(f:am)(up:Int):Int:=
 if up<0 then 12
 else if f.kind=7 then(if(cq x i j f).1=6/\bf x (cq x i j f).2.of=i then 0 else 13)
 else if(cq x i j f).1<0\/(cq x i j f).1=0\/(cq x i j f).1=1\/(cq x i j f).1=6\/(cq x i j f).1=7 then 13 else 0
def qI(x:ak)(i j:Int)(f:am):Int:=match dw x i with
 |none=>0
 |some k=>if dG f.of then 0 else if a7 k f.of<0\/j<=a7 k f.of then 12 else match k.fields[(a7 k f.of).toNat]? with|some g=>if g.kind=4 then 0 else 12|none=>12
def cM(x:ak)(i j:Int)(f:am):Int:=
 if f.kind=0/\0<j then 13
 else if f.kind=0\/f.kind=2\/f.kind=3 then 0
 else if f.kind=1 then(if aI x i j<0 then 12 else 0)
 else if f.kind=4 then qI x i j f
 else if f.kind=5 then(if x.lz.any (λl=>seq l.name f.of)then 0 else 12)
 else if f.kind=6 then(if(gg x i f).1<0 then 12 else if(gg x i f).2.length=1 then 0 else 11)
 else FG x i j f (aI x i j)
def bg8(s:List am):Bool:=match s with|[]=>false|f::_=>decide (f.kind=0)
def JP(x:ak)(i:Nat)(l:bX):Bool:=(x.lz.take i).any (λm=>seq m.name l.name)
def lA(x:ak)(i:Nat):List fp:=match x.lz[i]? with|some l=>one (-1) i (-1) (if JP x i l then 7 else 0)|none=>[]
def eX(x:ak)(i:Nat)(k:au):Int:=if bf x k.name<i then 7 else if bg8 k.fields then 0 else 11
def l8(x:ak)(i:Nat)(k:au)(j:Nat)(f:am):Int:=if a7 k f.name<j then 7 else cM x i j f
def fo(x:ak)(i:Nat)(k:au)(j:Nat):List fp:=match k.fields[j]? with|some f=>one i j (-1) (l8 x i k j f)|none=>[]
def dQ(x:ak)(i:Nat):List fp:=match x.kz[i]? with|some k=>one i (-1) (-1) (eX x i k)++aq k.fields.length (fo x i k)|none=>[]
def lZ(x:ak)(i:Nat):List fp:=match x.rules[i]? with|some r=>one (-1) (-1) i (jq x i r)|none=>[]
def fI(x:ak):Int:=if ik x then 0 else 1
def eH(x:ak):List fp:=if fI x=0 then aq x.lz.length (lA x)++aq x.kz.length (dQ x)++aq x.rules.length (lZ x)else[(-1,-1,-1,fI x)]
theorem aE6(x:ak)(i:Nat):(lA x i).length<=1:=by unfold lA;split;exact EL _ _ _ _;simp
theorem aw4(x:ak)(i:Nat)(k:au)(j:Nat):(fo x i k j).length<=1:=by unfold fo;split;exact EL _ _ _ _;simp
theorem be2(x:ak)(i:Nat):(lZ x i).length<=1:=by unfold lZ;split;exact EL _ _ _ _;simp
theorem bg7(x:ak)(i:Nat)(h:∀k∈x.kz,k.fields.length<=10):(dQ x i).length<=11:=by
 unfold dQ;split
 .rename_i k a;rw[zI];have d:=fL (aw4 x i k) k.fields.length;have c:=h k (zG a);have b:=EL i (-1) (-1) (eX x i k);omega
 .simp
structure MR(x:ak):Prop where
 nk:x.kz.length<=6
 nl:x.lz.length<=6
 nr:x.rules.length<=16
 nf:∀k∈x.kz,k.fields.length<=10
 kz:∀k∈x.kz,jv k=true
 lz:∀l∈x.lz,j6 l=true
 rules:∀r∈x.rules,xj r=true
def zJ:=@Bool.and_eq_true
def zQ:=@decide_eq_true_eq
def yA:=@List.all_eq_true
theorem zy{x:ak}(h:ik x=true):MR x:=by
 simp only[ik,zJ,zQ,yA]at h;obtain⟨⟨⟨⟨⟨⟨_,g⟩,f⟩,e⟩,a⟩,d⟩,c⟩:=h;exact⟨g,f,e,λk b=>by have:=a k b;simp only[jv,zJ,zQ]at this;exact this.1.2,a,d,c⟩
theorem kq{x:ak}(h:fI x=0):MR x:=by
 unfold fI at h;split at h
 .exact zy (by assumption)
 .omega
end
section
open Go
abbrev Wd:=List (List (List Int))
structure Rf where
 kind:Nat
 field:Nat
 up:Int
 least:Int
def eN(x:ak)(k:Nat)(kd:au)(i:Nat):List Rf:=match kd.fields[i]? with
 |some f=>if f.kind=1 then[⟨k,i,aI x k i,f.lo⟩]else[]
 |none=>[]
def fB(x:ak)(k:Nat):List Rf:=match x.kz[k]? with
 |some kd=>aq kd.fields.length (eN x k kd)
 |none=>[]
def bM(x:ak):List Rf:=aq x.kz.length (fB x)
theorem mY(x:ak)(k:Nat)(kd:au)(i:Nat):(eN x k kd i).length<=1:=by unfold eN;split<;>(try split)<;>simp
theorem mX(x:ak)(k:Nat)(h:∀k∈x.kz,k.fields.length<=1000):(fB x k).length<=1000:=by
 unfold fB;split
 .rename_i kd a;have c:=fL (mY x k kd) kd.fields.length;have b:=h kd (zG a);omega
 .simp
def xT:=@List.mem_range
theorem tE{α:Type}{q:Nat}{g:Nat->List α}{a:α}:a∈aq q g↔∃i,i<q/\a∈g i:=by
 unfold aq;rw[List.mem_flatMap];constructor
 .rintro⟨i,h,b⟩;exact⟨i,xT.1 h,b⟩
 .rintro⟨i,h,b⟩;exact⟨i,xT.2 h,b⟩
def zN:=@List.mem_singleton
theorem aZ7{x:ak}{r:Rf}(h:r∈bM x):∃kd f,x.kz[r.kind]?=some kd/\kd.fields[r.field]?=some f/\f.kind=1/\r.up=aI x r.kind r.field/\r.least=f.lo:=by
 obtain⟨k,c,h⟩:=tE.1 h;unfold fB at h;split at h
 .rename_i kd d;obtain⟨i,e,h⟩:=tE.1 h;unfold eN at h;split at h
  .rename_i f a;split at h
   .rename_i b;rw[zN]at h;subst h;exact⟨kd,f,d,a,b,rfl,rfl⟩
   .cases h
  .cases h
 .cases h
def tP(w:Wd)(r:Rf)(l:List Int):Bool:=!(decide (l.getD r.field 0<0)||decide ((w.getD r.up.toNat []).length<=l.getD r.field 0))
def sT(x:ak)(k:Nat)(l:List Int):Bool:=decide (l.length=(match x.kz[k]? with|some kd=>kd.fields.length|none=>0))
theorem eI{α:Type}{l:List α}{i:Nat}{a:α}(h:l[i]?=some a)(d:α):l.getD i d=a:=by simp[List.getD_eq_getElem?_getD,h]
end
section
open Go
structure VI where
 op:Int
 a:Int
 b:Int
 c:Int
abbrev cE:=List VI
def di(o:Int):Int×Int×Int:=
 if o=0 then(1,0,0)else if o=1 then(2,3,0)else if o=2 then(2,2,2)else if o=3 then(2,2,2)else if o=4 then(2,4,0)else if o=5 then(2,4,5)else if o=6 then(6,0,0)else(2,2,6)
def oV(s:Int):Int:=if s=3 then -1048576 else 0
def k8(s n:Int):Int:=if s=1 then 250 else if s=2 then 7 else if s=3 then 1048576 else if s=4 then 5 else if s=5 then 9 else if s=6 then n else 0
def cz(s v n:Int):Bool:=decide (oV s<=v)&&decide (v<=k8 s n)
def oU(n:Int)(i:VI):Bool:=decide (0<=i.op)&&decide (i.op<=8)&&cz (di i.op).1 i.a n&&cz (di i.op).2.1 i.b n&&cz (di i.op).2.2 i.c n
def yw(p:cE):Int:=if 128<p.length then 4 else if p.all (oU p.length)then 0 else 1
def dk(x:ak)(i:VI):Bool:=
 if i.op=4 then decide (i.b<x.kz.length)else if i.op=5 then(match x.kz[i.b.toNat]? with|some k=>decide (i.c<k.fields.length)|none=>false)else true
def Q1(x:ak)(p:cE):Bool:=p.all (dk x)
inductive VS where
 |go (r:List Int) (at_:Int)
 |fin (code:Int)
def ek(r:List Int)(i:Int):Int:=r.getD i.toNat 0
def iR(w:Wd)(k:Int):Int:=((w.getD k.toNat []).length:Nat)
def ug(w:Wd)(k i f:Int):Int:=((w.getD k.toNat []).getD i.toNat []).getD f.toNat 0
def gi(w:Wd)(r:List Int)(at_:Int)(i:VI):VS:=
 if i.op=0 then .fin i.a
 else if i.op=1 then .go (r.set i.a.toNat i.b) (at_+1)
 else if i.op=2 then .go (r.set i.a.toNat (IntKind.i64.wrap (ek r i.b+ek r i.c))) (at_+1)
 else if i.op=3 then .go (r.set i.a.toNat (IntKind.i64.wrap (ek r i.b-ek r i.c))) (at_+1)
 else if i.op=4 then .go (r.set i.a.toNat (iR w i.b)) (at_+1)
 else if i.op=5 then(if ek r i.a<0\/iR w i.b<=ek r i.a then .fin 251 else .go (r.set i.a.toNat (ug w i.b (ek r i.a) i.c)) (at_+1))
 else if i.op=6 then .go r i.a
 else if i.op=7 then .go r (if ek r i.a<ek r i.b then i.c else at_+1)
 else .go r (if ek r i.a=ek r i.b then i.c else at_+1)
def ey(w:Wd)(p:cE):Nat->Int->List Int->Int->Int×Int×Int
 |0,n,_,at_=>if at_=p.length then(0,n,0)else(0,0,23)
 |f+1,n,r,at_=>match p[at_.toNat]? with
  |none=>(0,n,0)
  |some i=>match gi w r at_ i with
   |.fin c=>(c,n+1,0)
   |.go b a=>ey w p f (n+1) b a
def gm(x:ak)(p:cE)(w:Wd)(m:Int):Int×Int×Int:=
 if yw p≠0 then(0,0,yw p)
 else if m<0\/1000000<m then(0,0,4)
 else if Q1 x p=false then(0,0,12)
 else ey w p m.toNat 0 (List.replicate 8 0) 0
structure Kz(n:Nat)(i:VI):Prop where
 op:0<=i.op/\i.op<=8
 a:cz (di i.op).1 i.a n=true
 b:cz (di i.op).2.1 i.b n=true
 c:cz (di i.op).2.2 i.c n=true
theorem ZS{n:Nat}{i:VI}:oU n i=true↔Kz n i:=by
 unfold oU;simp only[zJ,zQ];exact⟨λ⟨⟨⟨⟨d,c⟩,b⟩,a⟩,h⟩=>⟨⟨d,c⟩,b,a,h⟩,λ⟨⟨d,c⟩,b,a,h⟩=>⟨⟨⟨⟨d,c⟩,b⟩,a⟩,h⟩⟩
theorem xp{v n:Int}(h:cz 2 v n=true):0<=v/\v<=7:=by simpa [cz,oV,k8]using h
theorem Rv{v n:Int}(h:cz 6 v n=true):0<=v/\v<=n:=by simpa [cz,oV,k8]using h
theorem ZZ{v n:Int}(h:cz 4 v n=true):0<=v/\v<=5:=by simpa [cz,oV,k8]using h
theorem bb2{v n:Int}(h:cz 5 v n=true):0<=v/\v<=9:=by simpa [cz,oV,k8]using h
theorem bd1{p:cE}(h:yw p=0):p.length<=128/\∀i∈p,Kz p.length i:=by
 unfold yw at h;split at h
 .cases h
 .split at h
  .rename_i c b;exact⟨by omega,λi a=>ZS.1 (yA.1 b i a)⟩
  .cases h
end
section
open Go Go.Maps Go.MapKept
open Go.ChangeMaps (setBlock modify_eq_set heap_setBlock_same heap_setBlock_other)
structure fM(P:Program)(k:TypeId)(es:Array MapEntry)(clock n:Nat)(f:Value->Option Value):Prop where
 size:es.size<=n
 stamped:Stamped es clock
 keys:∀e∈es.toList,∃l,keyOf P k e.key=some l
 mem:∀e∈es.toList,f e.key=some e.val
 only:∀key v,f key=some v->∃e∈es.toList,e.key=key/\e.val=v
def bV(P:Program)(k:TypeId)(w:World)(b n:Nat)(f:Value->Option Value):Prop:=∃es clock,w.heap[b]?=some (.map es clock)/\fM P k es clock n f
def MV(P:Program)(k:TypeId)(w:World)(b n:Nat)(f:Value->Option Value)(y s:Value):Prop:=
 ∃es clock,w.heap[b]?=some (.map es clock)/\fM P k es clock n f/\∃e∈es.toList,e.key=y/\s=goInt e.born
noncomputable def dh (f:Value->Option Value) (key v:Value):Value->Option Value:=open Classical in λx=>if x=key then some v else f x
theorem MV.is{P:Program}{k:TypeId}{w:World}{b n:Nat}{f:Value->Option Value}{y s:Value}(h:MV P k w b n f y s):bV P k w b n f:=by
 obtain⟨es,c,d,a,_⟩:=h;exact⟨es,c,d,a⟩
theorem bV.made(P:Program)(k:TypeId)(w:World)(n:Nat):bV P k (w.alloc (.map #[] 0)) w.heap.size n (λ_=>none):=
 ⟨#[],0,(MapKept.heap_alloc w _).1,⟨by simp,stamped_empty 0,by simp,by simp,by simp⟩⟩
def zX:=@Array.getElem?_eq_some_iff
theorem bV.lt{P:Program}{k:TypeId}{w:World}{b n:Nat}{f:Value->Option Value}(h:bV P k w b n f):b<w.heap.size:=by
 obtain⟨es,clock,a,_⟩:=h;exact(zX.1 a).1
theorem bV.same{P:Program}{k:TypeId}{w w':World}{b n:Nat}{f:Value->Option Value}(h:bV P k w b n f)(hs:w'.heap[b]?=w.heap[b]?):bV P k w' b n f:=by
 obtain⟨es,clock,a,h⟩:=h;exact⟨es,clock,hs.trans a,h⟩
theorem bV.mono{P:Program}{k:TypeId}{w:World}{b n m:Nat}{f:Value->Option Value}(h:bV P k w b n f)(a:n<=m):bV P k w b m f:=by
 obtain⟨es,clock,c,h⟩:=h;exact⟨es,clock,c,⟨xH h.size a,h.stamped,h.keys,h.mem,h.only⟩⟩
section
variable {P:Program} {k t e:TypeId} {w:World} {b n:Nat} {f:Value->Option Value} {es:Array MapEntry} {clock:Nat}
theorem fM.look(E:fM P k es clock n f)(K:Keyed P k){y:Value}{kl:Lit}(h:keyOf P k y=some kl)(w:World) :
  ((Instr.findKey k y es.toList).run P w= .ok none w/\f y=none/\∀x∈es.toList,x.key≠y)\/∃j e0,(Instr.findKey k y es.toList).run P w= .ok (some (j,e0.val)) w/\es.toList[j]?=some e0/\e0.key=y/\f y=some e0.val:=by
 rcases K.find w h es.toList E.keys with⟨b,a⟩|⟨j,e0,b,a,c⟩
 .refine Or.inl ⟨b,?_,a⟩
  cases e:f y with
  |none=>rfl
  |some v=>obtain⟨e0,g,d,_⟩:=E.only y v e;exact absurd d (a e0 g)
 .exact Or.inr ⟨j,e0,b,a,c,by rw[←c];exact E.mem e0 (zG a)⟩
theorem LQ{p:Prop}(h:p:=by
 simp[Instr.lookup,run_underlying ht,MapKept.run_getObj_map hb,K.check w _ hkey,h1,hz,h2,Result.andThen]):p:=h
theorem LK{p:Prop}(h:p:=by
 simp[Instr.lookup,run_underlying ht,MapKept.run_getObj_map hb,K.check w _ hkey,h1,h4,Result.andThen]):p:=h
theorem bV.look(h:bV P k w b n f)(K:Keyed P k)(ht:P.underlying t=some (.map k e)){z:Value}(hz:(zeroValue e).run P w= .ok z w){y:Value}{kl:Lit}(hkey:keyOf P k y=some kl) :
  (Instr.lookup t (.map (some b)) y false).run P w= .ok ((f y).getD z) w:=by
 obtain⟨es,clock,hb,E⟩:=h;rcases E.look K hkey w with⟨h1,h2,_⟩|⟨j,e0,h1,_,_,h4⟩
 .exact LQ
 .exact LK
theorem bV.look_ok(h:bV P k w b n f)(K:Keyed P k)(ht:P.underlying t=some (.map k e)){z:Value}(hz:(zeroValue e).run P w= .ok z w){y:Value}{kl:Lit}(hkey:keyOf P k y=some kl) :
  (Instr.lookup t (.map (some b)) y true).run P w= .ok (.tuple #[(f y).getD z,.bool (f y).isSome]) w:=by
 obtain⟨es,clock,hb,E⟩:=h;rcases E.look K hkey w with⟨h1,h2,_⟩|⟨j,e0,h1,_,_,h4⟩
 .exact LQ
 .exact LK
theorem aX.setBlock{o:Obj}{es:Array MapEntry}{clock:Nat}(a:w.heap[b]?=some (.map es clock)):aX (λx=>x=b) w (setBlock w b o):=
 ⟨rfl,rfl,rfl,by simp[ChangeMaps.setBlock],λi _ h=>heap_setBlock_other a _ (λe=>h e)⟩
def wS:=@List.pairwise_iff_getElem
theorem q8(hs:Stamped es clock){i j:Nat}{x y:MapEntry}(d:es.toList[i]?=some x)(c:es.toList[j]?=some y)(e:i≠j):x.key≠y.key:=by
 have p:=((stamped_iff es clock).1 hs).2.2;obtain⟨b,rfl⟩:=zE.1 d;obtain⟨a,rfl⟩:=zE.1 c;rcases Nat.lt_or_gt_of_ne e with h|h
 .exact wS.1 p i j b a h
 .exact(wS.1 p j i a b h).symm
def zO:=@List.mem_append
theorem fM.push(E:fM P k es clock n f){a v:Value}{kl:Lit}(h:keyOf P k a=some kl)(c:∀x∈es.toList,x.key≠a):fM P k (es.push ⟨a,v,clock⟩) (clock+1) (n+1) (dh f a v):=by
 refine⟨by simp;exact E.size,stamped_push E.stamped c,?_,?_,?_⟩
 .intro x hx;simp only[Array.toList_push,zO,zN]at hx;rcases hx with hx|rfl
  .exact E.keys x hx
  .exact⟨kl,h⟩
 .intro x hx;simp only[Array.toList_push,zO,zN]at hx;rcases hx with hx|rfl
  .simp only[dh,if_neg (c x hx)];exact E.mem x hx
  .simp[dh]
 .intro y u b;simp only[dh]at b;split at b
  .rename_i e;cases b;exact⟨⟨a,v,clock⟩,by simp,e.symm,rfl⟩
  .obtain⟨x,hx,d⟩:=E.only y u b;exact⟨x,by simp[hx],d⟩
def yR:=@List.length_set
theorem fM.modify(E:fM P k es clock n f){b v:Value}{kl:Lit}(d:keyOf P k b=some kl){j:Nat}{e0:MapEntry}(p:es.toList[j]?=some e0)(A:e0.key=b)(g:MapEntry->MapEntry)(F:∀x,(g x).born=x.born)(c:(g e0).key=b)(m:(g e0).val=v) :
  fM P k (es.modify j g) clock n (dh f b v):=by
 have D:es[j]?=some e0:=by simpa using p
 have t:(es.modify j g).toList=es.toList.set j (g e0):=by rw[Array.toList_modify,modify_eq_set _ _ _ _ p]
 have r:j<es.toList.length:=(zE.1 p).1;have w:∀x∈es.toList.set j (g e0),x=g e0\/(x∈es.toList/\x.key≠b):=by
  intro x hx;obtain⟨i,z,ex⟩:=List.getElem_of_mem hx;rw[List.getElem_set]at ex;split at ex
  .exact Or.inl ex.symm
  .rename_i e;have l:i<es.toList.length:=by simpa using z
   refine Or.inr ⟨ex ▸ wE l,?_⟩;rw[←A];exact q8 E.stamped (by rw[zD l,ex]) p (λB=>e B.symm)
 refine⟨by simpa using E.size,stamped_modify E.stamped _ _ (λx _=>F x) (λH _ o=>by rw[D]at o;cases o;rw[c,A]),?_,?_,?_⟩
 .intro x hx;rw[t]at hx;rcases w x hx with rfl|⟨h,_⟩
  .exact⟨kl,by rw[c];exact d⟩
  .exact E.keys x h
 .intro x hx;rw[t]at hx;rcases w x hx with rfl|⟨h,e⟩
  .simp[dh,c,m]
  .simp only[dh,if_neg e];exact E.mem x h
 .intro y u q;simp only[dh]at q;split at q
  .rename_i B;cases q
   refine⟨g e0,?_,by rw[c,B],m⟩;rw[t];exact List.mem_set r _
  .rename_i e;obtain⟨x,hx,C,G⟩:=E.only y u q;refine⟨x,?_,C,G⟩;rw[t];obtain⟨i,z,ex⟩:=List.getElem_of_mem hx;have s:j≠i:=by
    rintro rfl;have:=(zE.1 p).2;rw[ex]at this;subst this;exact e (C.symm.trans A)
   have:=List.getElem_set_ne s (a:=g e0) (by rw[yR];exact z);rw[ex]at this;rw[←this];exact wE _
theorem bV.update(h:bV P k w b n f)(K:Keyed P k)(i:P.underlying t=some (.map k e)){key v:Value}{kl:Lit}(y:keyOf P k key=some kl) :
  ∃w',(Instr.mapUpdate t (.map (some b)) key v).run P w= .ok () w'/\bV P k w' b (n+1) (dh f key v)/\aX (λx=>x=b) w w':=by
 obtain⟨es,clock,a,E⟩:=h;rcases E.look K y w with⟨g,_,d⟩|⟨j,e0,g,d,l,_⟩
 .exact⟨_,by simp[Instr.mapUpdate,run_underlying i,MapKept.run_getObj_map a,K.check w false y,g,MapKept.run_setObj_map _ a,Result.andThen];rfl,⟨_,_,heap_setBlock_same a _,E.push y d⟩,aX.setBlock a⟩
 .have m:es[j]?=some e0:=by simpa using d
  have c:=E.modify y d l (λo=>{ o with key:=key,val:=v }) (λ_=>rfl) rfl rfl;exact⟨_,by simp[Instr.mapUpdate,run_underlying i,MapKept.run_getObj_map a,K.check w false y,g,m,l,K.stays w y,MapKept.run_setObj_map _ a,Result.andThen];rfl,⟨_,_,heap_setBlock_same a _,⟨Nat.le_succ_of_le c.size,c.stamped,c.keys,c.mem,c.only⟩⟩,aX.setBlock a⟩
end
end
section
open Go Go.Maps Go.MapKept
def kb(w:World):Prop:=Lib.TabIs prog w "internal/strconv.uint64pow10" .u64 Lib.pow10Tab
def lP(w:World):Prop:=∀i s,[(⟨#[107,101,121]⟩:ByteArray),⟨#[114,101,102]⟩,⟨#[110,117,109]⟩,⟨#[112,105,99,107]⟩,⟨#[100,97,121]⟩,⟨#[115,116,101,112]⟩,⟨#[115,117,109]⟩,⟨#[115,104,97,114,101]⟩,⟨#[99,111,112,121]⟩][i]?=some s->w.cell? ⟨1,i,none⟩=some (.string s)
def eB:List Nat:=[
 0x428a2f98,0x71374491,0xb5c0fbcf,0xe9b5dba5,0x3956c25b,0x59f111f1,0x923f82a4,0xab1c5ed5,
 0xd807aa98,0x12835b01,0x243185be,0x550c7dc3,0x72be5d74,0x80deb1fe,0x9bdc06a7,0xc19bf174,
 0xe49b69c1,0xefbe4786,0x0fc19dc6,0x240ca1cc,0x2de92c6f,0x4a7484aa,0x5cb0a9dc,0x76f988da,
 0x983e5152,0xa831c66d,0xb00327c8,0xbf597fc7,0xc6e00bf3,0xd5a79147,0x06ca6351,0x14292967,
 0x27b70a85,0x2e1b2138,0x4d2c6dfc,0x53380d13,0x650a7354,0x766a0abb,0x81c2c92e,0x92722c85,
 0xa2bfe8a1,0xa81a664b,0xc24b8b70,0xc76c51a3,0xd192e819,0xd6990624,0xf40e3585,0x106aa070,
 0x19a4c116,0x1e376c08,0x2748774c,0x34b0bcb5,0x391c0cb3,0x4ed8aa4a,0x5b9cca4f,0x682e6ff3,
 0x748f82ee,0x78a5636f,0x84c87814,0x8cc70208,0x90befffa,0xa4506ceb,0xbef9a3f7,0xc67178f2]
def E8(g:Nat)(w:World):Prop:=∀(i n:Nat),eB[i]?=some n->w.cell? ⟨g,i,none⟩=some (.int .u32 (n:Int))
def od(f:FuncId):Value:=.func (.func f) #[] #[]
def hJ:Value->Option Value
 |.int .i64 0=>some (od 310)
 |.int .i64 1=>some (od 311)
 |.int .i64 4=>some (od 312)
 |.int .i64 5=>some (od 313)
 |.int .i64 6=>some (od 315)
 |.int .i64 7=>some (od 316)
 |.int .i64 8=>some (od 318)
 |_=>none
def rr(f:Value->Option Value)(v:Value):Option Value:=(f v).map λx=>.agg #[x]
def Ff(w:World)(O:Nat->Prop):Prop:=∃r,w.cell? ⟨0,0,none⟩=some (.map (some r))/\¬O r/\bV prog 3 w r 7 (rr hJ)
structure rB(w:World)(O:Nat->Prop):Prop where
 lt:∀b,O b->b<w.heap.size
 sz:6<=w.heap.size
 no:∀b,b<6->¬O b
 pow:kb w
 words:lP w
 checks:Ff w O
 rc:E8 2 w
theorem mg{w w':World}(hs:∀b,b<6->w'.heap[b]?=w.heap[b]?)(h:kb w):kb w':=by
 unfold kb Lib.TabIs World.var? at *;rw[show(prog.globalNamed "internal/strconv.uint64pow10")=some 3 by kernel_rfl]at *
 simp only[Option.bind_some]at *;rw[hs _ (by decide)];exact h
theorem rB.keep{w w':World}{O g:Nat->Prop}(h:rB w O)(z:w.heap.size<=w'.heap.size)(j:∀b,b<w.heap.size->¬O b->¬g b)
  (hs:∀b,b<w.heap.size->¬O b->w'.heap[b]?=w.heap[b]?) (l:∀b,g b->b<w'.heap.size):rB w' g:=by
 have d:∀b,b<6->w'.heap[b]?=w.heap[b]?:=λb c=>hs b (yI c h.sz) (h.no b c);refine⟨l,xH h.sz z,λb c=>j b (yI c h.sz) (h.no b c),mg d h.pow,λi s e=>?_,?_,λi n e=>?_⟩
 .exact(World.cell?_of_block (w:=w) (a:=⟨1,i,none⟩) (d 1 (by decide))).trans (h.words i s e)
 .obtain⟨r,m,k,f⟩:=h.checks;exact⟨r,(World.cell?_of_block (w:=w) (a:=⟨0,0,none⟩) (d 0 (by decide))).trans m,j r f.lt k,f.same (hs r f.lt k)⟩
 .exact(World.cell?_of_block (w:=w) (a:=⟨2,i,none⟩) (d 2 (by decide))).trans (h.rc i n e)
theorem rB.ex{w w':World}{O:Nat->Prop}(h:rB w O)(e:Ex w w'):rB w' O:=
 h.keep e.size (λ_ _ h=>h) (λb a _=>e.block b a) (λb a=>yI (h.lt b a) e.size)
theorem rB.mono{w:World}{O c:Nat->Prop}(h:rB w O)(a:∀b,c b->O b):rB w c:=
 h.keep (zT _) (λb _ n o=>n (a b o)) (λ_ _ _=>rfl) (λb d=>h.lt b (a b d))
end
end Go.Proofs.YtilnpcolgcmofaaGreatDoor
