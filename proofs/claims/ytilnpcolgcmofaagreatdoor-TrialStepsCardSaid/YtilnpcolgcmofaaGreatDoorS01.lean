/- A part of the proof: Rep Spec TySpec TyQ Probs Cs V1 Map Gb. -/
import Derived.WalkKit
import Derived.Lib.Hide
import Derived.Deep.Draws
import Derived.Maps.OwnSet
import Derived.Test.YtilnpcolgcmofaaGreatDoorProg
import Derived.Lib.LaidTab
import Derived.Lib.ItoaLen
set_option maxRecDepth 100000
set_option maxHeartbeats 20000000
set_option linter.all false
namespace Go.Proofs.YtilnpcolgcmofaaGreatDoor
open Tryz
/-- A proof, set aside. -/
structure ar(B : Prop) : Prop where
  run : B
end Go.Proofs.YtilnpcolgcmofaaGreatDoor
namespace Go.Proofs.YtilnpcolgcmofaaGreatDoor
open Tryz
section
open Go.RowKit
structure aW(S:Nat->Prop)(w w':World):Prop where
 os:w'.os=w.os
 tape:w'.tape=w.tape
 output:w'.output=w.output
 size:w.heap.size<=w'.heap.size
 block:∀b,b<w.heap.size->¬S b->w'.heap[b]?=w.heap[b]?
def zT:=@Nat.le_refl
theorem aW.refl(S:Nat->Prop)(w:World):aW S w w:=⟨rfl,rfl,rfl,zT _,λ_ _ _=>rfl⟩
def xH:=@Nat.le_trans
def yI:=@Nat.lt_of_lt_of_le
theorem aW.trans{S:Nat->Prop}{a b c:World}(h:aW S a b)(k:aW S b c):aW S a c:=
 ⟨k.os.trans h.os,k.tape.trans h.tape,k.output.trans h.output,xH h.size k.size,
  λi d hs=>(k.block i (yI d h.size) hs).trans (h.block i d hs)⟩
theorem aW.mono{S c:Nat->Prop}{w w':World}(h:aW S w w')(hs:∀b,b<w.heap.size->S b->c b):aW c w w':=
 ⟨h.os,h.tape,h.output,h.size,λb a n=>h.block b a (λd=>n (hs b a d))⟩
theorem aW.drew{S:Nat->Prop}{a w:World}(h:aW S a w):aW S a w.drew:=⟨h.os,h.tape,h.output,h.size,h.block⟩
theorem aW.drewN{S:Nat->Prop}{a w:World}{n:Nat}(h:aW S a w):aW S a (w.drewN n):=⟨h.os,h.tape,h.output,h.size,h.block⟩
theorem aW.alloc{S:Nat->Prop}{a w:World}(h:aW S a w)(o:Obj):aW S a (w.alloc o):=
 ⟨h.os,h.tape,h.output,by simp;have:=h.size;omega,λb c n=>(Below.heap_alloc w o b (yI c h.size)).trans (h.block b c n)⟩
theorem aW.setCell{S:Nat->Prop}{a w:World}(h:aW S a w){p:Addr}(c:a.heap.size<=p.block\/S p.block)(v:Value):aW S a (w.setCell p v):=
 ⟨h.os,h.tape,h.output,by simp;exact h.size,λb d n=>(Below.heap_setCell w p v b (by
  intro e;subst e;rcases c with c|c
  .omega
  .exact n c)).trans (h.block b d n)⟩
theorem aW.cell{S:Nat->Prop}{w w':World}(h:aW S w w'){p:Addr}{v:Value}(c:w.cell? p=some v)(a:¬S p.block):w'.cell? p=some v:=
 (World.cell?_of_block (w:=w) (h.block p.block (World.block_lt_of_cell? w p c) a)).trans c
def Ex(w w':World):Prop:=aW (λ_=>False) w w'
theorem Ex.refl(w:World):Ex w w:=aW.refl _ _
theorem Ex.trans{a b c:World}(h:Ex a b)(k:Ex b c):Ex a c:=aW.trans h k
theorem Ex.drew{a w:World}(h:Ex a w):Ex a w.drew:=aW.drew h
theorem Ex.drewN{a w:World}{n:Nat}(h:Ex a w):Ex a (w.drewN n):=aW.drewN h
theorem Ex.alloc{a w:World}{o:Obj}(h:Ex a w):Ex a (w.alloc o):=aW.alloc h o
theorem Ex.setCell{a w:World}(h:Ex a w){p:Addr}(b:a.heap.size<=p.block)(v:Value):Ex a (w.setCell p v):=aW.setCell h (Or.inl b) v
theorem Ex.size{w w':World}(h:Ex w w'):w.heap.size<=w'.heap.size:=aW.size h
theorem Ex.cell{w w':World}(h:Ex w w'){p:Addr}{v:Value}(c:w.cell? p=some v):w'.cell? p=some v:=aW.cell h c (λx=>x)
theorem Ex.block{w w':World}(h:Ex w w')(b:Nat)(a:b<w.heap.size):w'.heap[b]?=w.heap[b]?:=aW.block h b a (λx=>x)
theorem Ex.below{w w':World}(h:Ex w w'):Below w.heap.size w w':=⟨aW.os h,aW.tape h,aW.output h,aW.size h,λk a=>Ex.block h k a⟩
theorem Ex.frozen{w w':World}(h:Ex w w'){p:Addr}(a:p.block<w.heap.size):w'.frozen? p=w.frozen? p:=World.frozen?_of_block (w:=w) (Ex.block h p.block a)
theorem Ex.keep{S:Nat->Prop}{w w':World}(h:Ex w w'):aW S w w':=aW.mono h (λ_ _ h=>h.elim)
theorem Ex.rules{w w':World}(h:Ex w w'):(∀b o,b<w.heap.size->w'.cell? ⟨b,o,none⟩=w.cell? ⟨b,o,none⟩)/\(∀b o,b<w.heap.size->w'.frozen? ⟨b,o,none⟩=w.frozen? ⟨b,o,none⟩):=
 ⟨λb o c=>World.cell?_of_block (w:=w) (a:=⟨b,o,none⟩) (Ex.block h b c),λb o c=>World.frozen?_of_block (w:=w) (a:=⟨b,o,none⟩) (Ex.block h b c)⟩
def Fm(n:Int):Prop:=-9223372036854775808<=n/\n<=9223372036854775807
structure oP{α:Type}(k:Nat)(R:α->List Value->Prop)(w:World)(F:Nat->Prop)(xs:List α)(a:Option Addr)(cap:Nat):Prop where
 le:xs.length<=cap
 at_:∀i x,xs[i]?=some x->∃b off,a=some ⟨b,off,none⟩/\F b/\∃vs:List Value,vs.length=k/\R x vs/\∀j v,vs[j]?=some v->w.cell? ⟨b,off+i*k+j,none⟩=some v
def xe(F:Nat->Prop)(w w':World):Prop:=∀b,F b->b<w.heap.size->w'.heap[b]?=w.heap[b]?
theorem Ex.same{F:Nat->Prop}{w w':World}(h:Ex w w'):xe F w w':=λb _ a=>Ex.block h b a
theorem aW.same{F S:Nat->Prop}{w w':World}(h:aW S w w')(d:∀b,F b->¬S b):xe F w w':=λb f a=>h.block b a (d b f)
theorem xe.cell{F:Nat->Prop}{w w':World}(h:xe F w w'){p:Addr}{v:Value}(c:w.cell? p=some v)(a:F p.block):w'.cell? p=some v:=
 (World.cell?_of_block (w:=w) (h p.block a (World.block_lt_of_cell? w p c))).trans c
def zG:=@List.mem_of_getElem?
theorem oP.keep{α:Type}{k:Nat}{R e:α->List Value->Prop}{w w':World}{F F':Nat->Prop}{xs:List α}{a:Option Addr}{c:Nat}
  (h:oP k R w F xs a c) (hs:xe F w w') (hF:∀b,F b->F' b) (n:∀x vs,x∈xs->R x vs->e x vs):oP k e w' F' xs a c:=
 ⟨h.le,λi x hx=>by
  obtain⟨b,o,m,d,vs,l,r,g⟩:=h.at_ i x hx;exact⟨b,o,m,hF b d,vs,l,n x vs (zG hx) r,λj v f=>hs.cell (g j v f) d⟩⟩
def zW:=@Nat.zero_le
theorem oP.nil{α:Type}{k:Nat}{R:α->List Value->Prop}{w:World}{F:Nat->Prop}{a:Option Addr}{c:Nat}:oP k R w F ([]:List α) a c:=
 ⟨zW _,λi x hx=>by simp at hx⟩
def bC8(x:Int)(vs:List Value):Prop:=vs=[.int .i64 x]/\Fm x
def bC6(s:ByteArray)(vs:List Value):Prop:=vs=[.string s]
def bC5(x:Int×Int)(vs:List Value):Prop:=vs=[.int .i64 x.1,.int .i64 x.2]/\Fm x.1/\Fm x.2
abbrev ZH(w:World)(F:Nat->Prop):=oP 1 bC8 w F
abbrev Mu(w:World)(F:Nat->Prop):=oP 1 bC6 w F
abbrev ZG(w:World)(F:Nat->Prop):=oP 2 bC5 w F
structure am where
 name:ByteArray
 of:ByteArray
 up:ByteArray
 kind:Int
 lo:Int
 hi:Int
 words:List ByteArray
 wz:List Int
structure au where
 name:ByteArray
 lo:Int
 hi:Int
 fields:List am
structure bW where
 name:ByteArray
 tz:List ByteArray
 mz:List (Int×Int)
structure cF where
 name:ByteArray
 kind:ByteArray
 a:ByteArray
 b:ByteArray
 n:Int
structure ak where
 vz:Int
 kz:List au
 lz:List bW
 rules:List cF
def Ka(w:World)(F:Nat->Prop)(x:am)(vs:List Value):Prop:=
 ∃a wc b g,vs=[.string x.name,.string x.of,.string x.up,.int .i64 x.kind,.int .i64 x.lo,.int .i64 x.hi,.slice a x.words.length wc,.slice b x.wz.length g] /\
  Fm x.kind/\Fm x.lo/\Fm x.hi/\Mu w F x.words a wc/\ZH w F x.wz b g
abbrev tB(w:World)(F:Nat->Prop):=oP 8 (Ka w F) w F
def J9(w:World)(F:Nat->Prop)(x:au)(vs:List Value):Prop:=
 ∃a f,vs=[.string x.name,.int .i64 x.lo,.int .i64 x.hi,.slice a x.fields.length f]/\Fm x.lo/\Fm x.hi/\tB w F x.fields a f
abbrev tA(w:World)(F:Nat->Prop):=oP 4 (J9 w F) w F
def J8(w:World)(F:Nat->Prop)(x:bW)(vs:List Value):Prop:=
 ∃s sc a m,vs=[.string x.name,.slice s x.tz.length sc,.slice a x.mz.length m]/\Mu w F x.tz s sc/\ZG w F x.mz a m
abbrev tw(w:World)(F:Nat->Prop):=oP 3 (J8 w F) w F
def bC7(x:cF)(vs:List Value):Prop:=vs=[.string x.name,.string x.kind,.string x.a,.string x.b,.int .i64 x.n]/\Fm x.n
abbrev tu(w:World)(F:Nat->Prop):=oP 5 bC7 w F
def P3(w:World)(F:Nat->Prop)(x:ak)(v:Value):Prop:=
 ∃c k b l a r,v= .agg #[.int .i64 x.vz,.slice c x.kz.length k,.slice b x.lz.length l,.slice a x.rules.length r]/\Fm x.vz /\
  tA w F x.kz c k/\tw w F x.lz b l/\tu w F x.rules a r
section
variable {w w':World} {F F':Nat->Prop} (hs:xe F w w') (hF:∀b,F b->F' b)
include hs hF
theorem Ka.keep{x:am}{vs:List Value}(h:Ka w F x vs):Ka w' F' x vs:=by
 obtain⟨a,wc,j,i,g,f,e,d,c,b⟩:=h;exact⟨a,wc,j,i,g,f,e,d,c.keep hs hF (λ_ _ _ h=>h),b.keep hs hF (λ_ _ _ h=>h)⟩
theorem tB.keep{xs:List am}{a:Option Addr}{c:Nat}(h:tB w F xs a c):tB w' F' xs a c:=oP.keep h hs hF (λ_ _ _ h=>h.keep hs hF)
theorem J9.keep{x:au}{vs:List Value}(h:J9 w F x vs):J9 w' F' x vs:=by
 obtain⟨e,f,d,c,b,a⟩:=h;exact⟨e,f,d,c,b,a.keep hs hF⟩
theorem tA.keep{xs:List au}{a:Option Addr}{c:Nat}(h:tA w F xs a c):tA w' F' xs a c:=oP.keep h hs hF (λ_ _ _ h=>h.keep hs hF)
theorem J8.keep{x:bW}{vs:List Value}(h:J8 w F x vs):J8 w' F' x vs:=by
 obtain⟨s,sc,a,m,d,c,b⟩:=h;exact⟨s,sc,a,m,d,c.keep hs hF (λ_ _ _ h=>h),b.keep hs hF (λ_ _ _ h=>h)⟩
theorem tw.keep{xs:List bW}{a:Option Addr}{c:Nat}(h:tw w F xs a c):tw w' F' xs a c:=oP.keep h hs hF (λ_ _ _ h=>h.keep hs hF)
theorem tu.keep{xs:List cF}{a:Option Addr}{c:Nat}(h:tu w F xs a c):tu w' F' xs a c:=oP.keep h hs hF (λ_ _ _ h=>h)
theorem P3.keep{x:ak}{v:Value}(h:P3 w F x v):P3 w' F' x v:=by
 obtain⟨c,k,b,l,a,r,i,g,f,e,d⟩:=h;exact⟨c,k,b,l,a,r,i,g,f.keep hs hF,e.keep hs hF,d.keep hs hF⟩
end
def idx{α:Type}(p:α->Bool)(xs:List α):Int:=match xs.findIdx? p with|some i=>i|none=>-1
def zE:=@List.getElem?_eq_some_iff
def wB:=@List.findIdx?_eq_some_iff_getElem
def zD:=@List.getElem?_eq_getElem
theorem JP{α:Type}{p:α->Bool}{xs:List α}{k:Nat}{x:α}(a:xs[k]?=some x)(hx:p x=true)(o:∀i y,i<k->xs[i]?=some y->p y=false):idx p xs=k:=by
 have h:k<xs.length:=(zE.1 a).1;have:xs.findIdx? p=some k:=by
  rw[wB];refine⟨h,?_,?_⟩
  .rw[zD h]at a;simp at a;rw[a];exact hx
  .intro j b;simp[o j _ b (zD (by omega))]
 simp[idx,this]
def yO:=@List.getElem?_of_mem
theorem Y8{α:Type}{p:α->Bool}{xs:List α}(h:∀(i:Nat)y,xs[i]?=some y->p y=false):idx p xs= -1:=by
 have:xs.findIdx? p=none:=by
  rw[List.findIdx?_eq_none_iff];intro x hx;obtain⟨i,a⟩:=yO hx;exact h i x a
 simp[idx,this]
theorem CO{α:Type}(p:α->Bool)(xs:List α):-1<=idx p xs:=by unfold idx;split<;>omega
theorem Fk{α:Type}(p:α->Bool)(xs:List α):idx p xs<xs.length:=by
 unfold idx;split
 .rename_i i h;have:=wB.1 h;obtain⟨a,_⟩:=this;omega
 .omega
def wC:=@List.any_eq_true
def wE:=@List.getElem_mem
theorem qM{α:Type}(p:α->Bool)(xs:List α):decide (0<=idx p xs)=xs.any p:=by
 unfold idx;split
 .rename_i i h;obtain⟨b,a,_⟩:=wB.1 h;have:xs.any p=true:=wC.2 ⟨xs[i],wE b,a⟩;simp[this]
 .rename_i h;rw[List.findIdx?_eq_none_iff]at h;have:xs.any p=false:=by rw[List.any_eq_false];intro x hx;simp[h x hx]
  simp[this]
theorem ru7{a b:World}(h:Ex a b:=by first|exact Ex.trans hb (show Ex _ w1 from(by repeat(first|exact Ex.refl _|assumption|apply Ex.alloc|apply Ex.drew|apply Ex.drewN|(refine Ex.trans ?_ (by assumption)))))|exact hb1):Ex a b/\(∀d o,d<a.heap.size->b.cell? ⟨d,o,none⟩=a.cell? ⟨d,o,none⟩)/\(∀d o,d<a.heap.size->b.frozen? ⟨d,o,none⟩=a.frozen? ⟨d,o,none⟩)/\a.heap.size<=b.heap.size:=⟨h,h.rules.1,h.rules.2,h.size⟩
theorem bD2:(∀(w:World)(o:Obj),(w.alloc o).heap.size=w.heap.size+1)/\(∀(w:World),w.drew.heap.size=w.heap.size)/\(∀(w:World)(p:Addr)(v:Value),(w.setCell p v).heap.size=w.heap.size)/\(∀(w:World)(n:Nat),(w.drewN n).heap=w.heap):=⟨λ_ _=>World.size_alloc ..,λ_=>World.size_drew ..,λ_ _ _=>World.size_setCell ..,λ_ _=>World.heap_drewN ..⟩
theorem z07(w w1:World)(h:w.heap.size<w1.heap.size:=by omega):w.heap.size<w1.heap.size:=h
theorem z17(w w1:World)(h:w.heap.size+1<w1.heap.size:=by omega):w.heap.size+1<w1.heap.size:=h
theorem z27(w w1:World)(h:w.heap.size+1+1<w1.heap.size:=by omega):w.heap.size+1+1<w1.heap.size:=h
end
section
open Go
def I2(c:UInt8):Bool:=decide (97<=(c.toNat:Int))&&decide ((c.toNat:Int)<=122)
def nK(c:UInt8):Bool:=decide (48<=(c.toNat:Int))&&decide ((c.toNat:Int)<=57)
def eQ(c:UInt8):Bool:=I2 c||nK c
def cz(n a b:Int):Bool:=decide (a<=n)&&decide (n<=b)
def ln(lo h a b:Int):Bool:=decide (a<=lo)&&(decide (lo<=h)&&decide (h<=b))
def bytes(s:ByteArray):List UInt8:=s.data.toList
def aY(s:ByteArray):Bool:=cz s.size 1 12&&(match bytes s with|c::_=>I2 c|[]=>false)&&(bytes s).all eQ
def dF(s:ByteArray):Bool:=s.toList.isEmpty
def seq(a b:ByteArray):Bool:=a.toList==b.toList
def oc(ws:List ByteArray)(gs:List Int):Bool:=
 gs.all (λn=>cz n 0 1048576)&&cz ws.length 1 12&&decide (ws.length=gs.length)&&decide (0<gs.sum)&&ws.all aY
def wn(r:cF):Bool:=aY r.name&&aY r.kind&&(dF r.a||aY r.a)&&(dF r.b||aY r.b) && !(dF r.a&&dF r.b)&&cz r.n (-1048576) 1048576
def b8(n:Nat)(m:Int×Int):Bool:=cz m.1 0 (n-1)&&cz m.2 0 (n-1)
def jS(x:bW):Bool:=aY x.name&&cz x.tz.length 1 12&&x.tz.all aY&&decide (x.mz.length<=32)&&x.mz.all (b8 x.tz.length)
def hZ(k:Int):Bool:=k==1||k==4||k==5||k==6||k==7||k==8
def ia(k:Int):Bool:=k==7||k==8
def hY(k:Int):Bool:=k==1||k==2||k==4||k==5||k==7
def iJ(k:Int):Bool:=hY k||k==0
def ej(k:Int):Bool:=k==3
def lR(f:am):Bool:=(hZ f.kind||dF f.of)&&(ia f.kind||dF f.up)&&(iJ f.kind||f.lo==0)&&(hY f.kind||f.hi==0)&&(ej f.kind||(f.words.isEmpty&&f.wz.isEmpty))
def fJ(f:am):Bool:=
 if f.kind=0 then cz f.lo (-1048576) 1048576
 else if f.kind=1 then aY f.of&&ln f.lo f.hi 0 65536
 else if f.kind=2 then ln f.lo f.hi (-1048576) 1048576
 else if f.kind=3 then oc f.words f.wz
 else if f.kind=4 then(dF f.of||aY f.of)&&ln f.lo f.hi (-1048576) 1048576
 else if f.kind=5 then aY f.of&&ln f.lo f.hi 0 32
 else if f.kind=6 then aY f.of
 else if f.kind=7 then aY f.of&&aY f.up&&ln f.lo f.hi 0 1048576
 else if f.kind=8 then aY f.of&&aY f.up
 else false
def dE(f:am):Bool:=aY f.name&&lR f&&fJ f
def ji(k:au):Bool:=aY k.name&&ln k.lo k.hi 0 65536&&decide (k.fields.length<=10)&&k.fields.all dE
def hQ(x:ak):Bool:=cz x.vz 0 1048576&&decide (x.kz.length<=6)&&decide (x.lz.length<=6)&&decide (x.rules.length<=16)&&x.kz.all ji&&x.lz.all jS&&x.rules.all wn
theorem Ek(a b:ByteArray):seq a b=true↔a=b:=by
 unfold seq;rw[beq_iff_eq,ByteArray.toList_eq,ByteArray.toList_eq];constructor
 .intro h;cases a;cases b;simp at h;simp[h]
 .intro h;rw[h]
theorem Pl(a:ByteArray):seq a a=true:=(Ek a a).2 rfl
def gH(s:ByteArray):Prop:=s.size<=1000000
structure SmF(f:am):Prop where
 name:gH f.name
 of:gH f.of
 up:gH f.up
 words:∀s,s∈f.words->gH s
 nwords:f.words.length<=1000000
 nweights:f.wz.length<=1000000
structure SmK(k:au):Prop where
 name:gH k.name
 fields:∀f,f∈k.fields->SmF f
 nfields:k.fields.length<=1000000
structure SmL(x:bW):Prop where
 name:gH x.name
 tz:∀s,s∈x.tz->gH s
 nstates:x.tz.length<=1000000
 nmoves:x.mz.length<=1000000
structure SmR(r:cF):Prop where
 name:gH r.name
 kind:gH r.kind
 a:gH r.a
 b:gH r.b
structure ZD(x:ak):Prop where
 kz:∀k,k∈x.kz->SmK k
 lz:∀l,l∈x.lz->SmL l
 rules:∀r,r∈x.rules->SmR r
 nkinds:x.kz.length<=1000000
 nlives:x.lz.length<=1000000
 nrules:x.rules.length<=1000000
theorem gH.le{s:ByteArray}(h:gH s):s.size<=9223372036854775807:=by unfold gH at h;omega
end
section
open Go
def bc(x:ak)(n:ByteArray):Int:=idx (λk=>seq k.name n) x.kz
def aZ(k:au)(n:ByteArray):Int:=idx (λf=>seq f.name n) k.fields
def dv(x:ak)(i:Int):Option au:=if 0<=i then x.kz[i.toNat]? else none
def fieldAt(x:ak)(i j:Int):Option am:=match dv x i with|some k=>if 0<=j then k.fields[j.toNat]? else none|none=>none
def refUp(x:ak)(i:Int)(f:am):Int:=if bc x f.of<i then bc x f.of else -1
def D'(u j:Int):Option am->Option am
 |some g=>if u<j/\g.kind=1 then some g else none
 |none=>none
def QQ(x:ak)(i j:Int)(f:am):Option am:=
 match dv x i with
 |none=>none
 |some k=>D' (aZ k f.up) j (fieldAt x i (aZ k f.up))
def wk(x:ak)(i:Int):Option am->Int
 |some g=>refUp x i g
 |none=>-1
def aI(x:ak)(i j:Int):Int:=
 match fieldAt x i j with
 |none=>-1
 |some f=>if f.kind=7\/f.kind=8 then wk x i (QQ x i j f)else if f.kind=1 then refUp x i f else -1
def x6(x:ak)(i:Int)(f:am):List Int:=
 match dv x (bc x f.of)with
 |none=>[]
 |some k=>((List.range k.fields.length).filter λ(j:Nat)=>match k.fields[j]? with|some g=>decide (g.kind=7)&&seq g.of f.name&&decide (aI x (bc x f.of) j=i)|none=>false).map (λ(j:Nat)=>(j:Int))
def I9(x:ak)(i:Int)(f:am):Bool:=!decide (f.kind=6)||decide (bc x f.of<=i)
end
section
open Go
def Eh(x:ak)(o i:Int)(f:am)(g:am)(j:Nat):Bool:=decide (g.kind=7)&&seq g.of f.name&&decide (aI x o j=i)
def tg(x:ak)(o i:Int)(f:am)(s:List am)(n:Nat):List Int:=
 ((List.range n).filter λ(j:Nat)=>match s[j]? with|some g=>Eh x o i f g j|none=>false).map (λ(j:Nat)=>(j:Int))
def vZ:=@List.filter_append
def yB:=@List.map_append
theorem as2(x:ak)(o i:Int)(f:am)(s:List am)(n:Nat)(g:am)(h:s[n]?=some g):tg x o i f s (n+1)=tg x o i f s n++(if Eh x o i f g n then[(n:Int)]else[]):=by
 simp only[tg,List.range_succ,vZ,yB]
 congr 1
 simp only[List.filter_cons,h,List.filter_nil];split<;>simp_all
def zL:=@List.length_map
theorem aI2(x:ak)(o i:Int)(f:am)(s:List am)(n:Nat):(tg x o i f s n).length<=n:=by
 simp only[tg,zL];exact xH (List.length_filter_le _ _) (by simp)
theorem mq(x:ak)(i:Int)(f:am)(k:au)(h:dv x (bc x f.of)=some k):x6 x i f=tg x (bc x f.of) i f k.fields k.fields.length:=by
 simp only[x6,h,tg,Eh]<;>rfl
theorem u9(x:ak)(n:ByteArray)(h:0<=bc x n):∃(o:Nat)(k:au),bc x n=o/\x.kz[o]?=some k/\seq k.name n=true:=by
 unfold bc idx at *;split at h
 .rename_i o a;obtain⟨c,b,_⟩:=wB.1 a;exact⟨o,x.kz[o],by simp[a],zD c,b⟩
 .omega
theorem mG(x:ak)(i:Int)(f:am)(h:0<=refUp x i f):∃(o:Nat)(k:au),refUp x i f=o/\x.kz[o]?=some k:=by
 unfold refUp at *;split at h
 .obtain⟨o,k,b,a,_⟩:=u9 x f.of h;exact⟨o,k,by rw[if_pos (by assumption)];exact b,a⟩
 .omega
def uC:=@if_false
theorem j6(x:ak)(i j:Int)(h:0<=aI x i j):∃(o:Nat)(k:au),aI x i j=o/\x.kz[o]?=some k:=by
 unfold aI at *
 cases b:fieldAt x i j with
 |none=>simp[b]at h
 |some f=>
  simp only[b]at h⊢;split at h
  .rename_i a;simp only[a,if_true];unfold wk at *;split at h
   .rename_i g d;exact mG x i g h
   .omega
  .rename_i a;simp only[a,uC];split at h
   .rename_i c;simp only[c,if_true];exact mG x i f h
   .omega
def gL(x:ak)(i j:Int)(f:am):Option am:=
 if aI x i j<0 then none else match dv x (aI x i j)with|some k=>fieldAt x (aI x i j) (aZ k f.of)|none=>none
def xa:am:=⟨⟨#[]⟩,⟨#[]⟩,⟨#[]⟩,0,0,0,[],[]⟩
def eZ(x:ak)(i j:Int)(f:am):am×Bool:=match gL x i j f with|some g=>(g,true)|none=>(xa,false)
def g0(x:ak)(i j:Int):am×Bool:=match fieldAt x i j with|some g=>(g,true)|none=>(xa,false)
def jg:List (Bool×Int)->Int
 |[]=>0
 |(true,c)::_=>c
 |(false,_)::l=>jg l
def eU(x:ak)(k:au)(o:Int)(n:ByteArray):Bool:=!dF n && !(g0 x o (aZ k n)).2
def fD(x:ak)(k:au)(o:Int)(n:ByteArray):Bool:=!dF n&&((g0 x o (aZ k n)).1.kind !=2&&(g0 x o (aZ k n)).1.kind !=4)
def oi(x:ak)(i:Nat)(r:cF):Bool:=(x.rules.take i).any (λs=>seq s.name r.name)
def je(x:ak)(i:Nat)(r:cF):Int:=
 match dv x (bc x r.kind)with
 |none=>jg [(oi x i r,7),(true,12),(false,13),(seq r.a r.b,1)]
 |some k=>jg [(oi x i r,7),(eU x k (bc x r.kind) r.a||eU x k (bc x r.kind) r.b,12),(fD x k (bc x r.kind) r.a||fD x k (bc x r.kind) r.b,13),(seq r.a r.b,1)]
theorem aC3:∀(f:List (Bool×Int))(n:Nat),(∀(j:Nat)x,j<n->f[j]?=some x->x.1=false)->jg (f.drop n)=jg f
 |f,0,_=>by simp
 |[],n+1,_=>by simp
 |(b,c)::l,n+1,h=>by
  have a:b=false:=h 0 (b,c) (by omega) rfl;subst a;have:=aC3 l n (λj x d hx=>h (j+1) x (by omega) (by simpa using hx))
  simpa [jg]using this
def vG:=@List.drop_eq_getElem_cons
theorem vj{f:List (Bool×Int)}{n:Nat}{x:Bool×Int}(h:∀(j:Nat)x,j<n->f[j]?=some x->x.1=false)(hx:f[n]?=some x)(a:x.1=true):jg f=x.2:=by
 rw[←aC3 f n h];have t:=(zE.1 hx).1;have e:=(zE.1 hx).2;rw[vG t,e];obtain⟨b,c⟩:=x;simp only at a;subst a;rfl
theorem nz{f:List (Bool×Int)}(h:∀(j:Nat)x,f[j]?=some x->x.1=false):jg f=0:=by
 rw[←aC3 f f.length (λj x _ hx=>h j x hx),List.drop_length];rfl
end
section
open Go
abbrev fj:=Int×Int×Int×Int
def one(k f r e:Int):List fj:=if e=0 then[]else[(k,f,r,e)]
theorem Ej(k f r e:Int):(one k f r e).length<=1:=by unfold one;split<;>simp
theorem uQ(k f r:Int):one k f r 0=[]:=by simp[one]
def ap{α:Type}(q:Nat)(g:Nat->List α):List α:=(List.range q).flatMap g
theorem jU{α:Type}(q:Nat)(g:Nat->List α):ap (q+1) g=ap q g++g q:=by simp[ap,List.range_succ,List.flatMap_append]
def zI:=@List.length_append
def vC:=@Nat.add_mul
theorem fF{α:Type}{g:Nat->List α}{m:Nat}(h:∀i,(g i).length<=m):∀q,(ap q g).length<=q*m
 |0=>by simp[ap]
 |q+1=>by rw[jU,zI,vC];have:=fF h q;have:=h q;omega
def ga(x:ak)(i:Int)(f:am):Int×List Int:=if I9 x i f then(-1,[])else(bc x f.of,x6 x i f)
def cp(x:ak)(i j:Int)(f:am):Int×am:=match gL x i j f with
 |none=>(-1,xa)
 |some g=>(g.kind,g)
def Fg(x:ak)(i j:Int)(f:am)(up:Int):Int:=
 if up<0 then 12
 else if f.kind=7 then(if(cp x i j f).1=6/\bc x (cp x i j f).2.of=i then 0 else 13)
 else if(cp x i j f).1<0\/(cp x i j f).1=0\/(cp x i j f).1=1\/(cp x i j f).1=6\/(cp x i j f).1=7 then 13 else 0
def qq(x:ak)(i j:Int)(f:am):Int:=match dv x i with
 |none=>0
 |some k=>if dF f.of then 0 else if aZ k f.of<0\/j<=aZ k f.of then 12 else match k.fields[(aZ k f.of).toNat]? with|some g=>if g.kind=4 then 0 else 12|none=>12
def cJ(x:ak)(i j:Int)(f:am):Int:=
 if f.kind=0/\0<j then 13
 else if f.kind=0\/f.kind=2\/f.kind=3 then 0
 else if f.kind=1 then(if aI x i j<0 then 12 else 0)
 else if f.kind=4 then qq x i j f
 else if f.kind=5 then(if x.lz.any (λl=>seq l.name f.of)then 0 else 12)
 else if f.kind=6 then(if(ga x i f).1<0 then 12 else if(ga x i f).2.length=1 then 0 else 11)
 else Fg x i j f (aI x i j)
def ZW(s:List am):Bool:=match s with|[]=>false|f::_=>decide (f.kind=0)
def Jj(x:ak)(i:Nat)(l:bW):Bool:=(x.lz.take i).any (λm=>seq m.name l.name)
def lh(x:ak)(i:Nat):List fj:=match x.lz[i]? with|some l=>one (-1) i (-1) (if Jj x i l then 7 else 0)|none=>[]
def eS(x:ak)(i:Nat)(k:au):Int:=if bc x k.name<i then 7 else if ZW k.fields then 0 else 11
def lT(x:ak)(i:Nat)(k:au)(j:Nat)(f:am):Int:=if aZ k f.name<j then 7 else cJ x i j f
def fi(x:ak)(i:Nat)(k:au)(j:Nat):List fj:=match k.fields[j]? with|some f=>one i j (-1) (lT x i k j f)|none=>[]
def dO(x:ak)(i:Nat):List fj:=match x.kz[i]? with|some k=>one i (-1) (-1) (eS x i k)++ap k.fields.length (fi x i k)|none=>[]
def lN(x:ak)(i:Nat):List fj:=match x.rules[i]? with|some r=>one (-1) (-1) i (je x i r)|none=>[]
def fC(x:ak):Int:=if hQ x then 0 else 1
def ef(x:ak):List fj:=if fC x=0 then ap x.lz.length (lh x)++ap x.kz.length (dO x)++ap x.rules.length (lN x)else[(-1,-1,-1,fC x)]
theorem aE2(x:ak)(i:Nat):(lh x i).length<=1:=by unfold lh;split;exact Ej _ _ _ _;simp
theorem Z9(x:ak)(i:Nat)(k:au)(j:Nat):(fi x i k j).length<=1:=by unfold fi;split;exact Ej _ _ _ _;simp
theorem bd5(x:ak)(i:Nat):(lN x i).length<=1:=by unfold lN;split;exact Ej _ _ _ _;simp
theorem bg1(x:ak)(i:Nat)(h:∀k∈x.kz,k.fields.length<=10):(dO x i).length<=11:=by
 unfold dO;split
 .rename_i k a;rw[zI];have d:=fF (Z9 x i k) k.fields.length;have c:=h k (zG a);have b:=Ej i (-1) (-1) (eS x i k);omega
 .simp
structure Ms(x:ak):Prop where
 nk:x.kz.length<=6
 nl:x.lz.length<=6
 nr:x.rules.length<=16
 nf:∀k∈x.kz,k.fields.length<=10
 kz:∀k∈x.kz,ji k=true
 lz:∀l∈x.lz,jS l=true
 rules:∀r∈x.rules,wn r=true
def zJ:=@Bool.and_eq_true
def zQ:=@decide_eq_true_eq
def yA:=@List.all_eq_true
theorem y5{x:ak}(h:hQ x=true):Ms x:=by
 simp only[hQ,zJ,zQ,yA]at h;obtain⟨⟨⟨⟨⟨⟨_,g⟩,f⟩,e⟩,a⟩,d⟩,c⟩:=h;exact⟨g,f,e,λk b=>by have:=a k b;simp only[ji,zJ,zQ]at this;exact this.1.2,a,d,c⟩
theorem j5{x:ak}(h:fC x=0):Ms x:=by
 unfold fC at h;split at h
 .exact y5 (by assumption)
 .omega
end
section
open Go
abbrev Wd:=List (List (List Int))
structure Rf where
 kind:Nat
 field:Nat
 up:Int
 least:Int
def fc(x:ak)(k:Nat)(kd:au)(i:Nat):List Rf:=match kd.fields[i]? with
 |some f=>if f.kind=1 then[⟨k,i,aI x k i,f.lo⟩]else[]
 |none=>[]
def fS(x:ak)(k:Nat):List Rf:=match x.kz[k]? with
 |some kd=>ap kd.fields.length (fc x k kd)
 |none=>[]
def bL(x:ak):List Rf:=ap x.kz.length (fS x)
theorem mI(x:ak)(k:Nat)(kd:au)(i:Nat):(fc x k kd i).length<=1:=by unfold fc;split<;>(try split)<;>simp
theorem mH(x:ak)(k:Nat)(h:∀k∈x.kz,k.fields.length<=1000):(fS x k).length<=1000:=by
 unfold fS;split
 .rename_i kd a;have c:=fF (mI x k kd) kd.fields.length;have b:=h kd (zG a);omega
 .simp
def xT:=@List.mem_range
theorem x5{α:Type}{q:Nat}{g:Nat->List α}{a:α}:a∈ap q g↔∃i,i<q/\a∈g i:=by
 unfold ap;rw[List.mem_flatMap];constructor
 .rintro⟨i,h,b⟩;exact⟨i,xT.1 h,b⟩
 .rintro⟨i,h,b⟩;exact⟨i,xT.2 h,b⟩
def zN:=@List.mem_singleton
theorem aL3{x:ak}{r:Rf}(h:r∈bL x):∃kd f,x.kz[r.kind]?=some kd/\kd.fields[r.field]?=some f/\f.kind=1/\r.up=aI x r.kind r.field/\r.least=f.lo:=by
 obtain⟨k,c,h⟩:=x5.1 h;unfold fS at h;split at h
 .rename_i kd d;obtain⟨i,e,h⟩:=x5.1 h;unfold fc at h;split at h
  .rename_i f a;split at h
   .rename_i b;rw[zN]at h;subst h;exact⟨kd,f,d,a,b,rfl,rfl⟩
   .cases h
  .cases h
 .cases h
def tr(w:Wd)(r:Rf)(l:List Int):Bool:=!(decide (l.getD r.field 0<0)||decide ((w.getD r.up.toNat []).length<=l.getD r.field 0))
def sC(x:ak)(k:Nat)(l:List Int):Bool:=decide (l.length=(match x.kz[k]? with|some kd=>kd.fields.length|none=>0))
theorem eD{α:Type}{l:List α}{i:Nat}{a:α}(h:l[i]?=some a)(d:α):l.getD i d=a:=by simp[List.getD_eq_getElem?_getD,h]
end
section
open Go
structure VI where
 op:Int
 a:Int
 b:Int
 c:Int
abbrev cK:=List VI
def cM(o:Int):Int×Int×Int:=
 if o=0 then(1,0,0)else if o=1 then(2,3,0)else if o=2 then(2,2,2)else if o=3 then(2,2,2)else if o=4 then(2,4,0)else if o=5 then(2,4,5)else if o=6 then(6,0,0)else(2,2,6)
def oF(s:Int):Int:=if s=3 then -1048576 else 0
def kQ(s n:Int):Int:=if s=1 then 250 else if s=2 then 7 else if s=3 then 1048576 else if s=4 then 5 else if s=5 then 9 else if s=6 then n else 0
def cy(s v n:Int):Bool:=decide (oF s<=v)&&decide (v<=kQ s n)
def oE(n:Int)(i:VI):Bool:=decide (0<=i.op)&&decide (i.op<=8)&&cy (cM i.op).1 i.a n&&cy (cM i.op).2.1 i.b n&&cy (cM i.op).2.2 i.c n
def xy(p:cK):Int:=if 128<p.length then 4 else if p.all (oE p.length)then 0 else 1
def di(x:ak)(i:VI):Bool:=
 if i.op=4 then decide (i.b<x.kz.length)else if i.op=5 then(match x.kz[i.b.toNat]? with|some k=>decide (i.c<k.fields.length)|none=>false)else true
def QD(x:ak)(p:cK):Bool:=p.all (di x)
inductive VS where
 |go (r:List Int) (at_:Int)
 |fin (code:Int)
def eC(r:List Int)(i:Int):Int:=r.getD i.toNat 0
def nR(w:Wd)(k:Int):Int:=((w.getD k.toNat []).length:Nat)
def FO(w:Wd)(k i f:Int):Int:=((w.getD k.toNat []).getD i.toNat []).getD f.toNat 0
def gc(w:Wd)(r:List Int)(at_:Int)(i:VI):VS:=
 if i.op=0 then .fin i.a
 else if i.op=1 then .go (r.set i.a.toNat i.b) (at_+1)
 else if i.op=2 then .go (r.set i.a.toNat (IntKind.i64.wrap (eC r i.b+eC r i.c))) (at_+1)
 else if i.op=3 then .go (r.set i.a.toNat (IntKind.i64.wrap (eC r i.b-eC r i.c))) (at_+1)
 else if i.op=4 then .go (r.set i.a.toNat (nR w i.b)) (at_+1)
 else if i.op=5 then(if eC r i.a<0\/nR w i.b<=eC r i.a then .fin 251 else .go (r.set i.a.toNat (FO w i.b (eC r i.a) i.c)) (at_+1))
 else if i.op=6 then .go r i.a
 else if i.op=7 then .go r (if eC r i.a<eC r i.b then i.c else at_+1)
 else .go r (if eC r i.a=eC r i.b then i.c else at_+1)
def bO(w:Wd)(p:cK):Nat->Int->List Int->Int->Int×Int×Int
 |0,n,_,at_=>if at_=p.length then(0,n,0)else(0,0,23)
 |f+1,n,r,at_=>match p[at_.toNat]? with
  |none=>(0,n,0)
  |some i=>match gc w r at_ i with
   |.fin c=>(c,n+1,0)
   |.go b a=>bO w p f (n+1) b a
def fR(x:ak)(p:cK)(w:Wd)(m:Int):Int×Int×Int:=
 if xy p≠0 then(0,0,xy p)
 else if m<0\/1000000<m then(0,0,4)
 else if QD x p=false then(0,0,12)
 else bO w p m.toNat 0 (List.replicate 8 0) 0
structure EO(n:Nat)(i:VI):Prop where
 op:0<=i.op/\i.op<=8
 a:cy (cM i.op).1 i.a n=true
 b:cy (cM i.op).2.1 i.b n=true
 c:cy (cM i.op).2.2 i.c n=true
theorem Zr{n:Nat}{i:VI}:oE n i=true↔EO n i:=by
 unfold oE;simp only[zJ,zQ];exact⟨λ⟨⟨⟨⟨d,c⟩,b⟩,a⟩,h⟩=>⟨⟨d,c⟩,b,a,h⟩,λ⟨⟨d,c⟩,b,a,h⟩=>⟨⟨⟨⟨d,c⟩,b⟩,a⟩,h⟩⟩
theorem wv{v n:Int}(h:cy 2 v n=true):0<=v/\v<=7:=by simpa [cy,oF,kQ]using h
theorem LW{v n:Int}(h:cy 6 v n=true):0<=v/\v<=n:=by simpa [cy,oF,kQ]using h
theorem aL7{v n:Int}(h:cy 4 v n=true):0<=v/\v<=5:=by simpa [cy,oF,kQ]using h
theorem ny{v n:Int}(h:cy 5 v n=true):0<=v/\v<=9:=by simpa [cy,oF,kQ]using h
theorem bc4{p:cK}(h:xy p=0):p.length<=128/\∀i∈p,EO p.length i:=by
 unfold xy at h;split at h
 .cases h
 .split at h
  .rename_i c b;exact⟨by omega,λi a=>Zr.1 (yA.1 b i a)⟩
  .cases h
end
section
open Go Go.Maps Go.MapKept
open Go.ChangeMaps (setBlock modify_eq_set heap_setBlock_same heap_setBlock_other)
structure fG(P:Program)(k:TypeId)(es:Array MapEntry)(clock n:Nat)(f:Value->Option Value):Prop where
 size:es.size<=n
 stamped:Stamped es clock
 keys:∀e∈es.toList,∃l,keyOf P k e.key=some l
 mem:∀e∈es.toList,f e.key=some e.val
 only:∀key v,f key=some v->∃e∈es.toList,e.key=key/\e.val=v
def bU(P:Program)(k:TypeId)(w:World)(b n:Nat)(f:Value->Option Value):Prop:=∃es clock,w.heap[b]?=some (.map es clock)/\fG P k es clock n f
def Mx(P:Program)(k:TypeId)(w:World)(b n:Nat)(f:Value->Option Value)(y s:Value):Prop:=
 ∃es clock,w.heap[b]?=some (.map es clock)/\fG P k es clock n f/\∃e∈es.toList,e.key=y/\s=goInt e.born
noncomputable def de (f:Value->Option Value) (key v:Value):Value->Option Value:=open Classical in λx=>if x=key then some v else f x
theorem Mx.is{P:Program}{k:TypeId}{w:World}{b n:Nat}{f:Value->Option Value}{y s:Value}(h:Mx P k w b n f y s):bU P k w b n f:=by
 obtain⟨es,c,d,a,_⟩:=h;exact⟨es,c,d,a⟩
theorem bU.made(P:Program)(k:TypeId)(w:World)(n:Nat):bU P k (w.alloc (.map #[] 0)) w.heap.size n (λ_=>none):=
 ⟨#[],0,(MapKept.heap_alloc w _).1,⟨by simp,stamped_empty 0,by simp,by simp,by simp⟩⟩
def zX:=@Array.getElem?_eq_some_iff
theorem bU.lt{P:Program}{k:TypeId}{w:World}{b n:Nat}{f:Value->Option Value}(h:bU P k w b n f):b<w.heap.size:=by
 obtain⟨es,clock,a,_⟩:=h;exact(zX.1 a).1
theorem bU.same{P:Program}{k:TypeId}{w w':World}{b n:Nat}{f:Value->Option Value}(h:bU P k w b n f)(hs:w'.heap[b]?=w.heap[b]?):bU P k w' b n f:=by
 obtain⟨es,clock,a,h⟩:=h;exact⟨es,clock,hs.trans a,h⟩
theorem bU.mono{P:Program}{k:TypeId}{w:World}{b n m:Nat}{f:Value->Option Value}(h:bU P k w b n f)(a:n<=m):bU P k w b m f:=by
 obtain⟨es,clock,c,h⟩:=h;exact⟨es,clock,c,⟨xH h.size a,h.stamped,h.keys,h.mem,h.only⟩⟩
section
variable {P:Program} {k t e:TypeId} {w:World} {b n:Nat} {f:Value->Option Value} {es:Array MapEntry} {clock:Nat}
theorem fG.look(E:fG P k es clock n f)(K:Keyed P k){y:Value}{kl:Lit}(h:keyOf P k y=some kl)(w:World) :
  ((Instr.findKey k y es.toList).run P w= .ok none w/\f y=none/\∀x∈es.toList,x.key≠y)\/∃j e0,(Instr.findKey k y es.toList).run P w= .ok (some (j,e0.val)) w/\es.toList[j]?=some e0/\e0.key=y/\f y=some e0.val:=by
 rcases K.find w h es.toList E.keys with⟨b,a⟩|⟨j,e0,b,a,c⟩
 .refine Or.inl ⟨b,?_,a⟩
  cases e:f y with
  |none=>rfl
  |some v=>obtain⟨e0,g,d,_⟩:=E.only y v e;exact absurd d (a e0 g)
 .exact Or.inr ⟨j,e0,b,a,c,by rw[←c];exact E.mem e0 (zG a)⟩
theorem Lg{p:Prop}(h:p:=by
 simp[Instr.lookup,run_underlying ht,MapKept.run_getObj_map hb,K.check w _ hkey,h1,hz,h2,Result.andThen]):p:=h
theorem K8{p:Prop}(h:p:=by
 simp[Instr.lookup,run_underlying ht,MapKept.run_getObj_map hb,K.check w _ hkey,h1,h4,Result.andThen]):p:=h
theorem bU.look(h:bU P k w b n f)(K:Keyed P k)(ht:P.underlying t=some (.map k e)){z:Value}(hz:(zeroValue e).run P w= .ok z w){y:Value}{kl:Lit}(hkey:keyOf P k y=some kl) :
  (Instr.lookup t (.map (some b)) y false).run P w= .ok ((f y).getD z) w:=by
 obtain⟨es,clock,hb,E⟩:=h;rcases E.look K hkey w with⟨h1,h2,_⟩|⟨j,e0,h1,_,_,h4⟩
 .exact Lg
 .exact K8
theorem bU.look_ok(h:bU P k w b n f)(K:Keyed P k)(ht:P.underlying t=some (.map k e)){z:Value}(hz:(zeroValue e).run P w= .ok z w){y:Value}{kl:Lit}(hkey:keyOf P k y=some kl) :
  (Instr.lookup t (.map (some b)) y true).run P w= .ok (.tuple #[(f y).getD z,.bool (f y).isSome]) w:=by
 obtain⟨es,clock,hb,E⟩:=h;rcases E.look K hkey w with⟨h1,h2,_⟩|⟨j,e0,h1,_,_,h4⟩
 .exact Lg
 .exact K8
theorem aW.setBlock{o:Obj}{es:Array MapEntry}{clock:Nat}(a:w.heap[b]?=some (.map es clock)):aW (λx=>x=b) w (setBlock w b o):=
 ⟨rfl,rfl,rfl,by simp[ChangeMaps.setBlock],λi _ h=>heap_setBlock_other a _ (λe=>h e)⟩
def wS:=@List.pairwise_iff_getElem
theorem qI(hs:Stamped es clock){i j:Nat}{x y:MapEntry}(d:es.toList[i]?=some x)(c:es.toList[j]?=some y)(e:i≠j):x.key≠y.key:=by
 have p:=((stamped_iff es clock).1 hs).2.2;obtain⟨b,rfl⟩:=zE.1 d;obtain⟨a,rfl⟩:=zE.1 c;rcases Nat.lt_or_gt_of_ne e with h|h
 .exact wS.1 p i j b a h
 .exact(wS.1 p j i a b h).symm
def zO:=@List.mem_append
theorem fG.push(E:fG P k es clock n f){a v:Value}{kl:Lit}(h:keyOf P k a=some kl)(c:∀x∈es.toList,x.key≠a):fG P k (es.push ⟨a,v,clock⟩) (clock+1) (n+1) (de f a v):=by
 refine⟨by simp;exact E.size,stamped_push E.stamped c,?_,?_,?_⟩
 .intro x hx;simp only[Array.toList_push,zO,zN]at hx;rcases hx with hx|rfl
  .exact E.keys x hx
  .exact⟨kl,h⟩
 .intro x hx;simp only[Array.toList_push,zO,zN]at hx;rcases hx with hx|rfl
  .simp only[de,if_neg (c x hx)];exact E.mem x hx
  .simp[de]
 .intro y u b;simp only[de]at b;split at b
  .rename_i e;cases b;exact⟨⟨a,v,clock⟩,by simp,e.symm,rfl⟩
  .obtain⟨x,hx,d⟩:=E.only y u b;exact⟨x,by simp[hx],d⟩
def yR:=@List.length_set
theorem fG.modify(E:fG P k es clock n f){b v:Value}{kl:Lit}(d:keyOf P k b=some kl){j:Nat}{e0:MapEntry}(p:es.toList[j]?=some e0)(A:e0.key=b)(g:MapEntry->MapEntry)(F:∀x,(g x).born=x.born)(c:(g e0).key=b)(m:(g e0).val=v) :
  fG P k (es.modify j g) clock n (de f b v):=by
 have D:es[j]?=some e0:=by simpa using p
 have t:(es.modify j g).toList=es.toList.set j (g e0):=by rw[Array.toList_modify,modify_eq_set _ _ _ _ p]
 have r:j<es.toList.length:=(zE.1 p).1;have w:∀x∈es.toList.set j (g e0),x=g e0\/(x∈es.toList/\x.key≠b):=by
  intro x hx;obtain⟨i,z,ex⟩:=List.getElem_of_mem hx;rw[List.getElem_set]at ex;split at ex
  .exact Or.inl ex.symm
  .rename_i e;have l:i<es.toList.length:=by simpa using z
   refine Or.inr ⟨ex ▸ wE l,?_⟩;rw[←A];exact qI E.stamped (by rw[zD l,ex]) p (λB=>e B.symm)
 refine⟨by simpa using E.size,stamped_modify E.stamped _ _ (λx _=>F x) (λH _ o=>by rw[D]at o;cases o;rw[c,A]),?_,?_,?_⟩
 .intro x hx;rw[t]at hx;rcases w x hx with rfl|⟨h,_⟩
  .exact⟨kl,by rw[c];exact d⟩
  .exact E.keys x h
 .intro x hx;rw[t]at hx;rcases w x hx with rfl|⟨h,e⟩
  .simp[de,c,m]
  .simp only[de,if_neg e];exact E.mem x h
 .intro y u q;simp only[de]at q;split at q
  .rename_i B;cases q
   refine⟨g e0,?_,by rw[c,B],m⟩;rw[t];exact List.mem_set r _
  .rename_i e;obtain⟨x,hx,C,G⟩:=E.only y u q;refine⟨x,?_,C,G⟩;rw[t];obtain⟨i,z,ex⟩:=List.getElem_of_mem hx;have s:j≠i:=by
    rintro rfl;have:=(zE.1 p).2;rw[ex]at this;subst this;exact e (C.symm.trans A)
   have:=List.getElem_set_ne s (a:=g e0) (by rw[yR];exact z);rw[ex]at this;rw[←this];exact wE _
theorem bU.update(h:bU P k w b n f)(K:Keyed P k)(i:P.underlying t=some (.map k e)){key v:Value}{kl:Lit}(y:keyOf P k key=some kl) :
  ∃w',(Instr.mapUpdate t (.map (some b)) key v).run P w= .ok () w'/\bU P k w' b (n+1) (de f key v)/\aW (λx=>x=b) w w':=by
 obtain⟨es,clock,a,E⟩:=h;rcases E.look K y w with⟨g,_,d⟩|⟨j,e0,g,d,l,_⟩
 .exact⟨_,by simp[Instr.mapUpdate,run_underlying i,MapKept.run_getObj_map a,K.check w false y,g,MapKept.run_setObj_map _ a,Result.andThen];rfl,⟨_,_,heap_setBlock_same a _,E.push y d⟩,aW.setBlock a⟩
 .have m:es[j]?=some e0:=by simpa using d
  have c:=E.modify y d l (λo=>{ o with key:=key,val:=v }) (λ_=>rfl) rfl rfl;exact⟨_,by simp[Instr.mapUpdate,run_underlying i,MapKept.run_getObj_map a,K.check w false y,g,m,l,K.stays w y,MapKept.run_setObj_map _ a,Result.andThen];rfl,⟨_,_,heap_setBlock_same a _,⟨Nat.le_succ_of_le c.size,c.stamped,c.keys,c.mem,c.only⟩⟩,aW.setBlock a⟩
end
end
section
open Go Go.Maps Go.MapKept
def jW(w:World):Prop:=Lib.TabIs prog w "internal/strconv.uint64pow10" .u64 Lib.pow10Tab
def lC(w:World):Prop:=∀i s,[(⟨#[107,101,121]⟩:ByteArray),⟨#[114,101,102]⟩,⟨#[110,117,109]⟩,⟨#[112,105,99,107]⟩,⟨#[100,97,121]⟩,⟨#[115,116,101,112]⟩,⟨#[115,117,109]⟩,⟨#[115,104,97,114,101]⟩,⟨#[99,111,112,121]⟩][i]?=some s->w.cell? ⟨1,i,none⟩=some (.string s)
def ev:List Nat:=[
 0x428a2f98,0x71374491,0xb5c0fbcf,0xe9b5dba5,0x3956c25b,0x59f111f1,0x923f82a4,0xab1c5ed5,
 0xd807aa98,0x12835b01,0x243185be,0x550c7dc3,0x72be5d74,0x80deb1fe,0x9bdc06a7,0xc19bf174,
 0xe49b69c1,0xefbe4786,0x0fc19dc6,0x240ca1cc,0x2de92c6f,0x4a7484aa,0x5cb0a9dc,0x76f988da,
 0x983e5152,0xa831c66d,0xb00327c8,0xbf597fc7,0xc6e00bf3,0xd5a79147,0x06ca6351,0x14292967,
 0x27b70a85,0x2e1b2138,0x4d2c6dfc,0x53380d13,0x650a7354,0x766a0abb,0x81c2c92e,0x92722c85,
 0xa2bfe8a1,0xa81a664b,0xc24b8b70,0xc76c51a3,0xd192e819,0xd6990624,0xf40e3585,0x106aa070,
 0x19a4c116,0x1e376c08,0x2748774c,0x34b0bcb5,0x391c0cb3,0x4ed8aa4a,0x5b9cca4f,0x682e6ff3,
 0x748f82ee,0x78a5636f,0x84c87814,0x8cc70208,0x90befffa,0xa4506ceb,0xbef9a3f7,0xc67178f2]
def EL(g:Nat)(w:World):Prop:=∀(i n:Nat),ev[i]?=some n->w.cell? ⟨g,i,none⟩=some (.int .u32 (n:Int))
def nT(f:FuncId):Value:=.func (.func f) #[] #[]
def gZ:Value->Option Value
 |.int .i64 0=>some (nT 310)
 |.int .i64 1=>some (nT 311)
 |.int .i64 4=>some (nT 312)
 |.int .i64 5=>some (nT 313)
 |.int .i64 6=>some (nT 315)
 |.int .i64 7=>some (nT 316)
 |.int .i64 8=>some (nT 318)
 |_=>none
def qR(f:Value->Option Value)(v:Value):Option Value:=(f v).map λx=>.agg #[x]
def ET(w:World)(O:Nat->Prop):Prop:=∃r,w.cell? ⟨0,0,none⟩=some (.map (some r))/\¬O r/\bU prog 3 w r 7 (qR gZ)
structure qZ(w:World)(O:Nat->Prop):Prop where
 lt:∀b,O b->b<w.heap.size
 sz:6<=w.heap.size
 no:∀b,b<6->¬O b
 pow:jW w
 words:lC w
 checks:ET w O
 rc:EL 2 w
theorem lY{w w':World}(hs:∀b,b<6->w'.heap[b]?=w.heap[b]?)(h:jW w):jW w':=by
 unfold jW Lib.TabIs World.var? at *;rw[show(prog.globalNamed "internal/strconv.uint64pow10")=some 3 by kernel_rfl]at *
 simp only[Option.bind_some]at *;rw[hs _ (by decide)];exact h
theorem qZ.keep{w w':World}{O g:Nat->Prop}(h:qZ w O)(z:w.heap.size<=w'.heap.size)(j:∀b,b<w.heap.size->¬O b->¬g b)
  (hs:∀b,b<w.heap.size->¬O b->w'.heap[b]?=w.heap[b]?) (l:∀b,g b->b<w'.heap.size):qZ w' g:=by
 have d:∀b,b<6->w'.heap[b]?=w.heap[b]?:=λb c=>hs b (yI c h.sz) (h.no b c);refine⟨l,xH h.sz z,λb c=>j b (yI c h.sz) (h.no b c),lY d h.pow,λi s e=>?_,?_,λi n e=>?_⟩
 .exact(World.cell?_of_block (w:=w) (a:=⟨1,i,none⟩) (d 1 (by decide))).trans (h.words i s e)
 .obtain⟨r,m,k,f⟩:=h.checks;exact⟨r,(World.cell?_of_block (w:=w) (a:=⟨0,0,none⟩) (d 0 (by decide))).trans m,j r f.lt k,f.same (hs r f.lt k)⟩
 .exact(World.cell?_of_block (w:=w) (a:=⟨2,i,none⟩) (d 2 (by decide))).trans (h.rc i n e)
theorem qZ.ex{w w':World}{O:Nat->Prop}(h:qZ w O)(e:Ex w w'):qZ w' O:=
 h.keep e.size (λ_ _ h=>h) (λb a _=>e.block b a) (λb a=>yI (h.lt b a) e.size)
theorem qZ.mono{w:World}{O c:Nat->Prop}(h:qZ w O)(a:∀b,c b->O b):qZ w c:=
 h.keep (zT _) (λb _ n o=>n (a b o)) (λ_ _ _=>rfl) (λb d=>h.lt b (a b d))
end
end Go.Proofs.YtilnpcolgcmofaaGreatDoor
