/- A part of the proof. -/
import Derived.WalkKit
import Derived.Lib.Hide
import Derived.Deep.Draws
import Derived.Maps.OwnSet
import Derived.Test.YtilnpcolgcmofaaGreatDoorProg
import Derived.Lib.LaidTab
import Derived.Lib.ItoaLen
import Derived.Sort.LoopGhostIn
import Derived.OrdersIn
import Derived.TacticsInMore
set_option maxRecDepth 100000
set_option maxHeartbeats 20000000
set_option linter.all false
namespace Go.Proofs.YtilnpcolgcmofaaGreatDoor
open Tryz
/-- A proof, set aside. -/
structure ar(B : Prop) : Prop where
  run : B
end Go.Proofs.YtilnpcolgcmofaaGreatDoor
namespace Go.Proofs.YtilnpcolgcmofaaGreatDoor
open Tryz
section
open Go.RowKit
structure ba(S:Nat->Prop)(w w':World):Prop where
 os:w'.os=w.os
 tape:w'.tape=w.tape
 output:w'.output=w.output
 size:w.heap.size<=w'.heap.size
 block:∀b,b<w.heap.size->¬S b->w'.heap[b]?=w.heap[b]?
def zT:=@Nat.le_refl
def ba.refl(S:Nat->Prop)(w:World):ba S w w:=⟨rfl,rfl,rfl,zT _,λ_ _ _=>rfl⟩
def xH:=@Nat.le_trans
def yI:=@Nat.lt_of_lt_of_le
variable{S:Nat->Prop}
def ba.trans{a b c:World}(h:ba S a b)(k:ba S b c):ba S a c:=
 ⟨k.os.trans h.os,k.tape.trans h.tape,k.output.trans h.output,xH h.size k.size,
  λi d hs=>(k.block i (yI d h.size) hs).trans (h.block i d hs)⟩
def ba.mono{c:Nat->Prop}{w w':World}(h:ba S w w')(hs:∀b,b<w.heap.size->S b->c b):ba c w w':=
 ⟨h.os,h.tape,h.output,h.size,λb a n=>h.block b a (λd=>n (hs b a d))⟩
def ba.drew{a w:World}(h:ba S a w):ba S a w.drew:=⟨h.os,h.tape,h.output,h.size,h.block⟩
def ba.drewN{a w:World}{n:Nat}(h:ba S a w):ba S a (w.drewN n):=⟨h.os,h.tape,h.output,h.size,h.block⟩
def ba.alloc{a w:World}(h:ba S a w)(o:Obj):ba S a (w.alloc o):=
 ⟨h.os,h.tape,h.output,by simp;have:=h.size;omega,λb c n=>(Below.heap_alloc w o b (yI c h.size)).trans (h.block b c n)⟩
variable{p:Addr}
def ba.setCell{a w:World}(h:ba S a w)(c:a.heap.size<=p.block\/S p.block)(v:Value):ba S a (w.setCell p v):=
 ⟨h.os,h.tape,h.output,by simp;exact h.size,λb d n=>(Below.heap_setCell w p v b (by
  intro e;subst e;rcases c with c|c
  .omega
  .exact n c)).trans (h.block b d n)⟩
variable{v:Value}
def ba.cell{w w':World}(h:ba S w w')(c:w.cell? p=some v)(a:¬S p.block):w'.cell? p=some v:=
 (World.cell?_of_block (w:=w) (h.block p.block (World.block_lt_of_cell? w p c) a)).trans c
def Ex(w w':World):Prop:=ba (λ_=>False) w w'
def Ex.refl(w:World):Ex w w:=ba.refl _ _
def Ex.trans{a b c:World}(h:Ex a b)(k:Ex b c):Ex a c:=ba.trans h k
def Ex.drew{a w:World}(h:Ex a w):Ex a w.drew:=ba.drew h
def Ex.drewN{a w:World}{n:Nat}(h:Ex a w):Ex a (w.drewN n):=ba.drewN h
def Ex.alloc{a w:World}{o:Obj}(h:Ex a w):Ex a (w.alloc o):=ba.alloc h o
def Ex.setCell{a w:World}(h:Ex a w)(b:a.heap.size<=p.block)(v:Value):Ex a (w.setCell p v):=ba.setCell h (Or.inl b) v
def Ex.size{w w':World}(h:Ex w w'):w.heap.size<=w'.heap.size:=ba.size h
def Ex.cell{w w':World}(h:Ex w w')(c:w.cell? p=some v):w'.cell? p=some v:=ba.cell h c (λx=>x)
def Ex.block{w w':World}(h:Ex w w')(b:Nat)(a:b<w.heap.size):w'.heap[b]?=w.heap[b]?:=ba.block h b a (λx=>x)
def Ex.below{w w':World}(h:Ex w w'):Below w.heap.size w w':=⟨ba.os h,ba.tape h,ba.output h,ba.size h,λk a=>Ex.block h k a⟩
def Ex.frozen{w w':World}(h:Ex w w')(a:p.block<w.heap.size):w'.frozen? p=w.frozen? p:=World.frozen?_of_block (w:=w) (Ex.block h p.block a)
def Ex.keep{w w':World}(h:Ex w w'):ba S w w':=ba.mono h (λ_ _ h=>h.elim)
def Ex.rules{w w':World}(h:Ex w w'):(∀b o,b<w.heap.size->w'.cell? ⟨b,o,none⟩=w.cell? ⟨b,o,none⟩)/\(∀b o,b<w.heap.size->w'.frozen? ⟨b,o,none⟩=w.frozen? ⟨b,o,none⟩):=
 ⟨λb o c=>World.cell?_of_block (w:=w) (a:=⟨b,o,none⟩) (Ex.block h b c),λb o c=>World.frozen?_of_block (w:=w) (a:=⟨b,o,none⟩) (Ex.block h b c)⟩
def GX(n:Int):Prop:=-9223372036854775808<=n/\n<=9223372036854775807
structure p'{α:Type}(k:Nat)(R:α->List Value->Prop)(w:World)(F:Nat->Prop)(xs:List α)(a:Option Addr)(cap:Nat):Prop where
 le:xs.length<=cap
 at_:∀i x,xs[i]?=some x->∃b off,a=some ⟨b,off,none⟩/\F b/\∃vs:List Value,vs.length=k/\R x vs/\∀j v,vs[j]?=some v->w.cell? ⟨b,off+i*k+j,none⟩=some v
def zk(F:Nat->Prop)(w w':World):Prop:=∀b,F b->b<w.heap.size->w'.heap[b]?=w.heap[b]?
def Ex.same{F:Nat->Prop}{w w':World}(h:Ex w w'):zk F w w':=λb _ a=>Ex.block h b a
def ba.same{F:Nat->Prop}{w w':World}(h:ba S w w')(d:∀b,F b->¬S b):zk F w w':=λb f a=>h.block b a (d b f)
def zk.cell{F:Nat->Prop}{w w':World}(h:zk F w w')(c:w.cell? p=some v)(a:F p.block):w'.cell? p=some v:=
 (World.cell?_of_block (w:=w) (h p.block a (World.block_lt_of_cell? w p c))).trans c
def zG:=@List.mem_of_getElem?
variable{α:Type}{cap:Nat}{R:α->List Value->Prop}
def p'.keep{k:Nat}{d:α->List Value->Prop}{w w':World}{F F':Nat->Prop}{xs:List α}{a:Option Addr}
  (h:p' k R w F xs a cap) (hs:zk F w w') (hF:∀b,F b->F' b) (m:∀x vs,x∈xs->R x vs->d x vs):p' k d w' F' xs a cap:=
 ⟨h.le,λi x hx=>by
  obtain⟨b,o,g,c,vs,l,r,f⟩:=h.at_ i x hx;exact⟨b,o,g,hF b c,vs,l,m x vs (zG hx) r,λj v e=>hs.cell (f j v e) c⟩⟩
def zW:=@Nat.zero_le
def p'.nil{k:Nat}{w:World}{F:Nat->Prop}{a:Option Addr}:p' k R w F ([]:List α) a cap:=
 ⟨zW _,λi x hx=>by simp at hx⟩
def bE4(x:Int)(vs:List Value):Prop:=vs=[.int .i64 x]/\GX x
def bE2(s:ByteArray)(vs:List Value):Prop:=vs=[.string s]
def bE1(x:Int×Int)(vs:List Value):Prop:=vs=[.int .i64 x.1,.int .i64 x.2]/\GX x.1/\GX x.2
abbrev bj2(w:World)(F:Nat->Prop):=p' 1 bE4 w F
abbrev N8(w:World)(F:Nat->Prop):=p' 1 bE2 w F
abbrev bj1(w:World)(F:Nat->Prop):=p' 2 bE1 w F
structure an where
 name:ByteArray
 of:ByteArray
 up:ByteArray
 kind:Int
 lo:Int
 hi:Int
 words:List ByteArray
 wz:List Int
structure aq where
 name:ByteArray
 lo:Int
 hi:Int
 fields:List an
structure bG where
 name:ByteArray
 tz:List ByteArray
 mz:List (Int×Int)
structure cH where
 name:ByteArray
 kind:ByteArray
 a:ByteArray
 b:ByteArray
 n:Int
structure ak where
 vz:Int
 kz:List aq
 lz:List bG
 rules:List cH
def LG(w:World)(F:Nat->Prop)(x:an)(vs:List Value):Prop:=
 ∃a wc b g,vs=[.string x.name,.string x.of,.string x.up,.int .i64 x.kind,.int .i64 x.lo,.int .i64 x.hi,.slice a x.words.length wc,.slice b x.wz.length g] /\
  GX x.kind/\GX x.lo/\GX x.hi/\N8 w F x.words a wc/\bj2 w F x.wz b g
abbrev u5(w:World)(F:Nat->Prop):=p' 8 (LG w F) w F
def LF(w:World)(F:Nat->Prop)(x:aq)(vs:List Value):Prop:=
 ∃a f,vs=[.string x.name,.int .i64 x.lo,.int .i64 x.hi,.slice a x.fields.length f]/\GX x.lo/\GX x.hi/\u5 w F x.fields a f
abbrev u4(w:World)(F:Nat->Prop):=p' 4 (LF w F) w F
def LD(w:World)(F:Nat->Prop)(x:bG)(vs:List Value):Prop:=
 ∃s sc a m,vs=[.string x.name,.slice s x.tz.length sc,.slice a x.mz.length m]/\N8 w F x.tz s sc/\bj1 w F x.mz a m
abbrev u0(w:World)(F:Nat->Prop):=p' 3 (LD w F) w F
def bE3(x:cH)(vs:List Value):Prop:=vs=[.string x.name,.string x.kind,.string x.a,.string x.b,.int .i64 x.n]/\GX x.n
abbrev uY(w:World)(F:Nat->Prop):=p' 5 bE3 w F
def Rv(w:World)(F:Nat->Prop)(x:ak)(v:Value):Prop:=
 ∃c k b l a r,v= .agg #[.int .i64 x.vz,.slice c x.kz.length k,.slice b x.lz.length l,.slice a x.rules.length r]/\GX x.vz /\
  u4 w F x.kz c k/\u0 w F x.lz b l/\uY w F x.rules a r
section
variable {w w':World} {F F':Nat->Prop} (hs:zk F w w') (hF:∀b,F b->F' b)
include hs hF
variable{vs:List Value}
def LG.keep{x:an}(h:LG w F x vs):LG w' F' x vs:=by
 obtain⟨a,wc,j,i,g,f,e,d,c,b⟩:=h;exact⟨a,wc,j,i,g,f,e,d,c.keep hs hF (λ_ _ _ h=>h),b.keep hs hF (λ_ _ _ h=>h)⟩
variable{c:Nat}
def u5.keep{xs:List an}{a:Option Addr}(h:u5 w F xs a c):u5 w' F' xs a c:=p'.keep h hs hF (λ_ _ _ h=>h.keep hs hF)
def LF.keep{x:aq}(h:LF w F x vs):LF w' F' x vs:=by
 obtain⟨e,f,d,c,b,a⟩:=h;exact⟨e,f,d,c,b,a.keep hs hF⟩
def u4.keep{xs:List aq}{a:Option Addr}(h:u4 w F xs a c):u4 w' F' xs a c:=p'.keep h hs hF (λ_ _ _ h=>h.keep hs hF)
def LD.keep{x:bG}(h:LD w F x vs):LD w' F' x vs:=by
 obtain⟨s,sc,a,m,d,c,b⟩:=h;exact⟨s,sc,a,m,d,c.keep hs hF (λ_ _ _ h=>h),b.keep hs hF (λ_ _ _ h=>h)⟩
def u0.keep{xs:List bG}{a:Option Addr}(h:u0 w F xs a c):u0 w' F' xs a c:=p'.keep h hs hF (λ_ _ _ h=>h.keep hs hF)
def uY.keep{xs:List cH}{a:Option Addr}(h:uY w F xs a c):uY w' F' xs a c:=p'.keep h hs hF (λ_ _ _ h=>h)
def Rv.keep{x:ak}{v:Value}(h:Rv w F x v):Rv w' F' x v:=by
 obtain⟨c,k,b,l,a,r,i,g,f,e,d⟩:=h;exact⟨c,k,b,l,a,r,i,g,f.keep hs hF,e.keep hs hF,d.keep hs hF⟩
end
variable{α:Type}
def idx(p:α->Bool)(xs:List α):Int:=match xs.findIdx? p with|some i=>i|none=>-1
def zE:=@List.getElem?_eq_some_iff
def wB:=@List.findIdx?_eq_some_iff_getElem
def zD:=@List.getElem?_eq_getElem
def K'{p:α->Bool}{xs:List α}{k:Nat}{x:α}(a:xs[k]?=some x)(hx:p x=true)(o:∀i y,i<k->xs[i]?=some y->p y=false):idx p xs=k:=by
 have h:k<xs.length:=(zE.1 a).1;have:xs.findIdx? p=some k:=by
  rw[wB];refine⟨h,?_,?_⟩
  .rw[zD h]at a;simp at a;rw[a];exact hx
  .intro j b;simp[o j _ b (zD (by omega))]
 simp[idx,this]
def yO:=@List.getElem?_of_mem
def R1{p:α->Bool}{xs:List α}(h:∀(i:Nat)y,xs[i]?=some y->p y=false):idx p xs= -1:=by
 have:xs.findIdx? p=none:=by
  rw[List.findIdx?_eq_none_iff];intro x hx;obtain⟨i,a⟩:=yO hx;exact h i x a
 simp[idx,this]
def Ee(p:α->Bool)(xs:List α):-1<=idx p xs:=by unfold idx;split<;>omega
def GU(p:α->Bool)(xs:List α):idx p xs<xs.length:=by
 unfold idx;split
 .rename_i i h;have:=wB.1 h;obtain⟨a,_⟩:=this;omega
 .omega
def wC:=@List.any_eq_true
def wE:=@List.getElem_mem
def uK(p:α->Bool)(xs:List α):decide (0<=idx p xs)=xs.any p:=by
 unfold idx;split
 .rename_i i h;obtain⟨b,a,_⟩:=wB.1 h;have:xs.any p=true:=wC.2 ⟨xs[i],wE b,a⟩;simp[this]
 .rename_i h;rw[List.findIdx?_eq_none_iff]at h;have:xs.any p=false:=by rw[List.any_eq_false];intro x hx;simp[h x hx]
  simp[this]
def ru7{a b:World}(h:Ex a b:=by first|exact Ex.trans hb (show Ex _ w1 from(by repeat(first|exact Ex.refl _|assumption|apply Ex.alloc|apply Ex.drew|apply Ex.drewN|(refine Ex.trans ?_ (by assumption)))))|exact hb1):Ex a b/\(∀d o,d<a.heap.size->b.cell? ⟨d,o,none⟩=a.cell? ⟨d,o,none⟩)/\(∀d o,d<a.heap.size->b.frozen? ⟨d,o,none⟩=a.frozen? ⟨d,o,none⟩)/\a.heap.size<=b.heap.size:=⟨h,h.rules.1,h.rules.2,h.size⟩
def bE8:(∀(w:World)(o:Obj),(w.alloc o).heap.size=w.heap.size+1)/\(∀(w:World),w.drew.heap.size=w.heap.size)/\(∀(w:World)(p:Addr)(v:Value),(w.setCell p v).heap.size=w.heap.size)/\(∀(w:World)(n:Nat),(w.drewN n).heap=w.heap):=⟨λ_ _=>World.size_alloc ..,λ_=>World.size_drew ..,λ_ _ _=>World.size_setCell ..,λ_ _=>World.heap_drewN ..⟩
def z07(w w1:World)(h:w.heap.size<w1.heap.size:=by omega):w.heap.size<w1.heap.size:=h
def z17(w w1:World)(h:w.heap.size+1<w1.heap.size:=by omega):w.heap.size+1<w1.heap.size:=h
def z27(w w1:World)(h:w.heap.size+1+1<w1.heap.size:=by omega):w.heap.size+1+1<w1.heap.size:=h
end
section
open Go Go.Maps Go.MapKept
open Go.ChangeMaps (setBlock modify_eq_set heap_setBlock_same heap_setBlock_other)
structure gn(P:Program)(k:TypeId)(es:Array MapEntry)(clock n:Nat)(f:Value->Option Value):Prop where
 size:es.size<=n
 stamped:Stamped es clock
 keys:∀e∈es.toList,∃l,keyOf P k e.key=some l
 mem:∀e∈es.toList,f e.key=some e.val
 only:∀key v,f key=some v->∃e∈es.toList,e.key=key/\e.val=v
def cb(P:Program)(k:TypeId)(w:World)(b n:Nat)(f:Value->Option Value):Prop:=∃es clock,w.heap[b]?=some (.map es clock)/\gn P k es clock n f
def Oa(P:Program)(k:TypeId)(w:World)(b n:Nat)(f:Value->Option Value)(y s:Value):Prop:=
 ∃es clock,w.heap[b]?=some (.map es clock)/\gn P k es clock n f/\∃e∈es.toList,e.key=y/\s=goInt e.born
noncomputable def dC (f:Value->Option Value) (key v:Value):Value->Option Value:=open Classical in λx=>if x=key then some v else f x
def Oa.is{P:Program}{k:TypeId}{w:World}{b n:Nat}{f:Value->Option Value}{y s:Value}(h:Oa P k w b n f y s):cb P k w b n f:=by
 obtain⟨es,c,d,a,_⟩:=h;exact⟨es,c,d,a⟩
def cb.made(P:Program)(k:TypeId)(w:World)(n:Nat):cb P k (w.alloc (.map #[] 0)) w.heap.size n (λ_=>none):=
 ⟨#[],0,(MapKept.heap_alloc w _).1,⟨by simp,stamped_empty 0,by simp,by simp,by simp⟩⟩
def zX:=@Array.getElem?_eq_some_iff
def cb.lt{P:Program}{k:TypeId}{w:World}{b n:Nat}{f:Value->Option Value}(h:cb P k w b n f):b<w.heap.size:=by
 obtain⟨es,clock,a,_⟩:=h;exact(zX.1 a).1
def cb.same{P:Program}{k:TypeId}{w w':World}{b n:Nat}{f:Value->Option Value}(h:cb P k w b n f)(hs:w'.heap[b]?=w.heap[b]?):cb P k w' b n f:=by
 obtain⟨es,clock,a,h⟩:=h;exact⟨es,clock,hs.trans a,h⟩
def cb.mono{P:Program}{k:TypeId}{w:World}{b n m:Nat}{f:Value->Option Value}(h:cb P k w b n f)(a:n<=m):cb P k w b m f:=by
 obtain⟨es,clock,c,h⟩:=h;exact⟨es,clock,c,⟨xH h.size a,h.stamped,h.keys,h.mem,h.only⟩⟩
section
variable {P:Program} {k t e:TypeId} {w:World} {b n:Nat} {f:Value->Option Value} {es:Array MapEntry} {clock:Nat}
variable{y:Value}{kl:Lit}
def gn.look(E:gn P k es clock n f)(K:Keyed P k)(h:keyOf P k y=some kl)(w:World) :
  ((Instr.findKey k y es.toList).run P w= .ok none w/\f y=none/\∀x∈es.toList,x.key≠y)\/∃j e0,(Instr.findKey k y es.toList).run P w= .ok (some (j,e0.val)) w/\es.toList[j]?=some e0/\e0.key=y/\f y=some e0.val:=by
 rcases K.find w h es.toList E.keys with⟨b,a⟩|⟨j,e0,b,a,c⟩
 .refine Or.inl ⟨b,?_,a⟩
  cases e:f y with
  |none=>rfl
  |some v=>obtain⟨e0,g,d,_⟩:=E.only y v e;exact absurd d (a e0 g)
 .exact Or.inr ⟨j,e0,b,a,c,by rw[←c];exact E.mem e0 (zG a)⟩
variable{p:Prop}
def M7(h:p:=by
 simp[Instr.lookup,run_underlying ht,MapKept.run_getObj_map hb,K.check w _ hkey,h1,hz,h2,Result.andThen]):p:=h
def MY(h:p:=by
 simp[Instr.lookup,run_underlying ht,MapKept.run_getObj_map hb,K.check w _ hkey,h1,h4,Result.andThen]):p:=h
variable{z:Value}
def cb.look(h:cb P k w b n f)(K:Keyed P k)(ht:P.underlying t=some (.map k e))(hz:(zeroValue e).run P w= .ok z w)(hkey:keyOf P k y=some kl) :
  (Instr.lookup t (.map (some b)) y false).run P w= .ok ((f y).getD z) w:=by
 obtain⟨es,clock,hb,E⟩:=h;rcases E.look K hkey w with⟨h1,h2,_⟩|⟨j,e0,h1,_,_,h4⟩
 .exact M7
 .exact MY
def cb.look_ok(h:cb P k w b n f)(K:Keyed P k)(ht:P.underlying t=some (.map k e))(hz:(zeroValue e).run P w= .ok z w)(hkey:keyOf P k y=some kl) :
  (Instr.lookup t (.map (some b)) y true).run P w= .ok (.tuple #[(f y).getD z,.bool (f y).isSome]) w:=by
 obtain⟨es,clock,hb,E⟩:=h;rcases E.look K hkey w with⟨h1,h2,_⟩|⟨j,e0,h1,_,_,h4⟩
 .exact M7
 .exact MY
def ba.setBlock{o:Obj}{es:Array MapEntry}{clock:Nat}(a:w.heap[b]?=some (.map es clock)):ba (λx=>x=b) w (setBlock w b o):=
 ⟨rfl,rfl,rfl,by simp[ChangeMaps.setBlock],λi _ h=>heap_setBlock_other a _ (λe=>h e)⟩
def wS:=@List.pairwise_iff_getElem
variable{j:Nat}
def r7(hs:Stamped es clock){i:Nat}{x y:MapEntry}(d:es.toList[i]?=some x)(c:es.toList[j]?=some y)(e:i≠j):x.key≠y.key:=by
 have p:=((stamped_iff es clock).1 hs).2.2;obtain⟨b,rfl⟩:=zE.1 d;obtain⟨a,rfl⟩:=zE.1 c;rcases Nat.lt_or_gt_of_ne e with h|h
 .exact wS.1 p i j b a h
 .exact(wS.1 p j i a b h).symm
def zO:=@List.mem_append
def zN:=@List.mem_singleton
variable{v:Value}
def gn.push(E:gn P k es clock n f){a:Value}(h:keyOf P k a=some kl)(c:∀x∈es.toList,x.key≠a):gn P k (es.push ⟨a,v,clock⟩) (clock+1) (n+1) (dC f a v):=by
 refine⟨by simp;exact E.size,stamped_push E.stamped c,?_,?_,?_⟩
 .intro x hx;simp only[Array.toList_push,zO,zN]at hx;rcases hx with hx|rfl
  .exact E.keys x hx
  .exact⟨kl,h⟩
 .intro x hx;simp only[Array.toList_push,zO,zN]at hx;rcases hx with hx|rfl
  .simp only[dC,if_neg (c x hx)];exact E.mem x hx
  .simp[dC]
 .intro y u b;simp only[dC]at b;split at b
  .rename_i e;cases b;exact⟨⟨a,v,clock⟩,by simp,e.symm,rfl⟩
  .obtain⟨x,hx,d⟩:=E.only y u b;exact⟨x,by simp[hx],d⟩
def yR:=@List.length_set
def gn.modify(E:gn P k es clock n f){b:Value}(d:keyOf P k b=some kl){e0:MapEntry}(p:es.toList[j]?=some e0)(A:e0.key=b)(g:MapEntry->MapEntry)(F:∀x,(g x).born=x.born)(c:(g e0).key=b)(m:(g e0).val=v) :
  gn P k (es.modify j g) clock n (dC f b v):=by
 have D:es[j]?=some e0:=by simpa using p
 have t:(es.modify j g).toList=es.toList.set j (g e0):=by rw[Array.toList_modify,modify_eq_set _ _ _ _ p]
 have r:j<es.toList.length:=(zE.1 p).1;have w:∀x∈es.toList.set j (g e0),x=g e0\/(x∈es.toList/\x.key≠b):=by
  intro x hx;obtain⟨i,z,ex⟩:=List.getElem_of_mem hx;rw[List.getElem_set]at ex;split at ex
  .exact Or.inl ex.symm
  .rename_i e;have l:i<es.toList.length:=by simpa using z
   refine Or.inr ⟨ex ▸ wE l,?_⟩;rw[←A];exact r7 E.stamped (by rw[zD l,ex]) p (λB=>e B.symm)
 refine⟨by simpa using E.size,stamped_modify E.stamped _ _ (λx _=>F x) (λH _ o=>by rw[D]at o;cases o;rw[c,A]),?_,?_,?_⟩
 .intro x hx;rw[t]at hx;rcases w x hx with rfl|⟨h,_⟩
  .exact⟨kl,by rw[c];exact d⟩
  .exact E.keys x h
 .intro x hx;rw[t]at hx;rcases w x hx with rfl|⟨h,e⟩
  .simp[dC,c,m]
  .simp only[dC,if_neg e];exact E.mem x h
 .intro y u q;simp only[dC]at q;split at q
  .rename_i B;cases q
   refine⟨g e0,?_,by rw[c,B],m⟩;rw[t];exact List.mem_set r _
  .rename_i e;obtain⟨x,hx,C,G⟩:=E.only y u q;refine⟨x,?_,C,G⟩;rw[t];obtain⟨i,z,ex⟩:=List.getElem_of_mem hx;have s:j≠i:=by
    rintro rfl;have:=(zE.1 p).2;rw[ex]at this;subst this;exact e (C.symm.trans A)
   have:=List.getElem_set_ne s (a:=g e0) (by rw[yR];exact z);rw[ex]at this;rw[←this];exact wE _
def cb.update(h:cb P k w b n f)(K:Keyed P k)(i:P.underlying t=some (.map k e)){key:Value}(y:keyOf P k key=some kl) :
  ∃w',(Instr.mapUpdate t (.map (some b)) key v).run P w= .ok () w'/\cb P k w' b (n+1) (dC f key v)/\ba (λx=>x=b) w w':=by
 obtain⟨es,clock,a,E⟩:=h;rcases E.look K y w with⟨g,_,d⟩|⟨j,e0,g,d,l,_⟩
 .exact⟨_,by simp[Instr.mapUpdate,run_underlying i,MapKept.run_getObj_map a,K.check w false y,g,MapKept.run_setObj_map _ a,Result.andThen];rfl,⟨_,_,heap_setBlock_same a _,E.push y d⟩,ba.setBlock a⟩
 .have m:es[j]?=some e0:=by simpa using d
  have c:=E.modify y d l (λo=>{ o with key:=key,val:=v }) (λ_=>rfl) rfl rfl;exact⟨_,by simp[Instr.mapUpdate,run_underlying i,MapKept.run_getObj_map a,K.check w false y,g,m,l,K.stays w y,MapKept.run_setObj_map _ a,Result.andThen];rfl,⟨_,_,heap_setBlock_same a _,⟨Nat.le_succ_of_le c.size,c.stamped,c.keys,c.mem,c.only⟩⟩,ba.setBlock a⟩
end
end
section
open Go Go.Maps Go.MapKept
def lv(w:World):Prop:=Lib.TabIs prog w "internal/strconv.uint64pow10" .u64 Lib.pow10Tab
def mN(w:World):Prop:=∀i s,[(⟨#[107,101,121]⟩:ByteArray),⟨#[114,101,102]⟩,⟨#[110,117,109]⟩,⟨#[112,105,99,107]⟩,⟨#[100,97,121]⟩,⟨#[115,116,101,112]⟩,⟨#[115,117,109]⟩,⟨#[115,104,97,114,101]⟩,⟨#[99,111,112,121]⟩][i]?=some s->w.cell? ⟨1,i,none⟩=some (.string s)
def eU:List Nat:=[
 0x428a2f98,0x71374491,0xb5c0fbcf,0xe9b5dba5,0x3956c25b,0x59f111f1,0x923f82a4,0xab1c5ed5,
 0xd807aa98,0x12835b01,0x243185be,0x550c7dc3,0x72be5d74,0x80deb1fe,0x9bdc06a7,0xc19bf174,
 0xe49b69c1,0xefbe4786,0x0fc19dc6,0x240ca1cc,0x2de92c6f,0x4a7484aa,0x5cb0a9dc,0x76f988da,
 0x983e5152,0xa831c66d,0xb00327c8,0xbf597fc7,0xc6e00bf3,0xd5a79147,0x06ca6351,0x14292967,
 0x27b70a85,0x2e1b2138,0x4d2c6dfc,0x53380d13,0x650a7354,0x766a0abb,0x81c2c92e,0x92722c85,
 0xa2bfe8a1,0xa81a664b,0xc24b8b70,0xc76c51a3,0xd192e819,0xd6990624,0xf40e3585,0x106aa070,
 0x19a4c116,0x1e376c08,0x2748774c,0x34b0bcb5,0x391c0cb3,0x4ed8aa4a,0x5b9cca4f,0x682e6ff3,
 0x748f82ee,0x78a5636f,0x84c87814,0x8cc70208,0x90befffa,0xa4506ceb,0xbef9a3f7,0xc67178f2]
def Ga(g:Nat)(w:World):Prop:=∀(i n:Nat),eU[i]?=some n->w.cell? ⟨g,i,none⟩=some (.int .u32 (n:Int))
def pd(f:FuncId):Value:=.func (.func f) #[] #[]
def iB:Value->Option Value
 |.int .i64 0=>some (pd 310)
 |.int .i64 1=>some (pd 311)
 |.int .i64 4=>some (pd 312)
 |.int .i64 5=>some (pd 313)
 |.int .i64 6=>some (pd 315)
 |.int .i64 7=>some (pd 316)
 |.int .i64 8=>some (pd 318)
 |_=>none
def sv(f:Value->Option Value)(v:Value):Option Value:=(f v).map λx=>.agg #[x]
def Gj(w:World)(O:Nat->Prop):Prop:=∃r,w.cell? ⟨0,0,none⟩=some (.map (some r))/\¬O r/\cb prog 3 w r 7 (sv iB)
structure sF(w:World)(O:Nat->Prop):Prop where
 lt:∀b,O b->b<w.heap.size
 sz:6<=w.heap.size
 no:∀b,b<6->¬O b
 pow:lv w
 words:mN w
 checks:Gj w O
 rc:Ga 2 w
def np{w w':World}(hs:∀b,b<6->w'.heap[b]?=w.heap[b]?)(h:lv w):lv w':=by
 unfold lv Lib.TabIs World.var? at *;rw[show(prog.globalNamed "internal/strconv.uint64pow10")=some 3 by kernel_rfl]at *
 simp only[Option.bind_some]at *;rw[hs _ (by decide)];exact h
variable{O:Nat->Prop}
def sF.keep{w w':World}{g:Nat->Prop}(h:sF w O)(z:w.heap.size<=w'.heap.size)(j:∀b,b<w.heap.size->¬O b->¬g b)
  (hs:∀b,b<w.heap.size->¬O b->w'.heap[b]?=w.heap[b]?) (l:∀b,g b->b<w'.heap.size):sF w' g:=by
 have d:∀b,b<6->w'.heap[b]?=w.heap[b]?:=λb c=>hs b (yI c h.sz) (h.no b c);refine⟨l,xH h.sz z,λb c=>j b (yI c h.sz) (h.no b c),np d h.pow,λi s e=>?_,?_,λi n e=>?_⟩
 .exact(World.cell?_of_block (w:=w) (a:=⟨1,i,none⟩) (d 1 (by decide))).trans (h.words i s e)
 .obtain⟨r,m,k,f⟩:=h.checks;exact⟨r,(World.cell?_of_block (w:=w) (a:=⟨0,0,none⟩) (d 0 (by decide))).trans m,j r f.lt k,f.same (hs r f.lt k)⟩
 .exact(World.cell?_of_block (w:=w) (a:=⟨2,i,none⟩) (d 2 (by decide))).trans (h.rc i n e)
def sF.ex{w w':World}(h:sF w O)(e:Ex w w'):sF w' O:=
 h.keep e.size (λ_ _ h=>h) (λb a _=>e.block b a) (λb a=>yI (h.lt b a) e.size)
def sF.mono{w:World}{c:Nat->Prop}(h:sF w O)(a:∀b,c b->O b):sF w c:=
 h.keep (zT _) (λb _ n o=>n (a b o)) (λ_ _ _=>rfl) (λb d=>h.lt b (a b d))
end
section
open Go Go.RowKit
inductive D where
 |v (x:Value)
 |any
 |sl (k:Nat) (xs:List (List D))
 |ro (cs:List D)
 |agg (cs:List D)
 |tup (ds:List D)
 |clo (f:FuncId) (cs:List D)
 |gl (g:Nat)
 |ifc (t:TypeId) (d:D)
 |mth (n:String) (d:D)
inductive Rd(w:World)(O:Nat->Prop):D->Value->Prop
 |v (x:Value):Rd w O (.v x) x
 |any (x:Value):Rd w O .any x
 |sl (k:Nat) (xs:List (List D)) (a:Option Addr) (cap:Nat) (vs:Nat->Nat->Value) (hcap:xs.length<=cap) (hk:∀x∈xs,x.length=k)
   (hc:∀(i:Nat)x,xs[i]?=some x->∃b off,a=some ⟨b,off,none⟩/\¬O b/\b<w.heap.size/\∀j,j<k->w.cell? ⟨b,off+i*k+j,none⟩=some (vs i j))
   (hr:∀(i:Nat)x,xs[i]?=some x->∀(j:Nat)d,x[j]?=some d->Rd w O d (vs i j)):Rd w O (.sl k xs) (.slice a xs.length cap)
 |ro (cs:List D) (b off:Nat) (vs:Nat->Value) (hO:¬O b) (hb:b<w.heap.size)
   (hc:∀j,j<cs.length->w.cell? ⟨b,off+j,none⟩=some (vs j))
   (hr:∀(j:Nat)d,cs[j]?=some d->Rd w O d (vs j)):Rd w O (.ro cs) (.pointer (some ⟨b,off,none⟩))
 |agg (cs:List D) (vs:List Value) (hl:vs.length=cs.length) (hr:∀(j:Nat)d u,cs[j]?=some d->vs[j]?=some u->Rd w O d u):Rd w O (.agg cs) (.agg vs.toArray)
 |tup (cs:List D) (vs:List Value) (hl:vs.length=cs.length) (hr:∀(j:Nat)d u,cs[j]?=some d->vs[j]?=some u->Rd w O d u):Rd w O (.tup cs) (.tuple vs.toArray)
 |clo (f:FuncId) (cs:List D) (vs:List Value) (hl:vs.length=cs.length) (hr:∀(j:Nat)d u,cs[j]?=some d->vs[j]?=some u->Rd w O d u):Rd w O (.clo f cs) (.func (.func f) #[] vs.toArray)
 |gl (g:Nat) (q:Option Nat) (hO:¬O g) (hb:g<w.heap.size) (hc:w.cell? ⟨g,0,none⟩=some (.map q)):Rd w O (.gl g) (.map q)
 |ifc (t:TypeId) (d:D) (x:Value) (h:Rd w O d x):Rd w O (.ifc t d) (.iface t x)
 |mth (n:String) (d:D) (x:Value) (h:Rd w O d x):Rd w O (.mth n d) (.func (.method n) #[x] #[])
structure bj(w:World)(O:Nat->Prop)(cs:List D)(vs:List Value):Prop where
 len:vs.length=cs.length
 at_:∀(j:Nat)d u,cs[j]?=some d->vs[j]?=some u->Rd w O d u
variable{O:Nat->Prop}
def Rd.keep{w w':World}{F:Nat->Prop}(z:w.heap.size<=w'.heap.size)(B:∀b,b<w.heap.size->¬O b->¬F b)
  (hs:∀b,b<w.heap.size->¬O b->w'.heap[b]?=w.heap[b]?) {d:D} {x:Value} (h:Rd w O d x):Rd w' F d x:=by
 induction h with
 |v x=>exact .v x
 |any x=>exact .any x
 |sl k G a C vs r H u y e=>
  refine .sl k G a C vs r H (λi x hx=>?_) e;obtain⟨b,o,I,l,c,m⟩:=u i x hx;exact⟨b,o,I,B b c l,yI c z,λj A=>(World.cell?_of_block (w:=w) (hs b c l)).trans (m j A)⟩
 |ro s b o vs l c u y e=>
  exact .ro s b o vs (B b c l) (yI c z) (λj A=>(World.cell?_of_block (w:=w) (hs b c l)).trans (u j A)) e
 |agg s vs p y e=>exact .agg s vs p e
 |tup s vs p y e=>exact .tup s vs p e
 |clo f s vs p y e=>exact .clo f s vs p e
 |gl g q E l u=>exact .gl g q (B g l E) (yI l z) ((World.cell?_of_block (w:=w) (a:=⟨g,0,none⟩) (hs g l E)).trans u)
 |ifc t d x h e=>exact .ifc t d x e
 |mth n d x h e=>exact .mth n d x e
def bj.keep{w w':World}{a:Nat->Prop}(z:w.heap.size<=w'.heap.size)(c:∀b,b<w.heap.size->¬O b->¬a b)
  (hs:∀b,b<w.heap.size->¬O b->w'.heap[b]?=w.heap[b]?) {s:List D} {x:List Value} (h:bj w O s x):bj w' a s x:=
 ⟨h.len,λj d u f e=>(h.at_ j d u f e).keep z c hs⟩
variable{x:Value}{d:D}
def Rd.ex{w w':World}(e:Ex w w')(h:Rd w O d x):Rd w' O d x:=
 h.keep e.size (λ_ _ h=>h) (λb a _=>e.block b a)
variable{xs:List Value}
def bj.ex{w w':World}(e:Ex w w'){d:List D}(h:bj w O d xs):bj w' O d xs:=
 h.keep e.size (λ_ _ h=>h) (λb a _=>e.block b a)
def bj.nil{w:World}:bj w O [] []:=⟨rfl,λj d u h=>by simp at h⟩
def bj.cons{w:World}{O:Nat->Prop}{d:D}{u:Value}{s:List D}{xs:List Value}(h:Rd w O d u)(t:bj w O s xs):bj w O (d::s) (u::xs):=
 ⟨by simp[t.len],λj e c b a=>by
  cases j with
  |zero=>simp at b a;subst b a;exact h
  |succ j=>simp at b a;exact t.at_ j e c b a⟩
def bj.get{w:World}{s:List D}(h:bj w O s xs){j:Nat}(b:s[j]?=some d):∃u,xs[j]?=some u/\Rd w O d u:=by
 have t:j<s.length:=(zE.1 b).1;have a:j<xs.length:=by rw[h.len];exact t
 exact⟨xs[j],zD a,h.at_ j d _ b (zD a)⟩
def qA:=@List.getElem?_map
def My{w:World}(xs:List Value):bj w O (xs.map .v) xs:=
 ⟨by simp,λj d u h a=>by
  rw[qA,a]at h;simp at h;subst h;exact .v u⟩
variable{u:Value}
def Rd.val{w:World}(h:Rd w O d x)(b:d= .v u):x=u:=by
 subst b;generalize a:D.v u=q at h
 cases h<;>cases a
 rfl
def Rd.sl_inv{w:World}{k:Nat}{xs:List (List D)}(h:Rd w O (.sl k xs) x):∃(a:Option Addr)(c:Nat)(vs:Nat->Nat->Value),x= .slice a xs.length c/\xs.length<=c/\(∀y∈xs,y.length=k) /\
  (∀(i:Nat)y,xs[i]?=some y->∃b o,a=some ⟨b,o,none⟩/\¬O b/\b<w.heap.size/\∀j,j<k->w.cell? ⟨b,o+i*k+j,none⟩=some (vs i j))/\(∀(i:Nat)y,xs[i]?=some y->∀(j:Nat)d,y[j]?=some d->Rd w O d (vs i j)):=by
 generalize e:D.sl k xs=q at h
 cases h<;>cases e
 exact⟨_,_,_,rfl,by assumption,by assumption,by assumption,by assumption⟩
variable{cs:List D}
def Rd.ro_inv{w:World}(h:Rd w O (.ro cs) x):∃(b o:Nat)(vs:Nat->Value),x= .pointer (some ⟨b,o,none⟩)/\¬O b/\b<w.heap.size/\(∀j,j<cs.length->w.cell? ⟨b,o+j,none⟩=some (vs j))/\(∀(j:Nat)d,cs[j]?=some d->Rd w O d (vs j)):=by
 generalize a:D.ro cs=q at h
 cases h<;>cases a
 exact⟨_,_,_,rfl,by assumption,by assumption,by assumption,by assumption⟩
def Rd.agg_inv{w:World}(h:Rd w O (.agg cs) x):∃vs:List Value,x= .agg vs.toArray/\bj w O cs vs:=by
 generalize a:D.agg cs=q at h
 cases h<;>cases a
 rename_i vs l r;exact⟨vs,rfl,l,r⟩
def Rd.tup_inv{w:World}(h:Rd w O (.tup cs) x):∃vs:List Value,x= .tuple vs.toArray/\bj w O cs vs:=by
 generalize a:D.tup cs=q at h
 cases h<;>cases a
 rename_i vs l r;exact⟨vs,rfl,l,r⟩
def Rd.clo_inv{w:World}{f:FuncId}(h:Rd w O (.clo f cs) x):∃vs:List Value,x= .func (.func f) #[] vs.toArray/\bj w O cs vs:=by
 generalize a:D.clo f cs=q at h
 cases h<;>cases a
 rename_i vs l r;exact⟨vs,rfl,l,r⟩
def gX:D->List D
 |.agg c=>c
 |.v (.agg vs)=>vs.toList.map .v
 |d=>[d]
def Rd.cells{w:World}(h:Rd w O d x)(i:d ≠ .any):bj w O (gX d) x.cells.toList:=by
 have one:∀{d:D}{x:Value},Rd w O d x->bj w O [d] [x]:=λh=>.cons h .nil
 cases h with
 |v x=>cases x<;>first|exact one (.v _)|exact My _
 |any x=>exact absurd rfl i
 |sl k s a m vs p u e r=>exact one (.sl k s a m vs p u e r)
 |ro c b o vs y j e r=>exact one (.ro c b o vs y j e r)
 |agg c vs l r=>exact(⟨l,r⟩:bj w O c vs)
 |tup c vs l r=>exact one (.tup c vs l r)
 |clo f c vs l r=>exact one (.clo f c vs l r)
 |gl g q z j e=>exact one (.gl g q z j e)
 |ifc t d x h=>exact one (.ifc t d x h)
 |mth n d x h=>exact one (.mth n d x h)
inductive ax where
 |cells (t:TypeId) (cs:List D)
 |obj (ok:Obj->Prop)
 |mp (P:Program) (k:TypeId) (G:Value->Option D)
abbrev ae:=List (Nat×ax)
def aT(σ:ae):List Nat:=σ.map Prod.fst
def ay(σ:ae)(X:Nat->Prop)(b:Nat):Prop:=X b\/b∈aT σ
def ax.ok(w:World)(O:Nat->Prop):ax->Obj->Prop
 |.cells t c,o=>∃vs:List Value,o= .cells vs.toArray t (0,0)/\bj w O c vs
 |.obj ok,o=>ok o
 |.mp P k G,o=>∃es clock n F,o= .map es clock/\gn P k es clock n F/\∀y,(F y=none/\G y=none)\/∃v d,F y=some v/\G y=some d/\Rd w O d v
structure aW(w:World)(X:Nat->Prop)(σ:ae):Prop where
 nodup:(aT σ).Nodup
 at_:∀b k,(b,k)∈σ->¬X b/\∃o,w.heap[b]?=some o/\k.ok w (ay σ X) o
 xlt:∀b,X b->b<w.heap.size
 gok:sF w (ay σ X)
def xM:=@List.mem_map
variable{X:Nat->Prop}
def aW.lt{w:World}{σ:ae}(h:aW w X σ){b:Nat}(c:b∈aT σ):b<w.heap.size:=by
 obtain⟨⟨d,k⟩,m,rfl⟩:=xM.1 c;obtain⟨_,o,a,_⟩:=h.at_ d k m;exact(zX.1 a).1
def aW.own_lt{w:World}{σ:ae}(h:aW w X σ){b:Nat}(a:ay σ X b):b<w.heap.size:=by
 rcases a with a|a
 .exact h.xlt b a
 .exact h.lt a
def aW.ex{w w':World}{σ:ae}(h:aW w X σ)(e:Ex w w'):aW w' X σ:=
 ⟨h.nodup,λb k m=>by
  obtain⟨hx,o,i,a⟩:=h.at_ b k m;refine⟨hx,o,(e.block b (zX.1 i).1).trans i,?_⟩
  cases k with
  |cells t s=>obtain⟨vs,g,f⟩:=a;exact⟨vs,g,f.ex e⟩
  |obj ok=>exact a
  |mp P k G=>obtain⟨es,c,n,F,g,f,r⟩:=a;exact⟨es,c,n,F,g,f,λy=>(r y).imp id λ⟨v,d,l,j,q⟩=>⟨v,d,l,j,q.ex e⟩⟩,λb p=>yI (h.xlt b p) e.size,h.gok.ex e⟩
structure Mv(w:World)(σ:ae)(w':World)(σ':ae):Prop where
 keep:ba (λb=>b∈aT σ) w w'
 new:∀b,b∈aT σ'->b∈aT σ\/w.heap.size<=b
def Mv.refl(w:World)(σ:ae):Mv w σ w σ:=⟨ba.refl _ _,λ_ h=>Or.inl h⟩
def kE{w w':World}{σ:ae}(h:Ex w w'):Mv w σ w' σ:=⟨h.keep,λ_ h=>Or.inl h⟩
def Mv.trans{a b c:World}{s t u:ae}(h:Mv a s b t)(k:Mv b t c u):Mv a s c u:=by
 refine⟨⟨k.keep.os.trans h.keep.os,k.keep.tape.trans h.keep.tape,k.keep.output.trans h.keep.output,xH h.keep.size k.keep.size,λi e hs=>?_⟩,λi e=>?_⟩
 .refine(k.keep.block i (yI e h.keep.size) (λm=>?_)).trans (h.keep.block i e hs);rcases h.new i m with d|d
  .exact hs d
  .omega
 .rcases k.new i e with d|d
  .exact h.new i d
  .exact Or.inr (xH h.keep.size d)
structure FR(w:World)(O:Nat->Prop)(a:List D)(t:Array Value):Prop where
 size:t.size=a.length
 at_:∀(i:Nat)d,a[i]?=some d->∃u,t[i]?=some u/\Rd w O d u
def FR.keep{w w':World}{c:Nat->Prop}(z:w.heap.size<=w'.heap.size)(f:∀b,b<w.heap.size->¬O b->¬c b)
  (hs:∀b,b<w.heap.size->¬O b->w'.heap[b]?=w.heap[b]?) {a:List D} {t:Array Value} (h:FR w O a t):FR w' c a t:=
 ⟨h.size,λi d e=>let ⟨u,h1,h2⟩:=h.at_ i d e;⟨u,h1,h2.keep z f hs⟩⟩
def FR.ex{w w':World}(e:Ex w w'){a:List D}{t:Array Value}(h:FR w O a t):FR w' O a t:=
 h.keep e.size (λ_ _ h=>h) (λb c _=>e.block b c)
def aK(a:List D)(dst:Option Tmp)(d:D):List D:=match dst with|some i=>a.set i d|none=>a
def xP:=@List.getElem?_set
variable{fr:Act}
def FR.put{w:World}{a:List D}(h:FR w O a fr.tmps)(f:Rd w O d u)(dst:Option Tmp):FR w O (aK a dst d) (fr.put dst u).tmps:=by
 cases dst with
 |none=>exact h
 |some i=>
  refine⟨by simp[aK,Act.put,h.size],λj l c=>?_⟩;simp only[aK,xP]at c;simp only[Act.put,Array.getElem?_setIfInBounds];split at c
  .rename_i b;subst b;split at c
   .rename_i t
    cases c
    have:i<fr.tmps.size:=by rw[h.size];exact t
    exact⟨u,by simp[this],f⟩
   .cases c
  .rename_i b;obtain⟨e,k,g⟩:=h.at_ j l c;exact⟨e,by simp[b,k],g⟩
def iy(a:List D):Operand->D
 |.tmp t=>a.getD t (.v undef)
 |.const v=>.v v
 |.global g=>.v (.pointer (some ⟨g,0,none⟩))
 |.func f=>.v (.func (.func f) #[] #[])
def yY:=@List.getElem?_eq_none_iff
def FR.eval{w:World}{a:List D}(h:FR w O a fr.tmps)(x:Operand):Rd w O (iy a x) (fr.eval x):=by
 cases x with
 |tmp t=>
  simp only[iy,Act.eval]
  cases b:a[t]? with
  |some d=>
   obtain⟨u,e,c⟩:=h.at_ t d b;simp[List.getD_eq_getElem?_getD,b,e];exact c
  |none=>
   have:fr.tmps[t]?=none:=by
    rw[Array.getElem?_eq_none];rw[h.size];exact yY.1 b
   simp[List.getD_eq_getElem?_getD,b,this];exact .v _
 |const v=>exact .v v
 |global g=>exact .v _
 |func f=>exact .v _
def RO(b:Nat):Deferred:={ target:=.collected b,args:=#[] }
def Gg(w:World)(O:Nat->Prop)(B:Nat)(l:List Deferred):Prop:=B<=w.heap.size/\∃s:List Nat,l=s.map RO/\s.Nodup/\∀b∈s,B<=b/\¬O b/\w.heap[b]?=some (.deferred (some []))
variable{B:Nat}
def Gg.nil{w:World}(a:B<=w.heap.size):Gg w O B []:=⟨a,[],rfl,List.nodup_nil,λb h=>by cases h⟩
variable{l:List Deferred}
def Gg.keep{w w':World}{c:Nat->Prop}(h:Gg w O B l)(z:w.heap.size<=w'.heap.size)(f:∀b,b<w.heap.size->¬O b->¬c b)
  (hs:∀b,b<w.heap.size->¬O b->w'.heap[b]?=w.heap[b]?):Gg w' c B l:=by
 obtain⟨m,s,j,i,g⟩:=h;refine⟨xH m z,s,j,i,λb e=>?_⟩;obtain⟨d,a,k⟩:=g b e;have t:=(zX.1 k).1;exact⟨d,f b t a,(hs b t a).trans k⟩
def Gg.ex{w w':World}(h:Gg w O B l)(e:Ex w w'):Gg w' O B l:=h.keep e.size (λ_ _ h=>h) (λb a _=>e.block b a)
structure St(w:World)(X:Nat->Prop)(df:Nat)(a:List D)(σ:ae)(ac:Act):Prop where
 fr:FR w (ay σ X) a ac.tmps
 st:aW w X σ
 df:Gg w (ay σ X) df ac.defers
def St.ex{w w':World}{df:Nat}{a:List D}{σ:ae}(h:St w X df a σ fr)(e:Ex w w'):St w' X df a σ fr:=⟨h.fr.ex e,h.st.ex e,h.df.ex e⟩
def St.put{w:World}{df:Nat}{a:List D}{σ:ae}(h:St w X df a σ fr)(b:Rd w (ay σ X) d u)(dst:Option Tmp):St w X df (aK a dst d) σ (fr.put dst u):=
 ⟨h.fr.put b dst,h.st,by cases dst<;>exact h.df⟩
def FW(r:Option Nat):Fence:={ Fence.wide with round:=r }
abbrev fG:=Exit->List D->ae->Prop
structure ey(P:Program)(r:Option Nat)(n:Nat)(df:Nat)(c:Code)(Q:fG)(a:List D)(σ:ae):Prop where
 run:∀(w:World)(X:Nat->Prop)(fr:Act),St w X df a σ fr ->
  c.wpIn (FW r) n P (λe fr' w'=>∃a' σ',Q e a' σ'/\St w' X df a' σ' fr'/\Mv w σ w' σ') fr w
def A1(n:List D->ae->Prop)(Q:fG):fG
 |.normal,a,σ=>n a σ
 |e,a,σ=>Q e a σ
def rX(id:Nat)(Q:fG):fG
 |.exit i,a,σ=>if i=id then Q .normal a σ else Q (.exit i) a σ
 |e,a,σ=>Q e a σ
section
variable {P:Program} {r:Option Nat} {n:Nat} {df:Nat} {Q:fG} {a:List D} {σ:ae}
variable{c:Code}
def NO{Q':fG}(h:ey P r n df c Q a σ)(q:∀e a σ,Q e a σ->Q' e a σ):ey P r n df c Q' a σ:=
 ⟨λw X g hs=>wpIn_mono (h.run w X g hs) λe f w'⟨i,σ',d,b⟩=>⟨i,σ',q _ _ _ d,b⟩⟩
def Fu(h:Q .normal a σ):ey P r n df .skip Q a σ:=⟨λw X f hs=>wpIn_skip ⟨a,σ,h,hs,Mv.refl _ _⟩⟩
def KG(h:Q .ret a σ):ey P r n df .ret Q a σ:=⟨λw X f hs=>wpIn_ret ⟨a,σ,h,hs,Mv.refl _ _⟩⟩
variable{id:Nat}
def Fv(h:Q (.exit id) a σ):ey P r n df (.exit id) Q a σ:=⟨λw X f hs=>wpIn_exit ⟨a,σ,h,hs,Mv.refl _ _⟩⟩
variable{x y:Code}
def KE(h:ey P r n df x (A1 (ey P r n df y Q) Q) a σ):ey P r n df (.seq x y) Q a σ:=by
 refine⟨λw X q hs=>?_⟩;refine wpIn_seq (wpIn_mono (h.run w X q hs) ?_);rintro e g w' ⟨f,σ',d,c,b⟩
 cases e with
 |normal=>exact wpIn_mono (d.run w' X g c) λe j k⟨i,σ'',p,o,m⟩=>⟨i,σ'',p,o,b.trans m⟩
 |exit id=>exact⟨f,σ',d,c,b⟩
 |goto l=>exact⟨f,σ',d,c,b⟩
 |ret=>exact⟨f,σ',d,c,b⟩
 |panic s=>exact⟨f,σ',d,c,b⟩
 |outgrown=>exact⟨f,σ',d,c,b⟩
def yp(h:ey P r n df c (rX id Q) a σ):ey P r n df (.block id c) Q a σ:=by
 refine⟨λw X m hs=>?_⟩;refine wpIn_block (wpIn_mono (h.run w X m hs) ?_);rintro e k w' ⟨g,σ',b,f,d⟩
 cases e with
 |exit j=>
  simp only[rX]at b;simp only[Exit.inBlock];split at b
  .rename_i i;rw[if_pos i];exact⟨g,σ',b,f,d⟩
  .rename_i i;rw[if_neg i];exact⟨g,σ',b,f,d⟩
 |normal=>exact⟨g,σ',b,f,d⟩
 |goto l=>exact⟨g,σ',b,f,d⟩
 |ret=>exact⟨g,σ',b,f,d⟩
 |panic o=>exact⟨g,σ',b,f,d⟩
 |outgrown=>exact⟨g,σ',b,f,d⟩
def pn{c:Operand}{t:Bool}(b:iy a c= .v (.bool t))(h:ey P r n df (if t then x else y) Q a σ):ey P r n df (.cond c x y) Q a σ:=by
 refine⟨λw X f hs=>?_⟩;refine wpIn_cond (t:=t) ?_ (h.run w X f hs);exact(hs.fr.eval c).val b
def yn{c:Operand}{t:Bool}(h:iy a c= .v (.bool t))(b:t=true->ey P r n df x Q a σ)(f:t=false->ey P r n df y Q a σ):ey P r n df (.cond c x y) Q a σ:=by
 cases t
 .exact pn h (f rfl)
 .exact pn h (b rfl)
def bd8(I:Nat->List D->ae->Prop)(d:Nat)(p:I d a σ)
  (f:∀m a σ,I m a σ->ey P r n df c (A1 (λo σ'=>∃q,q < m/\I q o σ') Q) a σ):ey P r n df (.loop c) Q a σ:=by
 refine⟨λw X z hs=>?_⟩;refine wpIn_loop_ghost (λm g w'=>∃o σ',I m o σ'/\St w' X df o σ' g/\Mv w σ w' σ') d ⟨a,σ,p,hs,Mv.refl _ _⟩ ?_;rintro m g w' ⟨o,σ',y,x,j⟩;refine wpIn_mono ((f m o σ' y).run w' X g x) ?_;rintro e s t ⟨b,σ'',i,h,k⟩
 cases e with
 |normal=>obtain⟨q,u,v⟩:=i;exact⟨q,u,b,σ'',v,h,j.trans k⟩
 |exit id=>exact⟨b,σ'',i,h,j.trans k⟩
 |goto l=>exact⟨b,σ'',i,h,j.trans k⟩
 |ret=>exact⟨b,σ'',i,h,j.trans k⟩
 |panic A=>exact⟨b,σ'',i,h,j.trans k⟩
 |outgrown=>exact⟨b,σ'',i,h,j.trans k⟩
end
end
end Go.Proofs.YtilnpcolgcmofaaGreatDoor
