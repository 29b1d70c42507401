/- A part of the proof: R09g Cg Iq Rg Bo Ns Nt Cs Cd Mp Lo Ro Xa Qa. -/
import Derived.Test.YtlcfiilejnnlnaaGreatDoorK05
import Derived.Laws.Cover3
import Derived.Laws.Small
import Derived.WideKeyEntry
import Derived.DeepKeys5
set_option maxRecDepth 100000
set_option maxHeartbeats 20000000
set_option linter.all false
namespace Go.Proofs.YtlcfiilejnnlnaaGreatDoor
open Tryz
section
open Go
structure Good (x:Sch):Prop where
 ver:-9223372036854775807<=x.vz/\x.vz<=9223372036854775807
 fsane:∀ k∈x.kz,∀ f∈k.fields,aB5 f/\(-9223372036854775807<=f.kind/\f.kind<=9223372036854775807)
 ksane:∀ k∈x.kz,(-9223372036854775807<=k.lo/\k.lo<=9223372036854775807)/\(-9223372036854775807<=k.hi/\k.hi<=9223372036854775807)
 msane:∀ l∈x.lz,∀ m∈l.mz,(-9223372036854775807<=m.1/\m.1<=9223372036854775807)/\(-9223372036854775807<=m.2/\m.2<=9223372036854775807)
 rsane:∀ r∈x.rules,-9223372036854775807<=r.n/\r.n<=9223372036854775807
 sm:ci9 x
 src:ag8 x=true->srcB x<=8192
theorem ar0 {s:ByteArray} (h:isNm s=true):s.size<=12:=by
 simp only [isNm,aa3,zJ,zQ] at h;omega
theorem aw2 {s:ByteArray} (h:isE s=true\/isNm s=true):s.size<=100000:=by
 rcases h with h|h
 ·rw [bP6 h];omega
 ·have:=ar0 h;omega
def vE:=@List.isEmpty_iff
theorem bQ2 {f:Fld} (h:ab2 f=true) (hs:aB5 f):cv2 f:=by
 simp only [ab2,zJ] at h;obtain⟨⟨h1,h2⟩,h3⟩:=h;simp only [ap3,zJ,xO] at h2;obtain⟨⟨⟨⟨o1,o2⟩,_⟩,_⟩,o5⟩:=h2;have hk:0<=f.kind/\f.kind<=8:=by
  unfold am4 at h3;by_cases hh:0<=f.kind/\f.kind<=8
  ·exact hh
  ·repeat rw [if_neg (by omega)] at h3
   cases h3
 have hpick:f.kind=3->ag1 f.words f.wz=true:=fun e=>by
  unfold am4 at h3;rw [if_neg (by omega),if_neg (by omega),if_neg (by omega),if_pos e] at h3;exact h3
 have hof:f.of.size<=100000:=by
  rcases o1 with o1|o1
  ·refine aw2 ?_;unfold am4 at h3;simp only [ae1,xO,beq_iff_eq] at o1;rcases o1 with ((((e|e)|e)|e)|e)|e<;>rw [e] at h3<;>simp at h3<;>first|exact .inr h3.1.1|exact .inr h3.1|exact .inr h3|exact h3.1
  ·exact aw2 (.inl o1)
 have hup:f.up.size<=100000:=by
  rcases o2 with o2|o2
  ·refine aw2 ?_;unfold am4 at h3;simp only [ae0,xO,beq_iff_eq] at o2;rcases o2 with e|e<;>rw [e] at h3<;>simp at h3<;>first|exact .inr h3.1.2|exact .inr h3.2
  ·exact aw2 (.inl o2)
 refine⟨hk,hs,by have:=ar0 h1;omega,hof,hup,?_,?_,?_⟩
 ·intro s hsm;rcases o5 with o5|o5
  ·have:=hpick (by simpa [ac5] using o5);simp only [ag1,zJ,yA] at this;have:=ar0 (this.2 s hsm);omega
  ·simp only [zJ,vE] at o5;rw [o5.1] at hsm;cases hsm
 ·rcases o5 with o5|o5
  ·have:=hpick (by simpa [ac5] using o5);simp only [ag1,aa3,zJ,zQ] at this;omega
  ·simp only [zJ,vE] at o5;rw [o5.1];simp
 ·intro hu;have:=hpick (by simpa [ac5] using hu);simp only [ag1,zJ,zQ] at this;exact this.1.1.2
theorem bL0 {x:Sch} (h:ag8 x=true) (g:Good x):cu8 x:=by
 have hv:=bU3 h;have h0:=h;simp only [ag8,zJ,zQ,yA] at h0;refine⟨g.ver,fun k hk=>?_,fun l hl=>?_,fun r hr=>?_,by have:=hv.nk;omega,by have:=hv.nl;omega,by have:=hv.nr;omega,by have:=g.src h;omega⟩
 ·have hk':=hv.kz k hk;simp only [ag5,zJ,zQ,yA] at hk';exact⟨by have:=ar0 hk'.1.1.1;omega,(g.ksane k hk).1,(g.ksane k hk).2,fun f hf=>bQ2 (hk'.2 f hf) (g.fsane k hk f hf).1,by have:=hv.nf k hk;omega⟩
 ·have hl':=hv.lz l hl;simp only [ag2,aa3,zJ,zQ,yA] at hl';exact⟨by have:=ar0 hl'.1.1.1.1;omega,fun s hs=>by have:=ar0 (hl'.1.1.2 s hs);omega,by omega,g.msane l hl,by omega⟩
 ·have hr':=hv.rules r hr;simp only [an5,zJ,xO] at hr';exact⟨by have:=ar0 hr'.1.1.1.1.1;omega,by have:=ar0 hr'.1.1.1.1.2;omega,aw2 hr'.1.1.1.2,aw2 hr'.1.1.2,g.rsane r hr⟩
end
section
open Go
structure CF (f:Fld):Prop where
 nm:f.name.size<=12
 of:f.of.size<=12
 up:f.up.size<=12
 nw:f.words.length<=3
 wd:∀ s∈f.words,s.size<=12
 ng:f.wz.length<=3
 wt:∀ n∈f.wz,-1000<=n/\n<=1000
 kd:0<=f.kind/\f.kind<=8
 lo:-1000<=f.lo/\f.lo<=1000
 hi:-1000<=f.hi/\f.hi<=1000
structure CK (k:Knd):Prop where
 nm:1<=k.name.size/\k.name.size<=12
 lo:-1000<=k.lo/\k.lo<=1000
 hi:-1000<=k.hi/\k.hi<=1000
 nf:k.fields.length<=10
 fs:∀ f∈k.fields,CF f
structure CL (l:Lif):Prop where
 nm:l.name.size<=12
 ns:l.tz.length<=4
 st:∀ s∈l.tz,s.size<=12
 nv:l.mz.length<=5
 mv:∀ m∈l.mz,(-1000<=m.1/\m.1<=1000)/\(-1000<=m.2/\m.2<=1000)
structure CR (r:Rul):Prop where
 nm:r.name.size<=12
 kd:r.kind.size<=12
 a:r.a.size<=12
 b:r.b.size<=12
 n:-2000<=r.n/\r.n<=2000
structure Cls (x:Sch):Prop where
 ver:-1000<=x.vz/\x.vz<=1000
 nk:x.kz.length<=3
 ks:∀ k∈x.kz,CK k
 nl:x.lz.length<=1
 ls:∀ l∈x.lz,CL l
 nr:x.rules.length<=3
 rs:∀ r∈x.rules,CR r
theorem al5 {α:Type} {f:α->Nat} {c:Nat}:∀ {l:List α},(∀ x∈l,f x<=c)->sumB f l<=l.length*c
 | [],_=>by simp [sumB]
 | x::l,h=>by
  have h1:=h x (by simp);have h2:=al5 (l:=l) fun y hy=>h y (by simp [hy]);simp only [sumB,List.map_cons,List.sum_cons,List.length_cons,Nat.succ_mul] at *;omega
theorem aj1 {n:Int} (h:-9999999<=n/\n<=9999999):intB n=8:=by unfold intB;rw [if_pos h]
theorem CF.bd {f:Fld} (h:CF f):ai6 f<=200:=by
 have e1:=aj1 (n:=f.lo) (by have:=h.lo;omega);have e2:=aj1 (n:=f.hi) (by have:=h.hi;omega);have e3:=aj1 (n:=f.words.length) (by have:=h.nw;omega);have s1:(f.words.map fun s=>1+s.size).sum<=f.words.length*13:=al5 (f:=fun s:ByteArray=>1+s.size) fun s hs=>by have:=h.wd s hs;omega
 have s2:(f.wz.map fun n=>1+intB n).sum<=f.wz.length*9:=al5 (f:=fun n=>1+intB n) fun n hn=>by have:=aj1 (n:=n) (by have:=h.wt n hn;omega);omega
 have h1:=h.nm;have h2:=h.of;have h3:=h.up;have h4:=h.nw;have h5:=h.ng;unfold ai6;omega
theorem CK.bd {k:Knd} (h:CK k):kndB k<=2100:=by
 have e1:=aj1 (n:=k.lo) (by have:=h.lo;omega);have e2:=aj1 (n:=k.hi) (by have:=h.hi;omega);have s1:=al5 (f:=ai6) (c:=200) fun f hf=>(h.fs f hf).bd;have h1:=h.nm;have h2:=h.nf;unfold kndB;omega
theorem CL.bd {l:Lif} (h:CL l):lifB l<=300:=by
 have e1:=aj1 (n:=l.tz.length) (by have:=h.ns;omega);have s1:=al5 (f:=fun s:ByteArray=>1+s.size) (c:=13) fun s hs=>by have:=h.st s hs;show 1+s.size<=13;omega
 have s2:=al5 (f:=movB) (c:=23) fun m hm=>by
  have:=h.mv m hm;unfold movB;rw [aj1 (by omega),aj1 (by omega)];omega
 have h1:=h.nm;have h2:=h.ns;have h3:=h.nv;unfold lifB;omega
theorem CR.bd {r:Rul} (h:CR r):rulB r<=100:=by
 have e1:=aj1 (n:=r.n) (by have:=h.n;omega);have h1:=h.nm;have h2:=h.kd;have h3:=h.a;have h4:=h.b;unfold rulB;omega
theorem Cls.src {x:Sch} (h:Cls x):srcB x<=8192:=by
 have s1:=al5 (f:=kndB) fun k hk=>(h.ks k hk).bd;have s2:=al5 (f:=lifB) fun k hk=>(h.ls k hk).bd;have s3:=al5 (f:=rulB) fun k hk=>(h.rs k hk).bd;have h1:=h.nk;have h2:=h.nl;have h3:=h.nr;unfold srcB;omega
theorem CF.sm {f:Fld} (h:CF f):SmF f:=⟨by have:=h.nm;unfold SmS;omega,by have:=h.of;unfold SmS;omega,by have:=h.up;unfold SmS;omega,fun s hs=>by have:=h.wd s hs;unfold SmS;omega,by have:=h.nw;omega,by have:=h.ng;omega⟩
theorem Cls.good {x:Sch} (h:Cls x):Good x where
 ver:=by have:=h.ver;omega
 fsane:=fun k hk f hf=>by
  have:=(h.ks k hk).fs f hf;exact⟨⟨by have:=this.lo;omega,by have:=this.hi;omega,fun n hn=>by have:=this.wt n hn;omega⟩,by have:=this.kd;omega⟩
 ksane:=fun k hk=>by have:=h.ks k hk;have h1:=this.lo;have h2:=this.hi;omega
 msane:=fun l hl m hm=>by have:=(h.ls l hl).mv m hm;omega
 rsane:=fun r hr=>by have:=(h.rs r hr).n;omega
 sm:={
  kz:=fun k hk=>⟨by have:=(h.ks k hk).nm;unfold SmS;omega,fun f hf=>((h.ks k hk).fs f hf).sm,by have:=(h.ks k hk).nf;omega⟩
  lz:=fun l hl=>⟨by have:=(h.ls l hl).nm;unfold SmS;omega,fun s hs=>by have:=(h.ls l hl).st s hs;unfold SmS;omega,by have:=(h.ls l hl).ns;omega,by have:=(h.ls l hl).nv;omega⟩
  rules:=fun r hr=>by have:=h.rs r hr;exact⟨by have:=this.nm;unfold SmS;omega,by have:=this.kd;unfold SmS;omega,by have:=this.a;unfold SmS;omega,by have:=this.b;unfold SmS;omega⟩
  nkinds:=by have:=h.nk;omega
  nlives:=by have:=h.nl;omega
  nrules:=by have:=h.nr;omega }
 src:=fun _=>h.src
end
section
open Go
structure DF (f:Fld):Prop where
 nm:f.name.size<=13
 of:f.of.size<=12
 up:f.up.size<=12
 nw:f.words.length<=4
 wd:∀ s∈f.words,s.size<=12
 ng:f.wz.length<=4
 wt:∀ n∈f.wz,-2000000<=n/\n<=2000000
 kd:-1<=f.kind/\f.kind<=9
 lo:-2000000<=f.lo/\f.lo<=2000000
 hi:-2000000<=f.hi/\f.hi<=2000000
structure DK (k:Knd):Prop where
 nm:k.name.size<=12
 lo:-2000000<=k.lo/\k.lo<=2000000
 hi:-2000000<=k.hi/\k.hi<=2000000
 nf:k.fields.length<=10
 fs:∀ f∈k.fields,DF f
structure DL (l:Lif):Prop where
 nm:l.name.size<=12
 ns:l.tz.length<=5
 st:∀ s∈l.tz,s.size<=12
 nv:l.mz.length<=6
 mv:∀ m∈l.mz,(-2000000<=m.1/\m.1<=2000000)/\(-2000000<=m.2/\m.2<=2000000)
structure DR (r:Rul):Prop where
 nm:r.name.size<=12
 kd:r.kind.size<=12
 a:r.a.size<=12
 b:r.b.size<=12
 n:-2000<=r.n/\r.n<=2000
structure Dls (x:Sch):Prop where
 ver:-2000000<=x.vz/\x.vz<=2000000
 nk:x.kz.length<=3
 ks:∀ k∈x.kz,DK k
 nl:x.lz.length<=1
 ls:∀ l∈x.lz,DL l
 nr:x.rules.length<=4
 rs:∀ r∈x.rules,DR r
theorem DF.bd {f:Fld} (h:DF f):ai6 f<=200:=by
 have e1:=aj1 (n:=f.lo) (by have:=h.lo;omega);have e2:=aj1 (n:=f.hi) (by have:=h.hi;omega);have e3:=aj1 (n:=f.words.length) (by have:=h.nw;omega);have s1:(f.words.map fun s=>1+s.size).sum<=f.words.length*13:=al5 (f:=fun s:ByteArray=>1+s.size) fun s hs=>by have:=h.wd s hs;omega
 have s2:(f.wz.map fun n=>1+intB n).sum<=f.wz.length*9:=al5 (f:=fun n=>1+intB n) fun n hn=>by have:=aj1 (n:=n) (by have:=h.wt n hn;omega);omega
 have h1:=h.nm;have h2:=h.of;have h3:=h.up;have h4:=h.nw;have h5:=h.ng;unfold ai6;omega
theorem DK.bd {k:Knd} (h:DK k):kndB k<=2100:=by
 have e1:=aj1 (n:=k.lo) (by have:=h.lo;omega);have e2:=aj1 (n:=k.hi) (by have:=h.hi;omega);have s1:=al5 (f:=ai6) (c:=200) fun f hf=>(h.fs f hf).bd;have h1:=h.nm;have h2:=h.nf;unfold kndB;omega
theorem DL.bd {l:Lif} (h:DL l):lifB l<=300:=by
 have e1:=aj1 (n:=l.tz.length) (by have:=h.ns;omega);have s1:=al5 (f:=fun s:ByteArray=>1+s.size) (c:=13) fun s hs=>by have:=h.st s hs;show 1+s.size<=13;omega
 have s2:=al5 (f:=movB) (c:=23) fun m hm=>by
  have:=h.mv m hm;unfold movB;rw [aj1 (by omega),aj1 (by omega)];omega
 have h1:=h.nm;have h2:=h.ns;have h3:=h.nv;unfold lifB;omega
theorem DR.bd {r:Rul} (h:DR r):rulB r<=100:=by
 have e1:=aj1 (n:=r.n) (by have:=h.n;omega);have h1:=h.nm;have h2:=h.kd;have h3:=h.a;have h4:=h.b;unfold rulB;omega
theorem Dls.src {x:Sch} (h:Dls x):srcB x<=8192:=by
 have s1:=al5 (f:=kndB) fun k hk=>(h.ks k hk).bd;have s2:=al5 (f:=lifB) fun k hk=>(h.ls k hk).bd;have s3:=al5 (f:=rulB) fun k hk=>(h.rs k hk).bd;have h1:=h.nk;have h2:=h.nl;have h3:=h.nr;unfold srcB;omega
theorem DF.sm {f:Fld} (h:DF f):SmF f:=⟨by have:=h.nm;unfold SmS;omega,by have:=h.of;unfold SmS;omega,by have:=h.up;unfold SmS;omega,fun s hs=>by have:=h.wd s hs;unfold SmS;omega,by have:=h.nw;omega,by have:=h.ng;omega⟩
theorem Dls.good {x:Sch} (h:Dls x):Good x where
 ver:=by have:=h.ver;omega
 fsane:=fun k hk f hf=>by
  have:=(h.ks k hk).fs f hf;exact⟨⟨by have:=this.lo;omega,by have:=this.hi;omega,fun n hn=>by have:=this.wt n hn;omega⟩,by have:=this.kd;omega⟩
 ksane:=fun k hk=>by have:=h.ks k hk;have h1:=this.lo;have h2:=this.hi;omega
 msane:=fun l hl m hm=>by have:=(h.ls l hl).mv m hm;omega
 rsane:=fun r hr=>by have:=(h.rs r hr).n;omega
 sm:={
  kz:=fun k hk=>⟨by have:=(h.ks k hk).nm;unfold SmS;omega,fun f hf=>((h.ks k hk).fs f hf).sm,by have:=(h.ks k hk).nf;omega⟩
  lz:=fun l hl=>⟨by have:=(h.ls l hl).nm;unfold SmS;omega,fun s hs=>by have:=(h.ls l hl).st s hs;unfold SmS;omega,by have:=(h.ls l hl).ns;omega,by have:=(h.ls l hl).nv;omega⟩
  rules:=fun r hr=>by have:=h.rs r hr;exact⟨by have:=this.nm;unfold SmS;omega,by have:=this.kd;unfold SmS;omega,by have:=this.a;unfold SmS;omega,by have:=this.b;unfold SmS;omega⟩
  nkinds:=by have:=h.nk;omega
  nlives:=by have:=h.nl;omega
  nrules:=by have:=h.nr;omega }
 src:=fun _=>h.src
theorem CF.df {f:Fld} (h:CF f):DF f:=⟨by have:=h.nm;omega,h.of,h.up,by have:=h.nw;omega,h.wd,by have:=h.ng;omega,fun n hn=>by have:=h.wt n hn;omega,by have:=h.kd;omega,by have:=h.lo;omega,by have:=h.hi;omega⟩
theorem CK.dk {k:Knd} (h:CK k):DK k:=⟨h.nm.2,by have:=h.lo;omega,by have:=h.hi;omega,h.nf,fun f hf=>(h.fs f hf).df⟩
theorem CL.dl {l:Lif} (h:CL l):DL l:=⟨h.nm,by have:=h.ns;omega,h.st,by have:=h.nv;omega,fun m hm=>by have:=h.mv m hm;omega⟩
theorem Cls.dls {x:Sch} (h:Cls x):Dls x:=⟨by have:=h.ver;omega,h.nk,fun k hk=>(h.ks k hk).dk,h.nl,fun l hl=>(h.ls l hl).dl,by have:=h.nr;omega,fun r hr=>(by have:=h.rs r hr;exact⟨this.nm,this.kd,this.a,this.b,this.n⟩)⟩
end
section
open Go Go.RowKit Go.Shelf
structure cj2 (P:Program) (gf:FuncId) (caps:List D) (its:List (List D)):Prop where
 ent:Enters P gf
 run:∀ (O:Nat->Prop) (W:World) (lb:List Value),RdL W O caps lb->∃ vsl:List (List Value),vsl.length=its.length/\(∀ (k:Nat) x vs,its[k]?=some x->vsl[k]?=some vs->RdL W O x vs) /\
  ∀ (l:Nat) (J Jx:Nat->World->Prop),(∀ k A B,J k A->Ex A B->J k B)->(∀ k A B,Jx k A->Ex A B->Jx k B) ->
   (∀ (k:Nat) vs W1,vsl[k]?=some vs->J k W1->YieldAt Fence.wide 7 P l vs.toArray W1 fun e W'=>
    (e = .returned (.bool true)/\J (k+1) W'/\W1.heap.size<=W'.heap.size/\∀ b,b<W.heap.size->¬ O b->W'.heap[b]?=W1.heap[b]?)\/(e = .returned (.bool false)/\Jx (k+1) W')) ->
   J 0 W->CallsIn Fence.wide 8 P gf (#[.func (.yield l) #[] #[]]++lb.toArray) W fun e W'=>∃ v,e = .returned v/\(J its.length W'\/∃ k,Jx k W')
section
variable {P:Program} {r:Option Nat} {n:Nat} {df:Nat} {Q:Pst} {a:List D} {σ σ':aa1} {w w':World} {X:Nat->Prop}
theorem St.mv {fr:Act} (h:St w X df a σ fr) (hm:Mv w σ w' σ') (hs:StOK w' X σ'):St w' X df a σ' fr:=by
 have hO:∀ b,b<w.heap.size->¬ Own σ X b->¬ Own σ' X b:=fun b hb hn ho=>by
  rcases ho with ho|ho
  ·exact hn (.inl ho)
  ·rcases hm.new b ho with h1|h1
   ·exact hn (.inr h1)
   ·omega
 have hS:∀ b,b<w.heap.size->¬ Own σ X b->w'.heap[b]?=w.heap[b]?:=fun b hb hn=>hm.keep.block b hb (fun hk=>hn (.inr hk));exact⟨h.fr.keep hm.keep.size hO hS,hs,h.df.keep hm.keep.size hO hS⟩
theorem St.turn {fr:Act} (h:St w X df a σ fr) {D:Nat} {o o':Obj} (h5:8<=D) (hO:¬ Own σ X D) (hD:w.heap[D]?=some o) (ho:o.isCells=false) (hm:∀ es c,o ≠ .map es c) (hd:∀ d,o ≠ .deferred d):St (w.putObj D o') X df a σ fr:=by
 refine⟨h.fr.of_cells (Nat.le_of_eq (an3 _ _).symm) (aH0 hD ho),h.st.turn h5 hO hD ho hm,?_⟩;obtain⟨h0,bs,h1,h2,h3⟩:=h.df;refine⟨by rw [an3];exact h0,bs,h1,h2,fun b hb=>?_⟩;obtain⟨k1,k2,k3⟩:=h3 b hb;exact⟨k1,k2,(World.putObj_heap_other (fun e=>by subst e;rw [hD] at k3;cases k3;exact hd _ rfl)).trans k3⟩
theorem Mv.turn (h:Mv w σ w' σ') {l:Nat} (hl:w.heap.size<=l) (o:Obj):Mv w σ (w'.putObj l o) σ':=
 ⟨⟨h.keep.os,h.keep.tape,h.keep.output,by rw [an3];exact h.keep.size,fun b hb hn=>(World.putObj_heap_other (fun e=>by omega)).trans (h.keep.block b hb hn)⟩,h.new⟩
def aS0 (a:List D) (ps:List Tmp) (x:List D):List D:=(ps.zip x).foldl (fun a p=>a.set p.1 p.2) a
theorem ct4 {O:Nat->Prop} {t:Array Value} (h:FR w O a t) {d:D} {u:Value} (hd:Rd w O d u) (i:Nat):FR w O (a.set i d) (t.setIfInBounds i u):=by
 have:=FR.put (fr:=⟨t,[]⟩) h hd (some i);exact this
theorem br9 {O:Nat->Prop}:∀ (ps:List Tmp) {x:List D} {vs:List Value} {a:List D} {t:Array Value},FR w O a t->RdL w O x vs->FR w O (aS0 a ps x) ((ps.zip vs).foldl (fun t (p,v)=>t.setIfInBounds p v) t)
 | [],x,vs,a,t,h,_=>by simpa [aS0] using h
 | p::ps,[],vs,a,t,h,hr=>by
  have:vs=[]:=by have:=hr.len;simpa using this
  subst this
  simpa [aS0] using h
 | p::ps,d::x,[],a,t,h,hr=>by have:=hr.len;simp at this
 | p::ps,d::x,v::vs,a,t,h,hr=>by
  have htl:RdL w O x vs:=⟨by have:=hr.len;simpa using this,fun j d u h1 h2=>hr.at_ (j+1) d u (by simpa using h1) (by simpa using h2)⟩
  have:=br9 ps (ct4 h (hr.at_ 0 d v rfl rfl) p) htl
  simpa [aS0] using this
def bV2 (Q:Pst) (a:List D) {γ:Type} (S:γ->aa1) (I:γ->Prop):Pst
 | .normal,_,σ'=>∃ g,(S g).Sublist σ'/\I g
 | .ret,_,σ'=>Q .ret a σ'
 | .exit id,_,σ'=>Q (.exit id) a σ'
 | _,_,_=>False
theorem bE0 (hm:Mv w σ w' σ') {b:Nat} (hb:b<w.heap.size) (hn:¬ Own σ X b):¬ Own σ' X b:=fun ho=>by
 rcases ho with ho|ho
 ·exact hn (.inl ho)
 ·rcases hm.new b ho with h1|h1
  ·exact hn (.inr h1)
  ·omega
theorem bI9 {g:Operand} {ps:Array Tmp} {assign body:Code} {gf:FuncId} {caps:List D} {its:List (List D)} (hit:cj2 P gf caps its) (hg:evD a g = .clo gf caps) (hps:∀ x∈its,x.length=ps.size)
  {γ:Type} (S:Nat->γ->aa1) (I:Nat->γ->Prop) (g₀:γ) (hσ:(S 0 g₀).Sublist σ) (h0:I 0 g₀)
  (round:∀ (l:Nat) (k:Nat) gk x,its[k]?=some x->I k gk->AWP P (some l) 7 0 assign (ca6 (AWP P (some l) 7 0 body (bV2 Q a (S (k+1)) (I (k+1)))) (fun _ _ _=>False)) (aS0 a ps.toList x) (S k gk))
  (done:∀ gk,I its.length gk->Q .normal a (S its.length gk)):AWP P none 9 df (.rangeFunc g ps assign body) Q a σ:=by
 refine⟨fun w X fr hs=>?_⟩;have hv:=hs.fr.eval g;rw [hg] at hv;obtain⟨lb,hgv,hlb⟩:=hv.clo_inv;refine wpIn_rangeFunc ?_;intro fn hfn;rw [show (FW none).round=none from rfl];obtain⟨rec,hrec⟩:∃ rec:LoopState->Option Code->Loop,rec=fun st pe=>{ state:=st,pending:=pe,fn,tmps:=fr.tmps,params:=ps,assign,body,defers:=w.heap.size }:=⟨_,rfl⟩
 obtain⟨W1,hW1⟩:∃ W1,(w.alloc (.deferred (some []))).alloc (.loop (rec .ready none))=W1:=⟨_,rfl⟩
 have hL1:W1.heap[w.heap.size+1]?=some (.loop (rec .ready none)):=by
  rw [← hW1];have:=World.alloc_heap_new (w.alloc (.deferred (some []))) (.loop (rec .ready none));rwa [World.size_alloc] at this
 have hx1:Ex w W1:=by rw [← hW1];exact ((Ex.refl w).alloc).alloc
 have hK1:W1.heap[w.heap.size]?=some (.deferred (some [])):=by
  rw [← hW1];exact (Below.heap_alloc _ _ _ (by simp)).trans (World.alloc_heap_new w _)
 have hz1:W1.heap.size=w.heap.size+2:=by rw [← hW1];simp
 have h5:8<=w.heap.size:=hs.st.gok.sz;obtain⟨fr',hfr'⟩:∃ fr':Act,fr'={ fr with defers:=mrk w.heap.size::fr.defers }:=⟨_,rfl⟩
 have hnD:¬ Own σ X w.heap.size:=aP2 hs.st (zT _);have hnl:¬ Own σ X (w.heap.size+1):=aP2 hs.st (Nat.le_succ _);have hs1:St W1 X df a σ fr':=by
  have:=hs.ex hx1;refine⟨by rw [hfr'];exact this.fr,this.st,?_⟩;obtain⟨k0,bs,k1,k2,k3⟩:=this.df;have k0':=hs.df.1;refine⟨k0,w.heap.size::bs,by rw [hfr',k1];rfl,wZ.2 ⟨fun hm=>?_,k2⟩,fun b hb=>?_⟩
  ·obtain⟨_,bs0,q1,_,q3⟩:=hs.df;have e:bs0.map mrk=bs.map mrk:=q1.symm.trans k1;have hinj:bs0=bs:=by
    have:=zM (List.map (fun d:Deferred=>match d.target with | .collected b=>b | _=>0)) e
    simpa [mrk,vA,Function.comp_def] using this
   rw [← hinj] at hm;have:=(zX.1 (q3 _ hm).2.2).1;omega
  ·rcases zU.1 hb with rfl|hb
   ·exact⟨k0',hnD,hK1⟩
   ·exact k3 b hb
 refine⟨w.heap.size+1,[{ target:=.collected w.heap.size,args:=#[] }],W1,{ target:=.fn (.func gf) lb.toArray,args:=#[.func (.yield (w.heap.size+1)) #[] #[]] },W1,gf,
  #[.func (.yield (w.heap.size+1)) #[] #[]]++lb.toArray,W1,?_,?_,?_,?_,(fun hd=>by simp [FW,Fence.wide] at hd),?_⟩
 ·rw [← hW1,hrec];exact run_enterLoop_outer _ _ _ _ _
 ·simp only [resolve,hgv];simp [go_sem]
 ·intro f' hf';simp [Target.leads] at hf';trivial
 ·simp only [invoke];exact hit.ent _ _
 ·obtain⟨O,hO⟩:∃ O:Nat->Prop,O=fun b=>Own σ X b\/b=w.heap.size\/b=w.heap.size+1:=⟨_,rfl⟩
  have hnO:∀ {b:Nat},¬ O b->¬ Own σ X b/\b≠w.heap.size/\b≠w.heap.size+1:=fun {b} h=>by
   rw [hO] at h;exact⟨fun h1=>h (.inl h1),fun h1=>h (.inr (.inl h1)),fun h1=>h (.inr (.inr h1))⟩
  obtain⟨vsl,hvl,hvr,hrun⟩:=hit.run O W1 lb (hlb.keep hx1.size (fun b hb hn=>by
   rw [hO];rintro (h|h|h)
   ·exact hn h
   ·omega
   ·omega) (fun b hb _=>hx1.block b hb))
  have hcall:=hrun (w.heap.size+1)
   (fun k W=>∃ gk,I k gk/\St W X df a (S k gk) fr'/\Mv w σ W (S k gk)/\W1.heap.size<=W.heap.size/\W.heap[w.heap.size+1]?=some (.loop (rec .ready none))/\¬ Own (S k gk) X (w.heap.size+1))
   (fun _ W=>∃ τ e c,(e = .ret/\c = .ret\/∃ id,e = .exit id/\c = .exit id)/\Q e a τ/\St W X df a τ fr'/\Mv w σ W τ/\W.heap[w.heap.size+1]?=some (.loop (rec .done (some c)))/\¬ Own τ X (w.heap.size+1))
   (fun k A B ⟨gk,q1,q2,q3,q4,q5,q6⟩ hx=>⟨gk,q1,q2.ex hx,q3.trans (pA2 hx),xH q4 hx.size,(hx.block _ (zX.1 q5).1).trans q5,q6⟩)
   (fun k A B ⟨τ,e,c,q1,q2,q3,q4,q5,q6⟩ hx=>⟨τ,e,c,q1,q2,q3.ex hx,q4.trans (pA2 hx),(hx.block _ (zX.1 q5).1).trans q5,q6⟩)
   ?_ ⟨g₀,h0,⟨hs1.fr.keep (zT _) (fun x _ hn=>an4 hσ x hn) (fun _ _ _=>rfl),hs1.st.sub hσ,hs1.df.keep (zT _) (fun x _ hn=>an4 hσ x hn) (fun _ _ _=>rfl)⟩,
    (pA2 hx1).fewer (fun b hb=>(hσ.map Prod.fst).subset hb),zT _,hL1,an4 hσ _ hnl⟩
  ·refine hcall.mono ?_;rintro e W2 ⟨v,rfl,(⟨gk,q1,q2,q3,q4,q5,q6⟩|⟨_,τ,e,c,q1,q2,q3,q4,q5,q6⟩)⟩
   ·refine⟨none,_,by have:=run_endLoop (P:=P) q5 (by rw [hrec];simp);rw [hrec] at this;exact this,?_⟩;refine⟨a,S its.length gk,done gk q1,?_,q3.turn (Nat.le_succ _) _⟩;have:=q2.turn (o':=.loop { rec .ready none with state:=.exhausted }) (by omega) q6 q5 rfl (fun _ _ h=>by cases h) (fun _ h=>by cases h);rw [hfr',hrec] at this;exact this
   ·refine⟨some c,_,by have:=run_endLoop (P:=P) q5 (by rw [hrec];simp);rw [hrec] at this;exact this,?_⟩;have hst:=q3.turn (o':=.loop { rec .done (some c) with state:=.exhausted }) (by omega) q6 q5 rfl (fun _ _ h=>by cases h) (fun _ h=>by cases h);rw [hfr',hrec] at hst;have hmv:=q4.turn (Nat.le_succ _) (.loop { rec .done (some c) with state:=.exhausted });rw [hrec] at hmv;rcases q1 with ⟨rfl,rfl⟩|⟨id,rfl,rfl⟩
    ·exact wpIn_ret ⟨a,τ,q2,hst,hmv⟩
    ·exact wpIn_exit ⟨a,τ,q2,hst,hmv⟩
  ·-- one round
   rintro k vs Wc hvk ⟨gk,q1,q2,q3,q4,q5,q6⟩;have hkl:k<its.length:=by rw [← hvl];exact (zE.1 hvk).1
   obtain⟨x,hx⟩:∃ x,its[k]?=some x:=⟨_,zD hkl⟩
   have hlc:w.heap.size+1<Wc.heap.size:=(zX.1 q5).1;have hkeep1:∀ b,b<W1.heap.size->¬ O b->¬ Own (S k gk) X b/\Wc.heap[b]?=W1.heap[b]?:=fun b hb hn=>by
    obtain⟨n1,n2,n3⟩:=hnO hn;have hbw:b<w.heap.size:=by omega
    exact⟨bE0 q3 hbw n1,(q3.keep.block b hbw (fun h=>n1 (.inr h))).trans (hx1.block b hbw).symm⟩
   have hxv:RdL Wc (Own (S k gk) X) x vs:=(hvr k x vs hx hvk).keep q4 (fun b hb hn=>(hkeep1 b hb hn).1) (fun b hb hn=>(hkeep1 b hb hn).2);have hsz:vs.toArray.size=ps.size:=by simp [hxv.len,hps x (zG hx)]
   have hy:=run_yield (P:=P) (args:=vs.toArray) q5 (by rw [hrec];exact hsz);rw [hrec] at hy;refine⟨fn,_,assign,body,hy,?_⟩;have hzip:((ps.zip vs.toArray).foldl (fun t (p:Tmp × Value)=>t.setIfInBounds p.1 p.2) fr.tmps)=((ps.toList.zip vs).foldl (fun t (p:Tmp × Value)=>t.setIfInBounds p.1 p.2) fr.tmps):=by
    rw [← Array.foldl_toList];simp
   have hfr0:FR Wc (Own (S k gk) X) a fr.tmps:=by have:=q2.fr;rw [hfr'] at this;exact this
   have hst0:St Wc X 0 (aS0 a ps.toList x) (S k gk) { tmps:=(ps.zip vs.toArray).foldl (fun t (p:Tmp × Value)=>t.setIfInBounds p.1 p.2) fr.tmps,defers:=[] }:=
    ⟨by rw [hzip];exact br9 ps.toList hfr0 hxv,q2.st,Mks.nil (zW _)⟩
   refine roundIn_of_wpIn hfn (wpIn_mono ((round (w.heap.size+1) k gk x hx q1).run Wc X _ hst0) ?_);rintro e a1 w1 ⟨a1',σ1,hA,hst1,hmv1⟩
   cases e with
   | normal=>
    have hl1:w1.heap[w.heap.size+1]?=some (.loop (rec .ready none)):=(hmv1.keep.block _ hlc (fun h=>q6 (.inr h))).trans q5;have hn1:¬ Own σ1 X (w.heap.size+1):=bE0 hmv1 hlc q6;refine⟨_,run_beginRound hl1 (by rw [hrec]),?_⟩;have hl1s:=(zX.1 hl1).1;have hl2:(w1.putObj (w.heap.size+1) (.loop { rec .ready none with state:=.busy })).heap[w.heap.size+1]?=some (.loop { rec .ready none with state:=.busy }):=World.putObj_heap_same hl1s;have hst2:=hst1.turn (o':=.loop { rec .ready none with state:=.busy }) (by omega) hn1 hl1 rfl (fun _ _ h=>by cases h) (fun _ h=>by cases h);have hout1:St w1 X df a σ1 fr':=q2.mv hmv1 hst1.st;have hout2:=hout1.turn (o':=.loop { rec .ready none with state:=.busy }) (by omega) hn1 hl1 rfl (fun _ _ h=>by cases h) (fun _ h=>by cases h);have hmv2:Mv w σ (w1.putObj (w.heap.size+1) (.loop { rec .ready none with state:=.busy })) σ1:=(q3.trans hmv1).turn (Nat.le_succ _) _;have hA:AWP P (some (w.heap.size+1)) 7 0 body (bV2 Q a (S (k+1)) (I (k+1))) a1' σ1:=hA;refine wpIn_mono (hA.run _ X a1 hst2) ?_;rintro e3 a3 W3 ⟨a3',σ3,hQ3,hst3,hmv3⟩;have hl2s:w.heap.size+1<(w1.putObj (w.heap.size+1) (.loop { rec .ready none with state:=.busy })).heap.size:=by rw [an3];exact hl1s
    have hl3:W3.heap[w.heap.size+1]?=some (.loop { rec .ready none with state:=.busy }):=(hmv3.keep.block _ hl2s (fun h=>hn1 (.inr h))).trans hl2;have hn3:¬ Own σ3 X (w.heap.size+1):=bE0 hmv3 hl2s hn1;have hl3s:=(zX.1 hl3).1;have hout3:St W3 X df a σ3 fr':=hout2.mv hmv3 hst3.st;have hmv3':Mv w σ W3 σ3:=hmv2.trans hmv3;have fin:∀ (jump:Option Code),(Instr.endRound (w.heap.size+1) jump).run P W3 = .ok (.bool jump.isNone) (W3.putObj (w.heap.size+1) (.loop (rec (if jump.isNone then .ready else .done) jump))) /\
      (W3.putObj (w.heap.size+1) (.loop (rec (if jump.isNone then .ready else .done) jump))).heap[w.heap.size+1]?=some (.loop (rec (if jump.isNone then .ready else .done) jump)) /\
      St (W3.putObj (w.heap.size+1) (.loop (rec (if jump.isNone then .ready else .done) jump))) X df a σ3 fr':=fun jump=>by
     have:=run_endRound (P:=P) jump hl3;refine⟨by rw [hrec] at this ⊢;exact this,World.putObj_heap_same hl3s,hout3.turn (by omega) hn3 hl3 rfl (fun _ _ h=>by cases h) (fun _ h=>by cases h)⟩
    have hkp:∀ (o:Obj) (b:Nat),b<W1.heap.size->¬ O b->(W3.putObj (w.heap.size+1) o).heap[b]?=Wc.heap[b]?:=fun o b hb hn=>by
     obtain⟨n1,n2,n3⟩:=hnO hn;have hbw:b<w.heap.size:=by omega
     have h1:=hmv3'.keep.block b hbw (fun h=>n1 (.inr h));have h2:=q3.keep.block b hbw (fun h=>n1 (.inr h));exact (World.putObj_heap_other n3).trans (h1.trans h2.symm)
    have hzz:∀ o:Obj,Wc.heap.size<=(W3.putObj (w.heap.size+1) o).heap.size:=fun o=>by
     have h1:=hmv1.keep.size;have h2:=hmv3.keep.size;rw [an3] at h2 ⊢;omega
    have pend:∀ (e0:Exit) (c:Code),(e0 = .ret/\c = .ret\/∃ id,e0 = .exit id/\c = .exit id)->Q e0 a σ3->∃ v w',(Instr.endRound (w.heap.size+1) (some c)).run P W3 = .ok v w' /\
      ((Ending.returned v = .returned (.bool true)/\(∃ gk,I (k+1) gk/\St w' X df a (S (k+1) gk) fr'/\Mv w σ w' (S (k+1) gk)/\W1.heap.size<=w'.heap.size/\w'.heap[w.heap.size+1]?=some (.loop (rec .ready none))/\¬ Own (S (k+1) gk) X (w.heap.size+1))/\Wc.heap.size<=w'.heap.size/\∀ b,b<W1.heap.size->¬ O b->w'.heap[b]?=Wc.heap[b]?) \/
       (Ending.returned v = .returned (.bool false)/\∃ τ e c,(e = .ret/\c = .ret\/∃ id,e = .exit id/\c = .exit id)/\Q e a τ/\St w' X df a τ fr'/\Mv w σ w' τ/\w'.heap[w.heap.size+1]?=some (.loop (rec .done (some c)))/\¬ Own τ X (w.heap.size+1))):=fun e0 c hec hq=>by
     obtain⟨f1,f2,f3⟩:=fin (some c);exact⟨_,_,f1,.inr ⟨rfl,σ3,e0,c,hec,hq,f3,hmv3'.turn (Nat.le_succ _) _,f2,hn3⟩⟩
    cases e3 with
    | normal=>
     obtain⟨g',hsub,hI'⟩:=hQ3;obtain⟨f1,f2,f3⟩:=fin none;refine⟨_,_,f1,.inl ⟨rfl,⟨g',hI',?_,?_,xH q4 (hzz _),f2,an4 hsub _ hn3⟩,hzz _,hkp _⟩⟩
     ·exact⟨f3.fr.keep (zT _) (fun x _ hn=>an4 hsub x hn) (fun _ _ _=>rfl),f3.st.sub hsub,f3.df.keep (zT _) (fun x _ hn=>an4 hsub x hn) (fun _ _ _=>rfl)⟩
     ·exact (hmv3'.turn (Nat.le_succ _) _).fewer (fun b hb=>(hsub.map Prod.fst).subset hb)
    | ret=>exact pend .ret .ret (.inl ⟨rfl,rfl⟩) hQ3
    | exit id=>exact pend (.exit id) (.exit id) (.inr ⟨id,rfl,rfl⟩) hQ3
    | goto t=>exact hQ3.elim
    | panic c=>exact hQ3.elim
    | outgrown=>exact hQ3.elim
   | exit id=>exact hA.elim
   | goto t=>exact hA.elim
   | ret=>exact hA.elim
   | panic c=>exact hA.elim
   | outgrown=>exact hA.elim
end
section
variable {P:Program} {df:Nat} {N:Nat} {σ:aa1} {a:List D} {f:Frm} {T:TypeId->Option TI} {Q:Fst}
def cm8 (Q:Fst) (f:Frm) {γ:Type} (S:γ->aa1) (I:γ->Prop):Fst
 | .normal,_,σ'=>∃ g,(S g).Sublist σ'/\I g
 | .ret,_,σ'=>Q .ret f σ'
 | .exit id,_,σ'=>Q (.exit id) f σ'
 | _,_,_=>False
def zipF:List Tmp->List D->Frm->Frm
 | p::ps,d::x,f=>zipF ps x ((p,d)::f)
 | _,_,f=>f
theorem by5:∀ {ps:List Tmp} {x:List D} {a:List D} {f:Frm},(ps.all fun p=>Nat.blt p N)=true->Sp N a f->Sp N (aS0 a ps x) (zipF ps x f)
 | [],x,a,f,_,h=>by simpa [aS0,zipF] using h
 | p::ps,[],a,f,_,h=>by simpa [aS0,zipF] using h
 | p::ps,d::x,a,f,hp,h=>by
  simp only [List.all_cons,zJ,wT] at hp;have:=by5 (x:=x) hp.2 (h.set (d:=d) hp.1)
  simpa [aS0,zipF] using this
theorem bO3 (hm:P.follows .mixedOrders=true) (hT:∀ t i,T t=some i->tiOf P t=some i) {g:Operand} {ps:Array Tmp} {assign body:Code} {gf:FuncId} {caps:List D} {its:List (List D)} (hg:evF f g = .clo gf caps) (hit:cj2 P gf caps its) (hps:∀ x∈its,x.length=ps.size) (hpN:(ps.toList.all fun p=>Nat.blt p N)=true)
  {γ:Type} (S:Nat->γ->aa1) (I:Nat->γ->Prop) (g₀:γ) (hσ:(S 0 g₀).Sublist σ) (h0:I 0 g₀)
  (round:∀ (l k:Nat) gk x,its[k]?=some x->I k gk->W (ao9 P T (some l) 7 0 N assign (bB0 (ao9 P T (some l) 7 0 N body (cm8 Q f (S (k+1)) (I (k+1)))) (fun _ _ _=>False)) (zipF ps.toList x f) (S k gk)))
  (done:∀ gk,I its.length gk->W (Q .normal f (S its.length gk))):Lp P none 9 df N (.rangeFunc g ps assign body) Q f σ:=by
 refine⟨fun a hs=>?_⟩;refine bI9 hit (hs.eq hg (fun h=>by cases h)) hps S I g₀ hσ h0 (fun l k gk x hx hI=>?_) (fun gk hI=>⟨f,hs,(done gk hI).h⟩);refine as4 (ao8 hm hT (round l k gk x hx hI).h (by5 hpN hs)) ?_;rintro e a1 σ1 ⟨f1,hs1,h1⟩
 cases e with
 | normal=>
  refine as4 (ao8 hm hT h1 hs1) ?_;rintro e a2 σ2 ⟨f2,hs2,h2⟩
  cases e with
  | normal=>exact h2
  | ret=>exact⟨f,hs,h2⟩
  | exit id=>exact⟨f,hs,h2⟩
  | goto t=>exact h2.elim
  | panic c=>exact h2.elim
  | outgrown=>exact h2.elim
 | exit id=>exact h1.elim
 | goto t=>exact h1.elim
 | ret=>exact h1.elim
 | panic c=>exact h1.elim
 | outgrown=>exact h1.elim
end
end
section
open Go Go.RowKit Go.Shelf
section
variable {P:Program} {r:Option Nat} {n:Nat} {df:Nat} {N:Nat} {Q:Pst} {a:List D} {σ:aa1} {w:World} {X:Nat->Prop} {ρ:Operand->D} {f:Frm} {L:List Oper} {T:TypeId->Option TI}
theorem yd_bne {o:Oper} {t t':TypeId} {x y:Operand} {p q:Bool} (ho:o.op = .binOp .neq t x y t') (hx:ρ x = .v (.bool p)) (hy:ρ y = .v (.bool q)) (ht:P.underlying t=some .bool):Yd P o ρ σ (.v (.bool (!(p==q)))):=by
 intro w X η hη hst;obtain⟨dst,op,ty,pos,aft,g⟩:=o;simp only at ho;subst ho;have h1:=(hη x (by simp [Op.operands])).val hx;have h2:=(hη y (by simp [Op.operands])).val hy;refine ag4 (s:=do eqGuard .neq t x y (η x) (η y);binOp .neq t (η x) (η y)) (u:=.bool (!(p==q))) ?_ (Ex.refl w) (.v _);rw [h1,h2]
 show (do eqGuard .neq t x y (.bool p) (.bool q);(do pure (Value.bool (!(← Op.equal t (.bool p) (.bool q)))))).run P w=_;have hg0:(eqGuard .neq t x y (.bool p) (.bool q)).run P w = .ok () w:=rfl;simp only [Sem.run_bind,hg0,Result.andThen,run_equal_bool w t p q ht,Sem.run_pure]
theorem cj9 {o:Oper} {t t':TypeId} {x y:Operand} {p q:Bool} (ho:o.op = .binOp .eql t x y t') (hx:ρ x = .v (.bool p)) (hy:ρ y = .v (.bool q)) (ht:P.underlying t=some .bool):Yd P o ρ σ (.v (.bool (p==q))):=by
 intro w X η hη hst;obtain⟨dst,op,ty,pos,aft,g⟩:=o;simp only at ho;subst ho;have h1:=(hη x (by simp [Op.operands])).val hx;have h2:=(hη y (by simp [Op.operands])).val hy;refine ag4 (s:=do eqGuard .eql t x y (η x) (η y);binOp .eql t (η x) (η y)) (u:=.bool (p==q)) ?_ (Ex.refl w) (.v _);rw [h1,h2]
 show (do eqGuard .eql t x y (.bool p) (.bool q);(do pure (Value.bool (← Op.equal t (.bool p) (.bool q))))).run P w=_;have hg0:(eqGuard .eql t x y (.bool p) (.bool q)).run P w = .ok () w:=rfl;simp only [Sem.run_bind,hg0,Result.andThen,run_equal_bool w t p q ht,Sem.run_pure]
theorem bm6 (hT:∀ t i,T t=some i->tiOf P t=some i) {o:Oper} {t:TypeId} {x:Operand} {lo hi:Option Operand} {b off m c:Nat} {l h:Nat} {i:TI} {p:Nat × Bool × Nat × Nat} (ho:o.op = .slice t x lo hi none) (hx:ρ x = .v (.slice (some ⟨b,off,none⟩) m c)) (ht:T t=some i) (hs:i.sl=some p)
  (hlo:(lo=none/\l=0)\/∃ y kk,lo=some y/\ρ y = .v (.int kk (l:Int))) (hhi:(hi=none/\h=m)\/∃ y kk,hi=some y/\ρ y = .v (.int kk (h:Int))) (h1:l<=h) (h2:h<=c) (h3:l<c):Yd P o ρ σ (.v (.slice (some ⟨b,off+l*p.2.2.1,none⟩) (h-l) (c-l))):=by
 intro w X η hη hst;obtain⟨dst,op,ty,pos,aft,g⟩:=o;simp only at ho;subst ho;obtain⟨e,ag,k',by_⟩:=p;obtain⟨hu,hsz,_⟩:=al0 (hT t i ht) hs;have hz:=(aq0 hsz w).2;have hxv:=(hη x (by simp [Op.operands])).val hx;refine ag4 (s:=Instr.sliceAt t (η x) (lo.map η) (hi.map η) ((none:Option Operand).map η)) (u:=.slice (some ⟨b,off+l*k',none⟩) (h-l) (c-l)) ?_ (Ex.refl w) (.v _);rw [hxv];have hne:c≠l:=by omega
 have hb:(Instr.sliceBounds true m c (lo.map η) (hi.map η) none).run P w = .ok (l,h,c) w:=by
  have hh:((h:Int)).toNat=h:=rfl;have hl:((l:Int)).toNat=l:=rfl;rcases hlo with ⟨rfl,rfl⟩|⟨yl,kl,rfl,hyl⟩<;>rcases hhi with ⟨rfl,rfl⟩|⟨yh,kh,rfl,hyh⟩
  ·simp [Instr.sliceBounds,Result.andThen]
  ·have:=(hη yh (by simp [Op.operands])).val hyh;simp [Instr.sliceBounds,Instr.sliceBound,Result.andThen,this,asIntOf,h2]
  ·have:=(hη yl (by simp [Op.operands])).val hyl;simp [Instr.sliceBounds,Instr.sliceBound,Result.andThen,this,asIntOf,h1]
  ·have q1:=(hη yl (by simp [Op.operands])).val hyl;have q2:=(hη yh (by simp [Op.operands])).val hyh;simp [Instr.sliceBounds,Instr.sliceBound,Result.andThen,q1,q2,asIntOf,h1,h2]
 simp only [Instr.sliceAt,Sem.run_bind,run_underlying hu,Result.andThen,Instr.slice,Option.map_none,hb,hz,Sem.run_pure,if_neg hne,Option.map_some,as5]
theorem bz1 {o:Oper} {s d:TypeId} {x:Operand} {k k':IntKind} {n:Int} (ho:o.op = .convert s d x) (hx:ρ x = .v (.int k n)) {ds:TypeDesc} (h1:P.underlying s=some ds) (h2:P.underlying d=some (.int k')) (hn:k'.wrap n=n):Yd P o ρ σ (.v (.int k' n)):=by
 intro w X η hη hst;obtain⟨dst,op,ty,pos,aft,g⟩:=o;simp only at ho;subst ho;have h:=(hη x (by simp [Op.operands])).val hx;refine ag4 (s:=convert s d (η x)) (u:=.int k' n) ?_ (Ex.refl w) (.v _);rw [h]
 cases ds<;>simp [convert,run_underlying h1,run_underlying h2,Conv.intToInt,hn]
theorem OtE.copy (hT:∀ t i,T t=some i->tiOf P t=some i) {o:Oper} {p x:Operand} {t t2 e:TypeId} {i j:TI} {ag:Bool} {by_ b off dl dc jj:Nat} {tb:TypeId} {cs new:List D} {K:Frm->aa1->Prop}
  (ho:o.op = .call { callee:=.builtin .copy,args:=#[p,x],argTypes:=#[t,t2] }) (hp:evF f p = .v (.slice (some ⟨b,off,none⟩) dl dc)) (ht:T t=some i) (hs:i.sl=some (e,ag,1,by_)) (hj:T e=some j) (hjs:j.size=1)
  (hb:σ[jj]?=some (b,.cells tb cs)) (hfit:off+new.length<=cs.length) (hone:new.all oneD=true) (hne:new≠[])
  (hsrc:(∃ ys:List (List D),evF f x = .sl 1 ys/\new=(ys.take (Nat.min ys.length dl)).flatten/\new.length=Nat.min ys.length dl)\/(∃ (o2 sl sc:Nat),evF f x = .v (.slice (some ⟨b,o2,none⟩) sl sc)/\new=(cs.drop o2).take (Nat.min sl dl)/\new.length=Nat.min sl dl))
  (kk:W (putK N o.dst (.v (.int .i64 new.length)) f (fun f'=>K f' (σ.set jj (b,.cells tb (spl cs off new)))))):OtE P r n df L N o f σ K:=by
 refine⟨fun rest Q a hsp hw hk=>?_⟩;refine ah3 hw (by rw [ho];rfl) fun w X fr hst=>?_;have hpv:=hsp.le p _ _ _ (hst.fr.eval p);rw [hp] at hpv;have hpv:=hpv.val rfl;have hxv:=hsp.le x _ _ _ (hst.fr.eval x);obtain⟨hu,hsz,_⟩:=al0 (hT t i ht) hs;have hsz1:(P.info? e).map (·.size)=some 1:=by
  obtain⟨inf,u,q1,_,_,q4,_⟩:=as9 (hT e j hj);rw [q1];simp [← q4,hjs]
 obtain⟨_,ob,hob,vs,rfl,hvs⟩:=hst.st.at_ b _ (zG hb);obtain⟨nv,ad,sl,sc,hxe,hnr,hnl,hcell⟩:∃ (nv:List Value) (ad:Addr) (sl sc:Nat),fr.eval x = .slice (some ad) sl sc/\RdL w (Own σ X) new nv/\nv.length=Nat.min sl dl/\∀ (j:Nat) v,nv[j]?=some v->w.cell? (ad.add j)=some v:=by
  rcases hsrc with ⟨ys,h1,h2,h3⟩|⟨o2,sl,sc,h1,h2,h3⟩
  ·rw [h1] at hxv;obtain⟨a0,c,news,hxe,hrd,hnl,hcl⟩:=aX2 hxv (by omega);have hys:ys≠[]:=fun h=>by subst h;simp at h2;exact hne h2
   obtain⟨ad,rfl,hcell⟩:=hcl hys;have hysk:∀ y∈ys,y.length=1:=(hxv.sl_inv.choose_spec.choose_spec.choose_spec).2.2.1;have hfl:(ys.take (Nat.min ys.length dl)).flatten=ys.flatten.take (Nat.min ys.length dl):=by
    have h4:(ys.take (Nat.min ys.length dl)).flatten.length=Nat.min ys.length dl:=by rw [← h2];exact h3
    have h5:ys.flatten=(ys.take (Nat.min ys.length dl)).flatten++(ys.drop (Nat.min ys.length dl)).flatten:=by rw [← vW,vF]
    rw [h5,List.take_left' h4]
   refine⟨news.take (Nat.min ys.length dl),ad,ys.length,c,hxe,by rw [h2,hfl];exact hrd.take _,?_,fun j v hv=>?_⟩
   ·rw [zR,hnl];have:=Nat.min_le_left ys.length dl;simp only [Nat.mul_one];exact vH this
   ·rw [yX] at hv;split at hv
    ·exact hcell j v hv
    ·cases hv
  ·rw [h1] at hxv;have hxe:=hxv.val rfl;have hr2:=(hvs.drop o2).take (Nat.min sl dl);refine⟨(vs.drop o2).take (Nat.min sl dl),⟨b,o2,none⟩,sl,sc,hxe,by rw [h2];exact hr2,by rw [hr2.len,← h2,h3],fun j v hv=>?_⟩;rw [yX] at hv;split at hv
   ·rw [xR] at hv;have hlt:=(zE.1 hv).1;rw [as5];simp [World.cell?,hob,hv]
   ·cases hv
 have hnn:nv.length=new.length:=hnr.len;have hrun:=run_copy_row (P:=P) w t t2 o.type e b off dl dc ad sl sc vs.toArray tb nv hu hsz1 hob hnl hcell (by simp [hvs.len];omega) (bj4 hnr hone);have ee:(execOp fr.eval o).run P w = .ok (.value (goInt nv.length)) (w.setRow b (vs.take off++nv++vs.drop (off+nv.length)).toArray):=by
  simp only [execOp,ho,resolve,invoke,builtin,Sem.run_bind,Sem.run_pure,Result.andThen,vD,List.map_cons,List.map_nil,hpv,hxe,hrun]
 rw [ee];obtain⟨q1,q2⟩:=aQ2 (cur':=(vs.take off++nv++vs.drop (off+nv.length)).toArray) hob;have hnew:RdL w (Own σ X) (spl cs off new) (vs.take off++nv++vs.drop (off+nv.length)):=by
  unfold spl;rw [hnn];exact ((hvs.take off).append hnr).append (hvs.drop _)
 obtain⟨g1,g2,g3,g4⟩:=hst.st.upd hb (k':=.cells tb (spl cs off new)) q2 q1 ⟨_,rfl,hnew⟩;obtain⟨f',hs',h4⟩:=ae5 kk.h hsp;refine⟨.v (.int .i64 new.length),_,g2,?_,hk _ _ _ h4 hs'⟩;rw [← hnn];exact (⟨hst.fr.keep q2.size g3 g4,g1,hst.df.keep q2.size g3 g4⟩:St _ X df a _ fr).put (.v _) o.dst
theorem Rs.c1 (hT:∀ t i,T t=some i->tiOf P t=some i) {fn:Func} {j b:Nat} {t tb:TypeId} {d:D} {ti:TI} {K:D->Prop} (h:fn.results = #[.cell j t]) (hj:evF f (.tmp j) = .v (.pointer (some ⟨b,0,none⟩))) (hb:(b,Blk.cells tb [d])∈σ) (ht:T t=some ti) (hag:ti.agg=false)
  (k:W (K d)):Rs P N fn f σ K:=by
 refine⟨_,fun a ha=>?_,k.h⟩;intro w X tm hf hst;obtain⟨_,ob,hob,vs,rfl,hvs⟩:=hst.at_ b _ hb;obtain⟨g1,g2⟩:=aT1 (hT t ti ht) w;rw [hag] at g1;have hp:=(al7 hf j).val (ha.eq hj (fun h=>by cases h));obtain⟨u,k1,k2⟩:=hvs.get (j:=0) rfl;have hcell:w.cell? ⟨b,0,none⟩=some u:=by simp [World.cell?,hob,k1]
 have hl:(loadVar t ⟨b,0,none⟩).run P w = .ok u w:=by
  have:=au1 (P:=P) (t:=t) g1 hcell;simp only [Instr.loadAt,Instr.sureAddr,Sem.run_bind,Sem.run_pure,Result.andThen] at this;exact this
 exact⟨u,by simp [results,h,hp,asAddr,hl,Result.andThen,-Array.getD_eq_getD_getElem?],k2⟩
theorem Ld.cellm {o:Oper} {b off:Nat} {K:D->Prop} {tb:TypeId} {cs:List D} {d:D} (h1:(b,Blk.cells tb cs)∈σ) (h2:cs[off]?=some d) (h:W (K d)):Ld P o ρ σ b off false 1 K:=by
 obtain⟨j,hj⟩:=yO h1;exact Ld.cell j hj h2 h
theorem Sv.cellm {b off:Nat} {d:D} {K:aa1->Prop} {tb:TypeId} {cs cs':List D} {τ:aa1} (h1:σ.Perm ((b,.cells tb cs)::τ)) (h2:off<cs.length) (h3:oneD d=true) (h4:cs.set off d=cs') (h:W (K ((b,.cells tb cs')::τ))):Sv σ b off [d] 1 K:=by
 refine Sv.perm h1 rfl h2 (by simp [h3]) ?_ h;subst h4;unfold spl;rw [xW,if_pos h2];simp
end
end
section
open Go Go.RowKit Go.Shelf
abbrev ORep (α:Type):=α->Value->aa1->Prop
inductive All3 {α:Type} (R:ORep α):List α->List Value->List aa1->Prop
 | nil:All3 R [] [] []
 | cons {x:α} {u:Value} {t:aa1} {xs:List α} {vs:List Value} {ts:List aa1} (h:R x u t) (k:All3 R xs vs ts):All3 R (x::xs) (u::vs) (t::ts)
section
variable {α:Type} {R:ORep α}
theorem All3.len {xs:List α} {vs:List Value} {ts:List aa1} (h:All3 R xs vs ts):vs.length=xs.length/\ts.length=xs.length:=by
 induction h with
 | nil=>exact⟨rfl,rfl⟩
 | cons h k ih=>simp [ih.1,ih.2]
theorem All3.at {xs:List α} {vs:List Value} {ts:List aa1} (h:All3 R xs vs ts):∀ {i:Nat} {x:α},xs[i]?=some x->∃ u t τ,vs[i]?=some u/\R x u t/\ts.flatten.Perm (t++τ) /\
  ∀ x' u' t',R x' u' t'->∃ ts',All3 R (xs.set i x') (vs.set i u') ts'/\ts'.flatten.Perm (t'++τ):=by
 induction h with
 | nil=>intro i x hx;simp at hx
 | @cons y u t xs vs ts h k ih=>
  intro i x hx
  cases i with
  | zero=>
   simp at hx;subst hx;exact⟨u,t,ts.flatten,rfl,h,by simp,fun x' u' t' h'=>⟨t'::ts,.cons h' k,by simp⟩⟩
  | succ i=>
   simp at hx;obtain⟨u2,t2,τ,h1,h2,h3,h4⟩:=ih hx;refine⟨u2,t2,t++τ,by simpa using h1,h2,?_,fun x' u' t' h'=>?_⟩
   ·rw [List.flatten_cons];refine (List.Perm.append_left t h3).trans ?_;rw [← zV,← zV];exact yT.append_right _
   ·obtain⟨ts',k1,k2⟩:=h4 x' u' t' h';refine⟨t::ts',by simpa using All3.cons h k1,?_⟩;rw [List.flatten_cons];refine (List.Perm.append_left t k2).trans ?_;rw [← zV,← zV];exact yT.append_right _
theorem All3.append {xs ys:List α} {vs us:List Value} {ts ss:List aa1} (h:All3 R xs vs ts) (k:All3 R ys us ss):All3 R (xs++ys) (vs++us) (ts++ss):=by
 induction h with
 | nil=>exact k
 | cons h _ ih=>exact .cons h ih
theorem All3.rep {x:α} {u:Value} {t:aa1} (h:R x u t):∀ n,All3 R (List.replicate n x) (List.replicate n u) (List.replicate n t)
 | 0=>.nil
 | n+1=>by rw [List.replicate_succ,List.replicate_succ,List.replicate_succ];exact .cons h (All3.rep h n)
structure RowsOf (e:TypeId) (R:ORep α) (xs:List α) (v:Value) (s:aa1):Prop where
 ex:∃ (vs:List Value) (s0:aa1) (ts:List aa1),RowIs e 1 (vs.map fun u=>[D.v u]) v s0/\All3 R xs vs ts/\s.Perm (s0++ts.flatten)
theorem RowsOf.perm {e:TypeId} {xs:List α} {v:Value} {s s':aa1} (h:RowsOf e R xs v s) (hp:s'.Perm s):RowsOf e R xs v s':=by
 obtain⟨vs,s0,ts,h1,h2,h3⟩:=h.ex;exact⟨vs,s0,ts,h1,h2,hp.trans h3⟩
theorem RowsOf.slice {e:TypeId} {xs:List α} {v:Value} {s:aa1} (h:RowsOf e R xs v s):∃ a c,v = .slice a xs.length c:=by
 obtain⟨vs,s0,ts,h1,h2,h3⟩:=h.ex;obtain⟨a,c,e⟩:=h1.slice;rw [zL,h2.len.1] at e;exact⟨a,c,e⟩
theorem cf4 (vs:List Value):(vs.map fun u=>[D.v u]).flatten=vs.map D.v:=by
 induction vs with
 | nil=>rfl
 | cons v vs ih=>simp [ih]
theorem RowIs.block {e:TypeId} {k:Nat} {xs:List (List D)} {v:Value} {s:aa1} (h:RowIs e k xs v s) (hne:xs≠[]):∃ b cap junk,v = .slice (some ⟨b,0,none⟩) xs.length cap/\s=[(b,.cells e (xs.flatten++junk))]/\xs.length<=cap/\cap<=maxLen/\xs.length*k+junk.length=cap*k/\∀ d∈junk,d=D.any:=by
 rcases h.is with ⟨_,h,_⟩|h
 ·exact absurd h hne
 ·exact h
def wL:=@List.map_set
theorem RowsOf.at {e:TypeId} {xs:List α} {v:Value} {s:aa1} (h:RowsOf e R xs v s) {i:Nat} {x:α} (hx:xs[i]?=some x) :
  ∃ b cap cs u t τ,v = .slice (some ⟨b,0,none⟩) xs.length cap/\s.Perm ((b,.cells e cs)::(t++τ))/\cs[i]?=some (.v u)/\R x u t /\
   ∀ x' u' t' s',R x' u' t'->s'.Perm ((b,.cells e (cs.set i (.v u')))::(t'++τ))->RowsOf e R (xs.set i x') v s':=by
 obtain⟨vs,s0,ts,h1,h2,h3⟩:=h.ex;obtain⟨u,t,τ,g1,g2,g3,g4⟩:=h2.at hx;have hil:=(zE.1 g1).1;obtain⟨b,cap,junk,rfl,rfl,q3,q4,q5,q6⟩:=h1.block (fun h=>by
  have:=zM List.length h;simp at this;subst this;simp at hil)
 rw [cf4] at h3;refine⟨b,cap,vs.map D.v++junk,u,t,τ,by rw [zL,h2.len.1],?_,?_,g2,fun x' u' t' s' h' hp=>?_⟩
 ·exact h3.trans (List.Perm.cons _ g3)
 ·rw [yP (by simpa using hil),zP,g1];rfl
 ·obtain⟨ts',k1,k2⟩:=g4 x' u' t' h';refine⟨vs.set i u',[(b,.cells e ((vs.set i u').map D.v++junk))],ts',⟨fun y hy=>by obtain⟨z,_,rfl⟩:=xM.1 hy;rfl,.inr ⟨b,cap,junk,by simp [h2.len.1],by rw [cf4],by simpa using q3,q4,by simpa using q5,q6⟩⟩,k1,?_⟩;refine hp.trans ?_;rw [List.set_append_left _ _ (by simpa using hil),wL];exact List.Perm.cons _ k2.symm
def Frz (R:ORep α) (den:α->D):Prop:=∀ x u t τ w X,R x u t->StOK w X (t++τ)->Rd w (Own τ X) (den x) u
theorem cf3 {β:Type} (e:TypeId) (k:Nat) (g:β->List D):Frz (fun (l:List β) v s=>RowIs e k (l.map g) v s) (fun l=>.sl k (l.map g)):=fun _ _ _ _ _ _ h hs=>aJ1 h hs
theorem am0 {w:World} {X:Nat->Prop} {s t:aa1} {d:D} {u:Value} (h:Rd w (Own s X) d u) (hs:∀ b,b∈aa6 t->b∈aa6 s):Rd w (Own t X) d u:=
 h.keep (zT _) (fun b _ hn ho=>hn (ho.imp id (hs b))) (fun _ _ _=>rfl)
theorem br8 {e:TypeId} {den:α->D} (hf:Frz R den):Frz (RowsOf e R) (fun xs=>.sl 1 (xs.map fun x=>[den x])):=by
 intro xs v s τ w X h hs;obtain⟨vs,s0,ts,h1,h2,h3⟩:=h.ex;have hp:(s++τ).Perm (s0++(ts.flatten++τ)):=by rw [← zV];exact h3.append_right _
 have hs':=hs.perm hp;have hrow:=aJ1 h1 hs';obtain⟨a,cap,f,e1,hcap,hk,hc,hr⟩:=hrow.sl_inv;have hsub:∀ b,b∈aa6 τ->b∈aa6 (ts.flatten++τ):=fun b hb=>by rw [ab1];exact yW _ hb
 have hlen:vs.length=xs.length:=h2.len.1;rw [e1,zL,hlen,show xs.length=(xs.map fun x=>[den x]).length by simp];refine .sl 1 _ a cap f (by simpa [hlen] using hcap) (fun y hy=>by obtain⟨z,_,rfl⟩:=xM.1 hy;rfl) (fun i y hy=>?_) (fun i y hy j d hd=>?_)
 ·have hi:i<vs.length:=by have:=(zE.1 hy).1;simpa [hlen] using this
  obtain⟨b,off,q1,q2,q3,q4⟩:=hc i [.v vs[i]] (by rw [zP,zD hi];rfl);exact⟨b,off,q1,fun ho=>q2 (ho.imp id (hsub b)),q3,q4⟩
 ·rw [zP,xN] at hy;obtain⟨x,hx,rfl⟩:=hy
  cases j with
  | succ j=>simp at hd
  | zero=>
   simp at hd;subst hd;obtain⟨u,t,τ',g1,g2,g3,g4⟩:=h2.at hx;have hv:=(hr i [.v u] (by rw [zP,g1];rfl) 0 _ rfl).val rfl;rw [hv];have hp2:(s++τ).Perm (t++(s0++τ'++τ)):=by
    refine hp.trans ?_;refine (List.Perm.append_left s0 (g3.append_right τ)).trans ?_;simp only [zV];rw [← zV s0 t,← zV t s0];exact yT.append_right _
   have:=hf x u t (s0++τ'++τ) w X g2 (hs.perm hp2);exact am0 this (fun b hb=>by rw [ab1];exact yW _ hb)
theorem Vs.frz {den:α->D} (hf:Frz R den) {x:α} {v:Value} {s σ τ:aa1} (h:R x v s) (hp:σ.Perm (s++τ)):Vs σ (.v v) τ (den x):=
 ⟨fun w X u hs hr=>by
  have:=hr.val rfl;subst this;exact⟨(hs.perm hp).sub (wI _ _),hf x _ s τ w X h (hs.perm hp)⟩,fun b hb=>ai9 hp b (by rw [ab1];exact yW _ hb)⟩
theorem RowsOf.made {e:TypeId} {x0:α} (h0:R x0 (.slice none 0 0) []) (m b:Nat) (hm:m<=maxLen):RowsOf e R (List.replicate m x0) (.slice (some ⟨b,0,none⟩) m m) [(b,.cells e (List.replicate m (.v (.slice none 0 0))))]:=by
 refine⟨List.replicate m (.slice none 0 0),[(b,.cells e (List.replicate m (.v (.slice none 0 0))))],List.replicate m [],⟨fun y hy=>by obtain⟨z,_,rfl⟩:=xM.1 hy;rfl,.inr ⟨b,m,[],by simp,by rw [cf4];simp,by simp,hm,by simp,fun d hd=>by cases hd⟩⟩,All3.rep h0 m,by simp⟩
theorem RowsOf.nil (e:TypeId) (R:ORep α):RowsOf e R [] (.slice none 0 0) []:=⟨[],[],[],RowIs.nil _ _,.nil,by simp⟩
def yZ:=@List.mem_or_eq_of_mem_set
theorem RowIs.put {e:TypeId} {k:Nat} {xs:List (List D)} {b n cap:Nat} {cs:List D} (h:RowIs e k xs (.slice (some ⟨b,0,none⟩) n cap) [(b,.cells e cs)]) {i:Nat} {x':List D} (hi:i<xs.length) (hx:x'.length=k):RowIs e k (xs.set i x') (.slice (some ⟨b,0,none⟩) n cap) [(b,.cells e (spl cs (i*k) x'))]:=by
 have hne:xs≠[]:=fun e=>by subst e;simp at hi
 obtain⟨b',cap',junk,e1,e2,q3,q4,q5,q6⟩:=h.block hne
 cases e1
 have e3:cs=xs.flatten++junk:=by simpa using e2
 refine⟨fun y hy=>?_,.inr ⟨b,cap,junk,by simp,?_,by simpa using q3,q4,by simpa using q5,q6⟩⟩
 ·rcases yZ hy with h1|rfl
  ·exact h.len y h1
  ·exact hx
 ·have hfl:=ax8 h.len;have key:spl cs (i*k) x'=(xs.set i x').flatten++junk:=by
   rw [e3];have e4:xs=xs.take i++xs[i]::xs.drop (i+1):=by rw [List.getElem_cons_drop,vF]
   have e5:xs.set i x'=xs.take i++x'::xs.drop (i+1):=by rw [xW,if_pos hi]
   have ht:(xs.take i).flatten.length=i*k:=by
    rw [ax8 (k:=k) (fun y hy=>h.len y (xG hy)),zR,vH (by omega)]
   have hxi:xs[i].length=k:=h.len _ (wE hi);rw [e5]
   conv=>lhs;rw [e4]
   unfold spl;simp only [vW,List.flatten_cons,zV];rw [← ht,List.take_left',List.drop_append,List.drop_of_length_le (by omega)]
   ·simp only [List.nil_append,zV]
    congr 2
    rw [show (xs.take i).flatten.length+x'.length-(xs.take i).flatten.length=x'.length by omega,hx,← hxi,List.drop_left']
    rfl
   ·rfl
  rw [key]
theorem RowIs.get {e:TypeId} {k:Nat} {xs:List (List D)} {v:Value} {s:aa1} (h:RowIs e k xs v s) {i:Nat} {x:List D} (hx:xs[i]?=some x):∃ b cap cs,v = .slice (some ⟨b,0,none⟩) xs.length cap/\s=[(b,.cells e cs)]/\∀ j,j<k->cs[i*k+j]?=x[j]?:=by
 have hne:xs≠[]:=fun e=>by subst e;simp at hx
 obtain⟨b,cap,junk,e1,e2,q3,q4,q5,q6⟩:=h.block hne;refine⟨b,cap,_,e1,e2,fun j hj=>?_⟩;have:=aL9 h.len hx hj;have hjx:j<x.length:=by rw [h.len x (zG hx)];exact hj
 rw [yP,this];exact (zE.1 (this.trans (zD hjx))).1
end
def flA:D->Bool
 | .v _=>true
 | .any=>true
 | _=>false
def Blk.flat:Blk->Prop
 | .cells _ cs=>∀ d∈cs,flA d=true
 | .obj _=>True
 | .mp _ _ _=>False
def FlS (s:aa1):Prop:=∀ p∈s,Blk.flat p.2
theorem bX9 {w w':World} {O O':Nat->Prop} {d:D} {u:Value} (h:Rd w O d u) (hd:flA d=true):Rd w' O' d u:=by
 cases d<;>first|(have:=h.val rfl;subst this;exact .v _)|exact .any u|cases hd
theorem FlS.append {s t:aa1} (h:FlS s) (k:FlS t):FlS (s++t):=fun p hp=>(zO.1 hp).elim (h p) (k p)
theorem FlS.perm {s t:aa1} (h:FlS s) (hp:t.Perm s):FlS t:=fun p hq=>h p (hp.mem_iff.1 hq)
theorem FlS.row {e:TypeId} {k:Nat} {xs:List (List D)} {v:Value} {s:aa1} (h:RowIs e k xs v s) (hf:∀ x∈xs,∀ d∈x,flA d=true):FlS s:=by
 rcases h.is with ⟨_,_,rfl⟩|⟨b,cap,junk,_,rfl,_,_,_,hj⟩
 ·exact fun p hp=>by cases hp
 ·intro p hp;rw [zN] at hp;subst hp;intro d hd;rcases zO.1 hd with h1|h1
  ·obtain⟨x,hx,hdx⟩:=List.mem_flatten.1 h1;exact hf x hx d hdx
  ·rw [hj d h1];rfl
theorem FlS.rows {α:Type} {R:ORep α} (hR:∀ x u t,R x u t->FlS t) {e:TypeId} {xs:List α} {v:Value} {s:aa1} (h:RowsOf e R xs v s):FlS s:=by
 obtain⟨vs,s0,ts,h1,h2,h3⟩:=h.ex;refine FlS.perm (FlS.append (FlS.row h1 fun x hx d hd=>?_) ?_) h3
 ·obtain⟨u,_,rfl⟩:=xM.1 hx;rw [zN] at hd;subst hd;rfl
 ·clear h3 h1 h
  induction h2 with
  | nil=>exact fun p hp=>by cases hp
  | cons h k ih=>rw [List.flatten_cons];exact (hR _ _ _ h).append ih
theorem ACall.peek {P:Program} {f:FuncId} {ds ds':List D} {σ:aa1} {R:D->aa1->Prop} (hp:PkL σ ds ds') (hc:ACall P f ds' [] R) (hfl:∀ d s,R d s->bQ3 d=true/\FlS s) :
  ACall P f ds σ (fun d σ'=>∃ s,σ'=s++σ/\R d s):=by
 refine⟨hc.ent,fun w X vs hv hs=>?_⟩;have hv':=hp.rd hs hv;have hst0:StOK w (fun _=>False) []:=⟨List.nodup_nil,fun b k hm=>(by cases hm),fun b hb=>hb.elim,hs.gok.mono (fun b hb=>by rcases hb with hb|hb;exact hb.elim;cases hb)⟩
 refine (hc.run w (fun _=>False) vs ⟨hv'.len,fun j d u g1 g2=>(hv'.at_ j d u g1 g2).keep (zT _) (fun b _ _ ho=>by rcases ho with ho|ho;exact ho.elim;cases ho) (fun _ _ _=>rfl)⟩ hst0).mono ?_;rintro e w' ⟨u,d,s,g1,g2,g3,g4,g5⟩;obtain⟨f1,f2⟩:=hfl d s g2;have hx:Ex w w':=⟨g5.keep.os,g5.keep.tape,g5.keep.output,g5.keep.size,fun b hb _=>g5.keep.block b hb (fun hk=>by cases hk)⟩
 have hnew:∀ b,b∈aa6 s->w.heap.size<=b:=fun b hb=>by
  rcases g5.new b hb with h|h
  ·cases h
  ·exact h
 have hO:∀ b,b<w.heap.size->¬ Own σ X b->¬ Own (s++σ) X b:=fun b hb hn ho=>by
  rcases ho with ho|ho
  ·exact hn (.inl ho)
  ·rw [ab1,zO] at ho;rcases ho with ho|ho
   ·have:=hnew b ho;omega
   ·exact hn (.inr ho)
 refine⟨u,d,s++σ,g1,⟨s,rfl,g2⟩,bl3 g3 f1,⟨?_,fun b k hbk=>?_,fun b hb=>yI (hs.xlt b hb) hx.size,?_⟩,⟨⟨hx.os,hx.tape,hx.output,hx.size,fun b hb _=>hx.block b hb⟩,fun b hb=>?_⟩⟩
 ·rw [ab1,wR];exact⟨g4.nodup,hs.nodup,fun b h1 c h2 e=>by subst e;have:=hnew b h1;have:=hs.lt h2;omega⟩
 ·rcases zO.1 hbk with h|h
  ·obtain⟨_,o,h2,h3⟩:=g4.at_ b k h;refine⟨fun hX=>by have:=hnew b (aA9 h);have:=hs.xlt b hX;omega,o,h2,?_⟩;have hfk:=f2 _ h
   cases k with
   | cells t cs=>
    obtain⟨vs,q1,q2⟩:=h3;exact⟨vs,q1,q2.len,fun j d u r1 r2=>bX9 (q2.at_ j d u r1 r2) (hfk d (zG r1))⟩
   | obj ok=>exact h3
   | mp P k G=>exact hfk.elim
  ·obtain⟨h1,o,h2,h3⟩:=hs.at_ b k h;have hlt:=(zX.1 h2).1;exact⟨h1,o,(hx.block b hlt).trans h2,pA4 hx.size hO (fun b hb _=>hx.block b hb) h3⟩
 ·refine hs.gok.keep hx.size hO (fun b hb _=>hx.block b hb) (fun b hb=>?_);rcases hb with hb|hb
  ·exact yI (hs.xlt b hb) hx.size
  ·rw [ab1,zO] at hb;rcases hb with hb|hb
   ·exact g4.lt hb
   ·exact yI (hs.lt hb) hx.size
 ·rw [ab1,zO] at hb;rcases hb with hb|hb
  ·exact .inr (hnew b hb)
  ·exact .inl hb
theorem Pk.frz {α:Type} {R:ORep α} {den:α->D} (hf:Frz R den) {x:α} {v:Value} {s σ τ:aa1} (h:R x v s) (hp:σ.Perm (s++τ)):Pk σ (.v v) (den x):=
 ⟨fun w X u hs hr=>by have:=hr.val rfl;subst this;exact (hf x _ s τ w X h (hs.perm hp)).stable⟩
end
section
open Go Go.RowKit Go.Shelf
section
variable {β:Type} {g:β->D}
abbrev RowR (e1:TypeId) (g:β->D):ORep (List β):=fun l v s=>RowIs e1 1 (l.map fun b=>[g b]) v s
theorem cb0 {cs:List D} {off:Nat} (h:off<cs.length) (d:D):spl cs off [d]=cs.set off d:=by
 unfold spl;rw [xW,if_pos h];simp
theorem al9 {e1:TypeId} {l:List β} {u:Value} {s:aa1} (h:RowR e1 g l u s) {i:Nat} {b:β} (hb:l[i]?=some b) :
  ∃ b1 cap1 cs1,u = .slice (some ⟨b1,0,none⟩) l.length cap1/\s=[(b1,.cells e1 cs1)]/\cs1[i]?=some (g b)/\∀ b',RowR e1 g (l.set i b') u [(b1,.cells e1 (cs1.set i (g b')))]:=by
 have hi:=(zE.1 hb).1;obtain⟨b1,cap1,cs1,e2,e3,e4⟩:=RowIs.get h (show (l.map fun b=>[g b])[i]?=some [g b] by rw [zP,hb];rfl);have h4:=e4 0 (by omega);simp only [Nat.mul_one,Nat.add_zero] at h4;have h5:cs1[i]?=some (g b):=by rw [h4];rfl
 rw [zL] at e2;subst e2 e3;refine⟨b1,cap1,cs1,rfl,rfl,h5,fun b'=>?_⟩;have:=RowIs.put h (i:=i) (x':=[g b']) (by simpa using hi) rfl;rw [Nat.mul_one,cb0 (zE.1 h5).1] at this
 show RowIs e1 1 ((l.set i b').map fun b=>[g b]) _ _;rw [wL];exact this
theorem bC2 {e1:TypeId} {l:List β} {u:Value} {s:aa1} (h:RowR e1 g l u s):∃ a c,u = .slice a l.length c:=by
 obtain⟨a,c,e⟩:=RowIs.slice h;rw [zL] at e;exact⟨a,c,e⟩
end
theorem ix1 (j:Nat):0+((j:Nat):Int).toNat*1=j:=by simp
end
section
open Go
abbrev Wd:=List (List (List Int))
abbrev Sb:=List (List Bool)
structure Rf where
 kind:Nat
 field:Nat
 up:Int
 least:Int
def refF (x:Sch) (k:Nat) (kd:Knd) (i:Nat):List Rf:=match kd.fields[i]? with
 | some f=>if f.kind=1 then [⟨k,i,upIx x k i,f.lo⟩] else []
 | none=>[]
def refK (x:Sch) (k:Nat):List Rf:=match x.kz[k]? with
 | some kd=>upTo kd.fields.length (refF x k kd)
 | none=>[]
def ab8 (x:Sch):List Rf:=upTo x.kz.length (refK x)
theorem bo6 (x:Sch) (k:Nat) (kd:Knd) (i:Nat):(refF x k kd i).length<=1:=by unfold refF;split<;>(try split)<;>simp
theorem bo5 (x:Sch) (k:Nat) (h:∀ k∈x.kz,k.fields.length<=1000):(refK x k).length<=1000:=by
 unfold refK;split
 ·rename_i kd hk;have h1:=ad2 (bo6 x k kd) kd.fields.length;have h2:=h kd (zG hk);omega
 ·simp
theorem aE6 {α:Type} {q:Nat} {g:Nat->List α} {a:α}:a∈upTo q g↔∃ i,i<q/\a∈g i:=by
 unfold upTo;rw [List.mem_flatMap];constructor
 ·rintro⟨i,hi,ha⟩;exact⟨i,xT.1 hi,ha⟩
 ·rintro⟨i,hi,ha⟩;exact⟨i,xT.2 hi,ha⟩
theorem aL4 {x:Sch} {r:Rf} (h:r∈ab8 x):∃ kd f,x.kz[r.kind]?=some kd/\kd.fields[r.field]?=some f/\f.kind=1/\r.up=upIx x r.kind r.field/\r.least=f.lo:=by
 obtain⟨k,hk,h⟩:=aE6.1 h;unfold refK at h;split at h
 ·rename_i kd hkd;obtain⟨i,hi,h⟩:=aE6.1 h;unfold refF at h;split at h
  ·rename_i f hf;split at h
   ·rename_i h1;rw [zN] at h;subst h;exact⟨kd,f,hkd,hf,h1,rfl,rfl⟩
   ·cases h
  ·cases h
 ·cases h
def aC8 (w:Wd) (k i:Nat):List Int:=(w.getD k []).getD i []
def refOk (w:Wd) (r:Rf) (l:List Int):Bool:=!(decide (l.getD r.field 0<0)||decide ((w.getD r.up.toNat []).length<=l.getD r.field 0))
def bO6 (x:Sch) (k:Nat) (l:List Int):Bool:=decide (l.length=(match x.kz[k]? with|some kd=>kd.fields.length|none=>0))
theorem aa8 {α:Type} {l:List α} {i:Nat} {a:α} (h:l[i]?=some a) (d:α):l.getD i d=a:=by simp [List.getD_eq_getElem?_getD,h]
end
section
open Go
def rfC (r:Rf):List D:=[iD r.kind,iD r.field,iD r.up,iD r.least]
def slW1 (l:List (List Int)):D:=.sl 1 (l.map fun r=>[slI r])
def slW (w:Wd):D:=.sl 1 (w.map fun l=>[slW1 l])
def slB (l:List Bool):D:=.sl 1 (l.map fun b=>[bD b])
def slS2 (s:Sb):D:=.sl 1 (s.map fun l=>[slB l])
def atC (k i:Int):List D:=[iD k,iD i]
end
section
open Go Go.RowKit Go.Shelf Go.Maps Go.MapKept
open Go.ChangeMaps (setBlock modify_eq_set heap_setBlock_same heap_setBlock_other)
section
open Classical in
noncomputable local instance:DecidableEq (Nat × Blk):=fun _ _=>propDecidable _
noncomputable def ct (a:Nat × Blk) (l:aa1):Nat:=l.count a
noncomputable def ct1 (a x:Nat × Blk):Nat:=[x].count a
theorem ae9 (a:Nat × Blk):ct a []=0:=by simp [ct]
theorem ac4 (a x:Nat × Blk) (l:aa1):ct a (x::l)=ct1 a x+ct a l:=by
 unfold ct ct1;rw [show x::l=[x]++l from rfl,List.count_append]
theorem af0 (a:Nat × Blk) (l m:aa1):ct a (l++m)=ct a l+ct a m:=by simp [ct]
theorem aQ6 {l m:aa1} (h:l.Perm m) (a:Nat × Blk):ct a l=ct a m:=by unfold ct;exact h.count_eq a
theorem ac3 {l m:aa1} (h:∀ a,ct a l=ct a m):l.Perm m:=List.perm_iff_count.2 h
end
def MapO (P:Program) (k:TypeId) (f:Value->Option Value) (o:Obj):Prop:=∃ es clock n,o = .map es clock/\Ents P k es clock n f
def MapS (P:Program) (k:TypeId) (f:Value->Option Value) (key stamp:Value) (o:Obj):Prop:=∃ es clock n,o = .map es clock/\Ents P k es clock n f/\∃ e∈es.toList,e.key=key/\stamp=goInt e.born
theorem MapS.is {P:Program} {k:TypeId} {f:Value->Option Value} {key stamp:Value} {o:Obj} (h:MapS P k f key stamp o):MapO P k f o:=by
 obtain⟨es,c,n,h1,h2,_⟩:=h;exact⟨es,c,n,h1,h2⟩
def KeyD (d:D) (kv:Value):Prop:=∀ (w:World) (O:Nat->Prop) (u:Value),Rd w O d u->u=kv
theorem KeyD.v (x:Value):KeyD (.v x) x:=fun _ _ _ h=>h.val rfl
section
variable {P:Program} {r:Option Nat} {n:Nat} {df:Nat} {N:Nat} {σ τ:aa1} {ρ:Operand->D} {f:Frm} {L:List Oper} {k t e:TypeId} {F:Value->Option Value} {b:Nat} {kv z:Value} {kl:Lit}
theorem bD9 {w:World} {X:Nat->Prop} {ok:Obj->Prop} (hs:StOK w X σ) (hb:(b,Blk.obj ok)∈σ):∃ o,w.heap[b]?=some o/\ok o:=by
 obtain⟨_,o,h1,h2⟩:=hs.at_ b _ hb;exact⟨o,h1,h2⟩
theorem by9 {o:Oper} {m key:Operand} {ok:Obj->Prop} (ho:o.op = .lookup t m key false) (hm:ρ m = .v (.map (some b))) (hd:KeyD (ρ key) kv) (hb:(b,Blk.obj ok)∈σ) (hok:∀ o,ok o->MapO P k F o)
  (K:Keyed P k) (ht:P.underlying t=some (.map k e)) (hz:∀ w,(zeroValue e).run P w = .ok z w) (hkey:keyOf P k kv=some kl):Yd P o ρ σ (.v ((F kv).getD z)):=by
 intro w X η hη hst;obtain⟨dst,op,ty,pos,aft,g⟩:=o;simp only at ho;subst ho;have h1:=(hη m (by simp [Op.operands])).val hm;have h2:=hd _ _ _ (hη key (by simp [Op.operands]));obtain⟨ob,q1,q2⟩:=bD9 hst hb;obtain⟨es,c,nn,rfl,q3⟩:=hok _ q2;exact ag4 (s:=Instr.lookup t (η m) (η key) false) (by rw [h1,h2];exact MapIs.look (n:=nn) ⟨es,c,q1,q3⟩ K ht (hz w) hkey) (Ex.refl w) (.v _)
theorem OtE.makeMap {o:Oper} {K:Frm->aa1->Prop} (ho:o.op = .makeMap t none) (kk:∀ b,W (putK N o.dst (.v (.map (some b))) f (fun f'=>K f' ((b,.obj (MapO P k fun _=>none))::σ)))):OtE P r n df L N o f σ K:=by
 refine⟨fun rest Q a hsp hw hk=>?_⟩;refine ah3 hw (by rw [ho];rfl) fun w X fr hst=>?_;have e0:(execOp fr.eval o).run P w = .ok (.value (.map (some w.heap.size))) (w.alloc (.map #[] 0)):=by
  simp only [execOp,ho]
  rfl
 rw [e0];have hz:MapO P k (fun _=>none) (.map #[] 0):=⟨#[],0,0,rfl,⟨by simp,stamped_empty 0,by simp,by simp,by simp⟩⟩
 obtain⟨g1,g2,g3⟩:=hst.st.new (.map #[] 0) (.obj (MapO P k fun _=>none)) hz;obtain⟨f',hs',h4⟩:=ae5 (kk w.heap.size).h hsp;exact⟨_,_,g2,(hst.mv g2 g1).put (.v _) o.dst,hk _ _ _ h4 hs'⟩
theorem bk1 {w w':World} {s:aa1} (hp:σ.Perm τ) (h:Mv w τ w' s):Mv w σ w' s:=h.wider (fun b hb=>(ai9 hp b hb))
theorem OtE.obj {o:Oper} {K:Frm->aa1->Prop} {ok:Obj->Prop} (hn:aj0 o.op=true) (hb:σ.Perm ((b,Blk.obj ok)::τ))
  (h:∀ (w:World) (fr:Act) (X:Nat->Prop) (ob:Obj),(∀ x,Rd w (Own σ X) (evF f x) (fr.eval x))->w.heap[b]?=some ob->ok ob ->
   ∃ (d:D) (u:Value) (ok':Obj->Prop) (w':World) (ob':Obj),((execOp fr.eval o).run P w = .ok (.value u) w'\/((execOp fr.eval o).run P w = .ok .skip w'/\u=undef/\d = .v undef))/\(∀ w O,Rd w O d u)/\Keep (fun x=>x=b) w w'/\w'.heap[b]?=some ob'/\ok' ob'/\putK N o.dst d f (fun f'=>K f' ((b,.obj ok')::τ))):OtE P r n df L N o f σ K:=by
 refine⟨fun rest Q a hsp hw hk=>?_⟩;refine ah3 hw hn fun w X fr hst=>?_;have hst':=hst.perm hb;obtain⟨ob,q1,q2⟩:=bD9 hst'.st (yN);obtain⟨d,u,ok',w',ob',h1,h2,h3,h5,h6,h7⟩:=h w fr X ob (fun x=>hsp.le x _ _ _ (hst.fr.eval x)) q1 q2;obtain⟨g1,g2,g3,g4⟩:=hst'.st.upd (i:=0) (k':=.obj ok') rfl h3 h5 h6;obtain⟨f',hs',h8⟩:=ae5 h7 hsp;have hst2:=(hst'.mv g2 g1).put (h2 w' _) o.dst;rcases h1 with h1|⟨h1,rfl,rfl⟩
 ·rw [h1];exact⟨d,_,bk1 hb g2,hst2,hk _ _ _ h8 hs'⟩
 ·rw [h1];exact⟨_,bk1 hb g2,hst2,hk _ _ _ h8 hs'⟩
theorem OtE.mapUpdate {o:Oper} {m key x:Operand} {xv:Value} {K:Frm->aa1->Prop} (ho:o.op = .mapUpdate t m key x) (hm:evF f m = .v (.map (some b))) (hd:KeyD (evF f key) kv) (hx:evF f x = .v xv) (hb:σ.Perm ((b,Blk.obj (MapO P k F))::τ))
  (KK:Keyed P k) (ht:P.underlying t=some (.map k e)) (hkey:keyOf P k kv=some kl) (kk:W (putK N o.dst (.v undef) f (fun f'=>K f' ((b,.obj (MapO P k (updF F kv xv)))::τ)))):OtE P r n df L N o f σ K:=by
 refine OtE.obj (by rw [ho];rfl) hb fun w fr X ob hη hob hok=>?_;obtain⟨es,c,nn,rfl,q3⟩:=hok;obtain⟨w',h1,⟨es',c',h2,h3⟩,h4⟩:=pA1 (v:=xv) (n:=nn) ⟨es,c,hob,q3⟩ KK ht hkey;refine⟨.v undef,undef,MapO P k (updF F kv xv),w',_,.inr ⟨?_,rfl,rfl⟩,fun _ _=>.v _,h4,h2,⟨es',c',_,rfl,h3⟩,kk.h⟩;have p1:=(hη m).val hm;have p2:=hd _ _ _ (hη key);have p3:=(hη x).val hx;simp only [execOp,ho,p1,p2,p3]
 show (do let _ ← Instr.mapUpdate t (.map (some b)) kv xv;pure Next.skip).run P w=_;simp only [Sem.run_bind,h1,Result.andThen,Sem.run_pure]
theorem OtE.mapEntry {o:Oper} {m key:Operand} {K:Frm->aa1->Prop} {ok:Obj->Prop} (ho:o.op = .mapEntry t m key) (hm:evF f m = .v (.map (some b))) (hd:KeyD (evF f key) kv) (hb:σ.Perm ((b,Blk.obj ok)::τ)) (hok:∀ o,ok o->MapO P k F o)
  (KK:Keyed P k) (ht:P.underlying t=some (.map k e)) (hz:∀ w,(zeroValue e).run P w = .ok z w) (hkey:keyOf P k kv=some kl) (kk:∀ st,W (putK N o.dst (.tup [.v ((F kv).getD z),.v st]) f (fun f'=>K f' ((b,.obj (MapS P k (updF F kv ((F kv).getD z)) kv st))::τ)))):OtE P r n df L N o f σ K:=by
 refine OtE.obj (by rw [ho];rfl) hb fun w fr X ob hη hob hok'=>?_;obtain⟨es,c,nn,rfl,E⟩:=hok _ hok';have p1:=(hη m).val hm;have p2:=hd _ _ _ (hη key);have tup:∀ (x y:Value) w O,Rd w O (.tup [.v x,.v y]) (.tuple #[x,y]):=fun x y w O=>by
  have h5:=RdL.cons (w:=w) (O:=O) (Rd.v x) (RdL.cons (Rd.v y) RdL.nil);exact Rd.tup [.v x,.v y] _ h5.len h5.at_
 rcases E.look KK hkey w with ⟨h1,h0,h2⟩|⟨j,e0,h1,h2,h3,h0⟩
 ·refine⟨.tup [.v z,.v (goInt c)],.tuple #[z,goInt c],MapS P k (updF F kv z) kv (goInt c),setBlock w b (.map (es.push ⟨kv,z,c⟩) (c+1)),_,.inl ?_,fun w O=>tup _ _ w O,Keep.setBlock hob,heap_setBlock_same hob _,⟨_,_,nn+1,rfl,E.push hkey h2,⟨kv,z,c⟩,by simp,rfl,rfl⟩,?_⟩
  ·simp only [execOp,ho,p1,p2]
   show (do let v ← Instr.mapEntry t (.map (some b)) kv;pure (Next.value v)).run P w=_;simp [Instr.mapEntry,run_underlying ht,MapKept.run_getObj_map hob,KK.check w false hkey,h1,hz,MapKept.run_setObj_map _ hob,Result.andThen,setBlock]
  ·have:=(kk (goInt c)).h;rw [h0] at this;exact this
 ·have hj:es[j]?=some e0:=by simpa using h2
  have E':=E.modify (v:=e0.val) hkey h2 h3 (fun e=>{ e with key:=kv }) (fun _=>rfl) rfl rfl;refine⟨.tup [.v e0.val,.v (goInt e0.born)],.tuple #[e0.val,goInt e0.born],MapS P k (updF F kv e0.val) kv (goInt e0.born),setBlock w b (.map (es.modify j fun e=>{ e with key:=kv }) c),_,.inl ?_,fun w O=>tup _ _ w O,Keep.setBlock hob,heap_setBlock_same hob _,⟨_,_,nn,rfl,E',{ e0 with key:=kv },?_,rfl,rfl⟩,?_⟩
  ·simp only [execOp,ho,p1,p2]
   show (do let v ← Instr.mapEntry t (.map (some b)) kv;pure (Next.value v)).run P w=_;simp [Instr.mapEntry,run_underlying ht,MapKept.run_getObj_map hob,KK.check w false hkey,h1,hj,h3,KK.stays w hkey,MapKept.run_setObj_map _ hob,Result.andThen,setBlock]
  ·rw [Array.toList_modify,modify_eq_set _ _ _ _ h2];exact List.mem_set (zE.1 h2).1 _
  ·have:=(kk (goInt e0.born)).h;rw [h0] at this;exact this
theorem bR7 {es:Array MapEntry} {c nn:Nat} (E:Ents P k es c nn F) {e0:MapEntry} {j:Nat} (h:es.toList[j]?=some e0):es.findIdx? (fun e=>((e.born:Nat):Int)==((e0.born:Nat):Int))=some j:=by
 rw [WideElems.findIdx_arr];exact WideElems.findIdx_born ((stamped_iff es c).1 E.stamped).2.1 h
theorem OtE.entryStore {o:Oper} {m st x:Operand} {xv sv:Value} {K:Frm->aa1->Prop} (ho:o.op = .entryStore t m st x) (hm:evF f m = .v (.map (some b))) (hs:evF f st = .v sv) (hx:evF f x = .v xv) (hb:σ.Perm ((b,Blk.obj (MapS P k F kv sv))::τ))
  (hkey:keyOf P k kv=some kl) (kk:W (putK N o.dst (.v undef) f (fun f'=>K f' ((b,.obj (MapO P k (updF F kv xv)))::τ)))):OtE P r n df L N o f σ K:=by
 refine OtE.obj (by rw [ho];rfl) hb fun w fr X ob hη hob hok=>?_;obtain⟨es,c,nn,rfl,E,e0,he0,h3,rfl⟩:=hok;obtain⟨j,h2⟩:=yO he0;have E':=E.modify (v:=xv) hkey h2 h3 (fun e=>{ e with val:=xv }) (fun _=>rfl) h3 rfl;refine⟨.v undef,undef,MapO P k (updF F kv xv),setBlock w b (.map (es.modify j fun e=>{ e with val:=xv }) c),_,.inr ⟨?_,rfl,rfl⟩,fun _ _=>.v _,Keep.setBlock hob,heap_setBlock_same hob _,⟨_,_,nn,rfl,E'⟩,kk.h⟩;have p1:=(hη m).val hm;have p2:=(hη st).val hs;have p3:=(hη x).val hx;simp only [execOp,ho,p1,p2,p3]
 show (do let _ ← Instr.entryStore t (.map (some b)) (goInt e0.born) xv;pure Next.skip).run P w=_;simp [Instr.entryStore,MapKept.run_getObj_map hob,asInt,asIntOf,goInt,bR7 E h2,MapKept.run_setObj_map _ hob,Result.andThen,setBlock]
end
end
section
open Go Go.RowKit Go.Shelf
section
variable {P:Program} {r:Option Nat} {n:Nat} {df:Nat} {N:Nat} {σ:aa1} {f:Frm} {L:List Oper} {T:TypeId->Option TI} {Q:Fst}
theorem aG6 {ρ:Operand->D} {k t e:TypeId} {F:Value->Option Value} {b:Nat} {kv z u:Value} {kl:Lit} {o:Oper} {m key:Operand} {ok:Obj->Prop} (ho:o.op = .lookup t m key false) (hm:ρ m = .v (.map (some b))) (hd:KeyD (ρ key) kv) (hb:(b,Blk.obj ok)∈σ) (hok:∀ o,ok o->MapO P k F o)
  (K:Maps.Keyed P k) (ht:P.underlying t=some (.map k e)) (hz:∀ w,(zeroValue e).run P w = .ok z w) (hkey:keyOf P k kv=some kl) (hv:(F kv).getD z=u):Yd P o ρ σ (.v u):=by
 subst hv;exact by9 ho hm hd hb hok K ht hz hkey
def loE (hs:List Nat) (i:Nat):Bool:=!hs.any (Nat.beq i)
theorem ar1 {ops:Array Oper} {E:Nat->Bool} {L L':List D->aa1->Prop} (h:∀ a σ,L a σ->L' a σ):∀ {t:Ord} {a:List D} {σ:aa1},gOrd P r n df ops E L t a σ->gOrd P r n df ops E L' t a σ
 | .done,_,_,hh=>h _ _ hh
 | .one _ _,_,_,hh=>ac1 (fun _ _=>ar1 h) hh
 | .two _ _ _ _,_,_,hh=>⟨ac1 (fun _ _=>ar1 h) hh.1,ac1 (fun _ _=>ar1 h) hh.2⟩
 | .three _ _ _ _ _ _,_,_,hh=>⟨ac1 (fun _ _=>ar1 h) hh.1,ac1 (fun _ _=>ar1 h) hh.2.1,ac1 (fun _ _=>ar1 h) hh.2.2⟩
theorem aE7 (hm:P.follows .mixedOrders=true) (hT:∀ t i,T t=some i->tiOf P t=some i) {id:Nat} {O:Array Oper} (hO:O=L.toArray) (hs:List Nat) (fu:Nat) (t:Ord) {γ:Type} (ps:γ->Frm) (S:γ->aa1) (I:γ->Prop)
  (hB:(Nat.beq (hs.length+fu) L.length&&bw8 .any L.toArray (loE hs) fu t hs (Array.replicate L.length false)&&ay1 (loE hs) t)=true)
  (h:W (exHs P T N L (loE hs) σ hs (fun f1=>bb0 P T r n df N L (fun f' σ'=>∃ g,chkF f' (at6 (.region id O true) f (ps g))/\S g=σ'/\I g) t f1 σ) f))
  (kk:∀ g,I g->W (aF5 (at6 (.region id O true) f (ps g)) fun F=>Q .normal F (S g))):Lp P r n df N (.region id O true) Q f σ:=by
 subst hO;simp only [zJ] at hB;refine⟨fun a hs'=>?_⟩;refine as4 (aJ9 (Q:=fun e a' σ'=>e = .normal/\∃ f',Sp N a' f'/\∃ g,chkF f' (at6 (.region id L.toArray true) f (ps g))/\S g=σ'/\I g) (loE hs) hs fu t hm (yH hB.1.1) hB.1.2 (az6 (fun a' σ' h'=>?_) (aD3 hT h.h hs'))) ?_
 ·obtain⟨rfl,f',h1,h2⟩:=h';have:=au5 hT hB.2 h2 h1;exact ar1 (fun a σ h=>⟨rfl,h⟩) this
 ·rintro e a' σ' ⟨rfl,f',h1,g,h2,rfl,h3⟩;exact⟨_,h1.sub h2,ar2 (kk g h3).h⟩
end
end
section
open Go Go.Maps Go.MapKept
abbrev RI:ORep (List Int):=fun l v s=>RowIs 3 1 (l.map fun n=>[iD n]) v s
abbrev RW1:ORep (List (List Int)):=RowsOf 22 RI
abbrev RW:ORep Wd:=RowsOf 62 RW1
theorem cx4:Frz RI slI:=cf3 _ _ _
theorem ct2:Frz RW1 slW1:=br8 cx4
theorem ct3:Frz RW slW:=br8 ct2
theorem cw3 (l:List Int):((l.map fun b=>[iD b]).all fun y=>y.all oneD)=true:=by rw [yA];intro y hy;obtain⟨b,_,rfl⟩:=xM.1 hy;rfl
structure Snd (x:Sch):Prop where
 no:aj9 x=[]
 vld:Vld x
 up:∀ r∈ab8 x,0<=r.up/\r.up<r.kind/\r.kind<x.kz.length
theorem aA3 (x:Sch) (k i:Int) (h:0<=upIx x k i):upIx x k i<k:=by
 unfold upIx at h ⊢;have key:∀ f,0<=refUp x k f->refUp x k f<k:=fun f h=>by
  unfold refUp at h ⊢;split
  ·assumption
  ·rename_i hn;rw [if_neg hn] at h;omega
 split
 ·rename_i e;rw [e] at h;simp at h
 ·rename_i f e;rw [e] at h;simp only at h;split
  ·rename_i h1;rw [if_pos h1] at h
   cases hu:bi3 x k i f with
   | none=>rw [hu] at h;simp [aB8] at h
   | some g=>rw [hu] at h;exact key g h
  ·rename_i h1;rw [if_neg h1] at h;split
   ·rename_i h2;rw [if_pos h2] at h;exact key f h
   ·rename_i h2;rw [if_neg h2] at h;omega
theorem bE1 {k f r e:Int} (h:one k f r e=[]):e=0:=by
 unfold one at h;split at h
 ·assumption
 ·cases h
theorem aW2 {α:Type} {q:Nat} {g:Nat->List α} (h:upTo q g=[]) (i:Nat) (hi:i<q):g i=[]:=by
 unfold upTo at h;rw [List.flatMap_eq_nil_iff] at h;exact h i (xT.2 hi)
def vN:=@List.append_eq_nil_iff
theorem bB6 {x:Sch} (h:aj9 x=[]) {k:Nat} {kd:Knd} {i:Nat} {f:Fld} (hk:x.kz[k]?=some kd) (hf:kd.fields[i]?=some f):¬ aa4 kd f.name<i/\ac9 x k i f=0:=by
 unfold aj9 at h;split at h
 ·simp only [vN] at h;have h1:=aW2 h.1.2 k (zE.1 hk).1;simp only [ae7,hk,vN] at h1;have h2:=aW2 h1.2 i (zE.1 hf).1;simp only [ad1,hf] at h2;have h3:=bE1 h2;unfold al8 at h3;split at h3
  ·omega
  ·exact⟨by assumption,h3⟩
 ·cases h
theorem bB5 {x:Sch} (h:aj9 x=[]):ad4 x=0:=by
 unfold aj9 at h;split at h
 ·assumption
 ·cases h
theorem aN2 {x:Sch} (h:aj9 x=[]):Snd x:=by
 refine⟨h,bi2 (bB5 h),fun r hr=>?_⟩;obtain⟨kd,f,h1,h2,h3,h4,_⟩:=aL4 hr;have h5:=(bB6 h h1 h2).2;have h6:0<=upIx x r.kind r.field:=by
  unfold ac9 at h5;rw [if_neg (by omega),if_neg (by omega),if_pos h3] at h5;split at h5
  ·cases h5
  ·omega
 rw [h4];exact⟨h6,aA3 x _ _ h6,(zE.1 h1).1⟩
structure Ws (w:Wd):Prop where
 nk:w.length<=1000
 nr:∀ l∈w,l.length<=1000
 nf:∀ l∈w,∀ r∈l,r.length<=1000
theorem bo3 {x:Sch} (hV:Vld x):(ab8 x).length<=6000:=by
 have h1:=ad2 (fun k=>bo5 x k (fun k hk=>by have:=hV.nf k hk;omega)) x.kz.length;have:=hV.nk;unfold ab8;omega
theorem bO9:laidOutB prog=true:=by kernel_rfl
theorem bx8:prog.cellsOf 3=1:=by kernel_rfl
theorem ba6 (n:Nat) {a:Int} (ha:(Lit.int .i64 a).wf=true):prog.keyLits (n+1) 3 [.int .i64 a]=some [.int .i64 a]:=by
 simp only [Program.keyLits,underlying3,ha];simp
theorem as7:Keyed prog 3:=int_keyed underlying3
theorem aH8 {a:Int} (ha:(Lit.int .i64 a).wf=true):keyOf prog 3 (.int .i64 a)=some (.int .i64 a):=keyOf_int_mk underlying3 ha
theorem wf64 {a:Int} (h1:-9223372036854775808<=a) (h2:a<=9223372036854775807):(Lit.int .i64 a).wf=true:=by
 have e1:IntKind.i64.min = -9223372036854775808:=rfl;have e2:IntKind.i64.max=9223372036854775807:=rfl;simp [Lit.wf,e1,e2,h1,h2]
theorem bK4 (w:World):(zeroValue 3).run prog w = .ok (.int .i64 0) w:=by kernel_rfl
def part {α:Type} (x0:α) (xs:List α) (j:Nat):List α:=xs.take j++List.replicate (xs.length-j) x0
theorem Mk.go {T:TypeId->Option TI} {σ:aa1} {t e:TypeId} {i j:TI} {ag:Bool} {by_ m':Nat} {z:ZV} {K:D->aa1->Prop} (m:Nat) (h1:T t=some i) (h2:i.sl=some (e,ag,1,by_)) (h3:T e=some j) (h4:j.zero=[z]) (h5:j.size=1) (hm:m'=m) (hb:by_*m<=281474976710656) (hl:m<=1000000000)
  (k:∀ b,W (K (.v (.slice (some ⟨b,0,none⟩) m m)) ((b,.cells e (List.replicate m (.v (zv z))))::σ))):Mk T σ t (.v (.int .i64 m')) (.v (.int .i64 m')) K:=by
 subst hm;exact⟨e,i,j,ag,by_,m',z,h1,h2,h3,h4,h5,rfl,rfl,hb,hl,fun b=>(k b).h⟩
theorem bq8:Keyed prog 147:=Keyed.of_law (deep_law_laid bO9 (m:=3) (by omega) (wY (by kernel_rfl)) (by kernel_rfl) (by rw [underlying147]))
theorem bO4:prog.keyType 147=true:=by kernel_rfl
def lkV (a b c:Int):Value:=.agg #[.int .i64 a,.int .i64 b,.int .i64 c]
theorem bq9:prog.cellsOf 147=3:=by kernel_rfl
theorem bF2 (a b c:Int):(lkV a b c).formed prog 147=true:=by
 simp [lkV,Value.formed,underlying147,bq9]
theorem bW7 {a b c:Int} (ha:(Lit.int .i64 a).wf=true) (hb:(Lit.int .i64 b).wf=true) (hc:(Lit.int .i64 c).wf=true):∃ l,keyOf prog 147 (lkV a b c)=some l:=by
 unfold keyOf;rw [underlying147];simp only [bO4,bF2,Bool.and_self,if_true];have:∃ n,prog.types.size=n+1:=⟨prog.types.size-1,by have:0<prog.types.size:=wY (by kernel_rfl);omega⟩
 obtain⟨n,hn⟩:=this;rw [hn];have:prog.keyLits (n+1+1) 147 (lkV a b c).cells.toList=some [.int .i64 a,.int .i64 b,.int .i64 c]:=by
  unfold Program.keyLits;simp [lkV,Value.cells,underlying147,bq9,bx8,ba6 n ha,ba6 n hb,ba6 n hc]
 rw [this];exact⟨_,rfl⟩
theorem ce0 {a b c d e f:Int} (h:lkV a b c=lkV d e f):a=d/\b=e/\c=f:=by
 simp only [lkV,Value.agg.injEq] at h;have:=zM Array.toList h;simp at this;exact this
theorem KeyD.agg3 (x y z:Value):KeyD (.agg [.v x,.v y,.v z]) (.agg #[x,y,z]):=fun w O u h=>by
 obtain⟨vs,rfl,h1⟩:=h.agg_inv;have hl:=h1.len
 match vs,hl with
 | [a,b,c],_=>
  have q1:=(h1.at_ 0 _ _ rfl rfl).val rfl;have q2:=(h1.at_ 1 _ _ rfl rfl).val rfl;have q3:=(h1.at_ 2 _ _ rfl rfl).val rfl;rw [q1,q2,q3]
end
section
open Go
def bo0 (rows:List (List Int)) (up share i:Nat):Int:=rows.foldl (fun (acc:Int) (r:List Int)=>if r.getD up 0=(i:Int) then IntKind.i64.wrap (acc+r.getD share 0) else acc) (0:Int)
def upOf (x:Sch) (o sh:Nat):Nat:=match x.kz[o]? with
 | some k=>match k.fields[sh]? with
  | some g=>(aa4 k g.up).toNat
  | none=>0
 | none=>0
def numOk (n:Int):Bool:=!(decide (n < -1099511627776)||decide (1099511627776<n))
def recOk (x:Sch) (k:Nat) (l:List Int):Bool:=bO6 x k l&&l.all numOk
def ap5 (x:Sch) (k:Nat) (l:List (List Int)):Bool:=decide (l.length<=512)&&l.all (recOk x k)
def fitW (x:Sch) (w:Wd):Bool:=decide (w.length=x.kz.length)&&(List.range w.length).all (fun k=>ap5 x k (w.getD k []))&&(ab8 x).all (fun r=>(w.getD r.kind []).all (refOk w r))
def cq0 (x:Sch) (n:ByteArray):Lif:=(x.lz.find? fun l=>seq l.name n).getD ⟨ByteArray.empty,[],[]⟩
def ca9 (l:Lif) (now:List Bool):List Bool:=l.mz.foldl (fun nx m=>if now.getD m.1.toNat false then nx.set m.2.toNat true else nx) (List.replicate 12 false)
def co7 (l:Lif):Nat->List Bool
 | 0=>(List.replicate 12 false).set 0 true
 | m+1=>ca9 l (co7 l m)
def cx5 (l:Lif) (s:Nat):Bool:=!l.mz.any fun m=>decide (m.1=(s:Int))
def ce1 (l:Lif):Bool:=decide (l.tz.length<=12)&&decide (l.mz.length<=32)&&decide (l.tz.length≠0)&&l.mz.all fun m=>aP6 l.tz.length m
def cm5 (l:Lif) (lo hi:Int):List Bool:=
 if ce1 l&&decide (0<=lo)&&decide (lo<=hi)&&decide (hi<=1000) then (List.range l.tz.length).map fun s=>(List.range (hi.toNat+1)).any fun m=>(co7 l m).getD s false&&(decide (lo<=(m:Int))||cx5 l s) else []
def vatR (r:List Int) (i:Int):Int:=r.getD i.toNat 0
def getR (kd:Knd) (r:List Int) (n:ByteArray):Int:=if isE n then 0 else vatR r (aa4 kd n)
def outE (v lo hi:Int):Int:=if v<lo\/hi<v then 5 else 0
def sumAt (x:Sch) (w:Wd) (k i f:Nat):Int:=bo0 (w.getD (aX5 x k f).1.toNat []) (upOf x (aX5 x k f).1.toNat (aX5 x k f).2.toNat) (aX5 x k f).2.toNat i
def copyAt (x:Sch) (w:Wd) (k:Nat) (kd:Knd) (d:Fld) (r:List Int):Int:=
 match af6 x (upIx x k (aa4 kd d.up)) with
 | some ko=>vatR ((w.getD (upIx x k (aa4 kd d.up)).toNat []).getD (vatR r (aa4 kd d.up)).toNat []) (aa4 ko d.of)
 | none=>0
def codeF (x:Sch) (w:Wd) (k:Nat) (kd:Knd) (r:List Int) (i f:Nat) (d:Fld) (ks:List Int):Int:=
 if d.kind=0 then (if r.getD f 0<d.lo then 5 else if r.getD f 0∈ks then 7 else 0)
 else if d.kind=2\/d.kind=7 then outE (r.getD f 0) d.lo d.hi
 else if d.kind=3 then (if r.getD f 0<0\/(d.words.length:Int)<=r.getD f 0\/d.wz.getD (r.getD f 0).toNat 0=0 then 5 else 0)
 else if d.kind=4 then outE (r.getD f 0-getR kd r d.of) d.lo d.hi
 else if d.kind=5 then (if (cm5 (cq0 x d.of) d.lo d.hi).getD (r.getD f 0).toNat false&&decide (0<=r.getD f 0) then 0 else 8)
 else if d.kind=6 then (if r.getD f 0=sumAt x w k i f then 0 else 9)
 else if d.kind=8 then (if r.getD f 0=copyAt x w k kd d r then 0 else 16)
 else 0
def keyF (r:List Int) (f:Nat) (d:Fld) (ks:List Int):List Int:=if d.kind=0/\¬ r.getD f 0<d.lo then r.getD f 0::ks else ks
def aF3 (kd:Knd) (r:List Int) (ks:List Int):Nat->List Int
 | 0=>ks
 | q+1=>match kd.fields[q]? with
  | some d=>keyF r q d (aF3 kd r ks q)
  | none=>aF3 kd r ks q
def aQ0 (kd:Knd) (l:List (List Int)):Nat->List Int
 | 0=>[]
 | i+1=>match l[i]? with
  | some r=>aF3 kd r (aQ0 kd l i) r.length
  | none=>aQ0 kd l i
def cr3 (kd:Knd) (r:List Int) (q:Rul):Bool:=decide (getR kd r q.a<=getR kd r q.b+q.n)
def fldP (x:Sch) (w:Wd) (k:Nat) (kd:Knd) (l:List (List Int)) (i:Nat) (r:List Int) (f:Nat):List Prb:=
 match kd.fields[f]? with
 | some d=>one k i f (codeF x w k kd r i f d (aF3 kd r (aQ0 kd l i) f))
 | none=>[]
def rulP (x:Sch) (k:Nat) (kd:Knd) (i:Nat) (r:List Int) (q:Nat):List Prb:=
 match x.rules[q]? with
 | some u=>one k i (-1) (if aa9 x u.kind=(k:Int)/\cr3 kd r u=false then 24 else 0)
 | none=>[]
def recP (x:Sch) (w:Wd) (k:Nat) (kd:Knd) (l:List (List Int)) (i:Nat):List Prb:=
 match l[i]? with
 | some r=>upTo r.length (fldP x w k kd l i r)++upTo x.rules.length (rulP x k kd i r)
 | none=>[]
def knP (x:Sch) (w:Wd) (k:Nat):List Prb:=
 match x.kz[k]? with
 | some kd=>upTo (w.getD k []).length (recP x w k kd (w.getD k []))
 | none=>[]
def limP (x:Sch) (w:Wd) (k:Nat):List Prb:=
 match x.kz[k]? with
 | some kd=>one k (-1) (-1) (if ((w.getD k []).length:Int)<kd.lo\/kd.hi<((w.getD k []).length:Int) then 4 else 0)
 | none=>[]
def degE (w:Wd) (r:Rf) (j:Nat):Nat:=(w.getD r.kind []).countP fun l=>decide (l.getD r.field 0=(j:Int))
def degP (x:Sch) (w:Wd) (r:Rf) (j:Nat):List Prb:=
 match fieldAt x r.kind r.field with
 | some d=>one r.kind j r.field (if (degE w r j:Int)<d.lo\/d.hi<(degE w r j:Int) then 11 else 0)
 | none=>[]
def aS4 (x:Sch) (w:Wd) (q:Nat):List Prb:=
 match (ab8 x)[q]? with
 | some r=>upTo (w.getD r.up.toNat []).length (degP x w r)
 | none=>[]
def bh0 (x:Sch) (w:Wd):List Prb:=
 if fitW x w then upTo w.length (limP x w)++upTo w.length (knP x w)++upTo (ab8 x).length (aS4 x w) else [(-1,-1,-1,2)]
end
end Go.Proofs.YtlcfiilejnnlnaaGreatDoor
namespace Go.Proofs.YtlcfiilejnnlnaaGreatDoor
open Tryz
open Go
inductive Cnd where
 | c0 (op:Int) (path other:List ByteArray) (n:Int)
 | c1 (op:Int) (path other:List ByteArray) (n:Int) (a:Cnd)
 | c2 (op:Int) (path other:List ByteArray) (n:Int) (a b:Cnd)
namespace Cnd
def op:Cnd->Int
 | c0 o ..=>o
 | c1 o ..=>o
 | c2 o ..=>o
def path:Cnd->List ByteArray
 | c0 _ p ..=>p
 | c1 _ p ..=>p
 | c2 _ p ..=>p
def other:Cnd->List ByteArray
 | c0 _ _ p ..=>p
 | c1 _ _ p ..=>p
 | c2 _ _ p ..=>p
def n:Cnd->Int
 | c0 _ _ _ n=>n
 | c1 _ _ _ n _=>n
 | c2 _ _ _ n _ _=>n
def kids:Cnd->List Cnd
 | c0 ..=>[]
 | c1 _ _ _ _ a=>[a]
 | c2 _ _ _ _ a b=>[a,b]
def size:Cnd->Nat
 | c0 ..=>1
 | c1 _ _ _ _ a=>1+a.size
 | c2 _ _ _ _ a b=>1+a.size+b.size
def deep:Cnd->Nat
 | c0 ..=>1
 | c1 _ _ _ _ a=>a.deep+1
 | c2 _ _ _ _ a b=>max a.deep b.deep+1
theorem kids_len (c:Cnd):c.kids.length<=2:=by cases c<;>simp [kids]
theorem kid_size {c k:Cnd} (h:k∈c.kids):k.size<c.size:=by
 cases c with
 | c0=>cases h
 | c1 _ _ _ _ a=>rw [kids,zN] at h;subst h;simp [size]
 | c2 _ _ _ _ a b=>
  rw [kids,zU,zN] at h;rcases h with rfl|rfl<;>simp only [size]<;>omega
theorem deep_le (c:Cnd):c.deep<=c.size:=by
 induction c with
 | c0=>simp [deep,size]
 | c1 _ _ _ _ a ih=>simp only [deep,size];omega
 | c2 _ _ _ _ a b h1 h2=>simp only [deep,size];omega
inductive All (p:Cnd->Prop):Cnd->Prop
 | mk {c:Cnd} (h:p c) (k:∀ a∈c.kids,All p a):All p c
theorem All.one {p:Cnd->Prop} {c:Cnd} (h:All p c):p c:=by cases h;assumption
theorem All.kid {p:Cnd->Prop} {c a:Cnd} (h:All p c) (ha:a∈c.kids):All p a:=by cases h with|mk _ k=>exact k a ha
end Cnd
structure Qry where
 op:Int
 kind:ByteArray
 path:List ByteArray
 cond:Cnd
def az5 (op:Int):Int:=if op=3 then 1 else if op=4\/op=5 then 2 else 0
def am2 (l:List ByteArray):Bool:=decide (1<=l.length)&&decide (l.length<=4)&&l.all isNm
def aK6 (c:Cnd):Bool:=
 if c.op=1\/c.op=2 then am2 c.path&&(c.other.isEmpty||am2 c.other)&&aa3 c.n (-1048576) 1048576 else c.path.isEmpty&&c.other.isEmpty&&decide (c.n=0)
def aK5 (c:Cnd):Bool:=aa3 c.op 0 5&&decide ((c.kids.length:Int)=az5 c.op)
def formedB:Cnd->Bool
 | .c0 o p q n=>aK5 (.c0 o p q n)&&aK6 (.c0 o p q n)
 | .c1 o p q n a=>aK5 (.c1 o p q n a)&&formedB a&&aK6 (.c1 o p q n a)
 | .c2 o p q n a b=>aK5 (.c2 o p q n a b)&&(formedB a&&formedB b)&&aK6 (.c2 o p q n a b)
theorem aw3 (c:Cnd):formedB c=(aK5 c&&c.kids.all formedB&&aK6 c):=by
 cases c<;>simp [formedB,Cnd.kids]
def av7 (c:Cnd):Bool:=decide (c.size<=64)&&decide (c.deep<=8)
def as1 (q:Qry):Bool:=(aa3 q.op 1 3&&am2 q.path||decide (q.op=0)&&q.path.isEmpty)&&isNm q.kind&&formedB q.cond
def cw5:Knd:=⟨ByteArray.empty,0,0,[]⟩
def kdOf (x:Sch) (k:Nat):Knd:=(x.kz[k]?).getD cw5
def ak2 (x:Sch) (k:Nat) (s:ByteArray):Int:=
 match (if 0<=aa4 (kdOf x k) s then (kdOf x k).fields[(aa4 (kdOf x k) s).toNat]? else none) with
 | some f=>if f.kind=1 then upIx x k (aa4 (kdOf x k) s) else -1
 | none=>-1
def af4 (x:Sch):Nat->List ByteArray->Bool
 | _,[]=>true
 | k,[s]=>decide (0<=aa4 (kdOf x k) s)
 | k,s::t::l=>decide (0<=ak2 x k s)&&af4 x (ak2 x k s).toNat (t::l)
def ar8 (x:Sch):Nat->List ByteArray->List (Int × Int)
 | _,[]=>[]
 | k,[s]=>[(aa4 (kdOf x k) s,-1)]
 | k,s::t::l=>(aa4 (kdOf x k) s,ak2 x k s)::ar8 x (ak2 x k s).toNat (t::l)
def leadsB (x:Sch) (k:Nat):Cnd->Bool
 | .c0 _ p q _=>af4 x k p&&af4 x k q
 | .c1 _ p q _ a=>af4 x k p&&af4 x k q&&leadsB x k a
 | .c2 _ p q _ a b=>af4 x k p&&af4 x k q&&(leadsB x k a&&leadsB x k b)
theorem aF0 (x:Sch) (k:Nat) (c:Cnd):leadsB x k c=(af4 x k c.path&&af4 x k c.other&&c.kids.all (leadsB x k)):=by
 cases c<;>simp [leadsB,Cnd.kids,Cnd.path,Cnd.other]
def ap6 (x:Sch) (q:Qry):Int:=
 if av7 q.cond=false then 4 else if as1 q=false then 1 else if aa9 x q.kind<0 then 12
 else if af4 x (aa9 x q.kind).toNat q.path&&leadsB x (aa9 x q.kind).toNat q.cond then 0 else 12
def endV (x:Sch) (w:Wd):Nat->List Int->List ByteArray->Int
 | _,_,[]=>0
 | k,r,[s]=>vatR r (aa4 (kdOf x k) s)
 | k,r,s::t::l=>endV x w (ak2 x k s).toNat (aC8 w (ak2 x k s).toNat (vatR r (aa4 (kdOf x k) s)).toNat) (t::l)
def holdV (x:Sch) (w:Wd) (k:Nat) (r:List Int):Cnd->Bool
 | .c0 o p q n=>if o=1 then decide (endV x w k r p=(if q=[] then 0 else endV x w k r q)+n) else if o=2 then decide (endV x w k r p<(if q=[] then 0 else endV x w k r q)+n) else true
 | .c1 o p q n a=>if o=1 then decide (endV x w k r p=(if q=[] then 0 else endV x w k r q)+n) else if o=2 then decide (endV x w k r p<(if q=[] then 0 else endV x w k r q)+n) else if o=3 then !holdV x w k r a else true
 | .c2 o p q n a b=>if o=1 then decide (endV x w k r p=(if q=[] then 0 else endV x w k r q)+n) else if o=2 then decide (endV x w k r p<(if q=[] then 0 else endV x w k r q)+n) else if o=3 then !holdV x w k r a else if o=4 then holdV x w k r a&&holdV x w k r b else if o=5 then holdV x w k r a||holdV x w k r b else true
def ay7 (x:Sch) (w:Wd) (k:Nat) (q:Qry):List Int:=((w.getD k []).filter fun r=>holdV x w k r q.cond).map fun r=>if q.op=0 then 1 else endV x w k r q.path
def am6 (q:Qry) (l:List Int):Int × Bool:=
 if q.op=0\/q.op=1 then (l.sum,true) else if l=[] then (0,false) else if q.op=2 then (l.foldl min (l.headD 0),true) else (l.foldl max (l.headD 0),true)
def af1 (x:Sch) (w:Wd) (q:Qry):Int × Bool × Int:=
 if fitW x w=false then (0,false,2) else if ap6 x q≠0 then (0,false,ap6 x q) else ((am6 q (ay7 x w (aa9 x q.kind).toNat q)).1,(am6 q (ay7 x w (aa9 x q.kind).toNat q)).2,0)
end Go.Proofs.YtlcfiilejnnlnaaGreatDoor
namespace Go.Proofs.YtlcfiilejnnlnaaGreatDoor
open Tryz
end Go.Proofs.YtlcfiilejnnlnaaGreatDoor
