/- A part of the proof: Gp Gq Gr Gs Ui Uj Bp Ue Ld Lc. -/
import Derived.Test.YtlcfiilejnnlnaaGreatDoorO17
import Derived.Laws.AppendOwn
import Derived.Test.YtlcfiilejnnlnaaGreatDoorRows
import Derived.LaidMore
import Derived.OpenShut
import Derived.LaidHandle
import Derived.LaidSub
import Derived.Lib.LaidU8
import Derived.WideKeyElems2
import Derived.Maps.RangeWalk
import Derived.Maps.Keyed
import Derived.WalkKit
import Derived.ProofKit
import Derived.ChangeSlices
import Derived.ChangeCalls
import Derived.Deep.Onto
import Derived.Stop.Joined
set_option maxRecDepth 100000
set_option maxHeartbeats 20000000
set_option linter.unusedVariables false
set_option linter.unusedSimpArgs false
namespace Go.Proofs.YtlcfiilejnnlnaaGreatDoor
section
open Go
theorem aR0 {k:Knd} (hN:(k.fields.map Fld.name).Nodup) {j:Nat} {f:Fld} (h:k.fields[j]?=some f):aa3 k f.name=j:=
 ac5 h (ar0 _) fun i y hi hy=>by
  cases hs:seq y.name f.name with
  | false=>rfl
  | true=>
   exfalso
   have he:=(az8 _ _).1 hs
   have hlt:i<(k.fields.map Fld.name).length:=by rw [List.length_map];exact (List.getElem?_eq_some_iff.1 hy).1
   have:=(List.getElem?_inj (j:=j) hlt hN).1 (by rw [List.getElem?_map,List.getElem?_map,hy,h];simp [he])
   omega
theorem cx9 {F:List Fld} (hN:(F.map Fld.name).Nodup) {j n:Nat} {f g:Fld} (h:F[j]?=some f) (h2:F[n]?=some g) (e:f.name=g.name):j=n:=
 (List.getElem?_inj (by rw [List.length_map];exact (List.getElem?_eq_some_iff.1 h).1) hN).1 (by rw [List.getElem?_map,List.getElem?_map,h,h2];simp [e])
theorem bO8 {α:Type} {p:α->Bool} {xs:List α} {a:α} (h:0<=idx p xs) (ha:xs[(idx p xs).toNat]?=some a):p a=true:=by
 unfold idx at *
 split at h
 ·rename_i o ho
  obtain⟨h1,h2,_⟩:=List.findIdx?_eq_some_iff_getElem.1 ho
  simp only [ho,Int.toNat_natCast] at ha
  rw [List.getElem?_eq_getElem h1] at ha
  cases ha;exact h2
 ·omega
theorem bE2 {l:List Fld} {n:ByteArray} (h:am7 l n<0):∀ f∈l,f.name≠n:=by
 intro f hf e
 have:=ai2 (fun f:Fld=>seq f.name n) l
 have h2:l.any (fun f:Fld=>seq f.name n)=true:=List.any_eq_true.2 ⟨f,hf,(az8 _ _).2 e⟩
 rw [h2] at this
 have:=of_decide_eq_true this
 unfold am7 at h;omega
theorem bh8 {l:List Fld} {n:ByteArray} (h:0<=am7 l n):∃ f∈l,f.name=n:=by
 have:=ai2 (fun f:Fld=>seq f.name n) l
 unfold am7 at h
 rw [decide_eq_true h] at this
 obtain⟨f,hf,e⟩:=List.any_eq_true.1 this.symm
 exact⟨f,hf,(az8 _ _).1 e⟩
def ofN (t:Nat) (lo hi:Int):Fld:=⟨nOf,knm t,nE,1,lo,hi,[],[]⟩
def byN:Fld:=⟨nBy,knm 0,nE,1,0,8,[],[]⟩
def PartTo (kj:Knd) (i:Nat):Prop:=∃ n lo hi a b,kj.fields[1]?=some (ofN i lo hi)/\1<n/\kj.fields[n]?=some (aj7 a b)/\∀ (n':Nat) (g:Fld),kj.fields[n']?=some g->g.kind=7->n'=n
def SmQ (ks:List Knd) (t:Nat) (sm:List Fld):Prop:=sm=[]\/∃ (y:Knd) (n:Nat) (g:Fld),ks[t]?=some y/\y.fields[n]?=some g/\ap7 g.kind=true/\sm=[at4 g.name]
def PtQ (ks:List Knd) (t i:Nat) (pt:List Fld):Prop:=pt=[]\/∃ (a b:Int) (y:Knd) (n:Nat),(0<=a/\a<3)/\(0<=b/\b<8)/\ks[t]?=some y/\y.fields[n]?=some (totF (knm i))/\pt=[aj7 a b]
def RefQ (ks:List Knd) (i:Nat) (f1:List Fld):Prop:=f1=[]\/∃ (t:Nat) (lo hi:Int) (sm pt:List Fld),t<i/\(lo=0\/lo=1)/\hi∈[(4:Int),3,8,2]/\SmQ ks t sm/\PtQ ks t i pt/\f1=ofN t lo hi::(sm++pt)
def TotQ (ks:List Knd) (i:Nat) (tt:List Fld):Prop:=tt=[]\/∃ (j:Nat) (kj:Knd),i<j/\ks[j]?=some kj/\PartTo kj i/\tt=[totF (knm j)]
def KForm (ks:List Knd) (i:Nat) (k:Knd):Prop:=∃ lo r idl f1 f2 p1 p2 tt,lo∈[(0:Int),1,2,4,1,2]/\(0<=r/\r<5)/\idl∈[(0:Int),1,100,-3]/\k=⟨knm i,lo,lo+r,idF idl::(f1++(f2++(p1++(p2++tt))))⟩/\RefQ ks i f1 /\
 (f2=[]\/(0<i/\f2=[byN]))/\PlainF p1/\PlainF p2/\(p2=[]\/∃ g gs,p2=g::gs/\am7 (idF idl::(f1++(f2++p1))) g.name<0)/\TotQ ks i tt
def Ext (ks ks':List Knd):Prop:=∀ (i:Nat) (y:Knd),ks[i]?=some y->∃ y',ks'[i]?=some y'/\∃ t,y'.fields=y.fields++t/\∀ g∈t,g.kind≠7
theorem aW6 {y y':Knd} {t:List Fld} (h:y'.fields=y.fields++t) {n:Nat} {g:Fld} (hg:y.fields[n]?=some g):y'.fields[n]?=some g:=by
 rw [h,List.getElem?_append_left (List.getElem?_eq_some_iff.1 hg).1];exact hg
theorem PartTo.ext {y y':Knd} {t:List Fld} {i:Nat} (h:PartTo y i) (e:y'.fields=y.fields++t) (ht:∀ g∈t,g.kind≠7):PartTo y' i:=by
 obtain⟨n,lo,hi,a,b,h1,h2,h3,h4⟩:=h
 refine⟨n,lo,hi,a,b,aW6 e h1,h2,aW6 e h3,fun n' g hg hk=>?_⟩
 rw [e] at hg
 by_cases hl:n' < y.fields.length
 ·rw [List.getElem?_append_left hl] at hg;exact h4 n' g hg hk
 ·rw [List.getElem?_append_right (by omega)] at hg;exact absurd hk (ht g (List.mem_of_getElem? hg))
theorem SmQ.ext {ks ks':List Knd} {t:Nat} {sm:List Fld} (h:SmQ ks t sm) (e:Ext ks ks'):SmQ ks' t sm:=by
 rcases h with rfl|⟨y,n,g,h1,h2,h3,h4⟩
 ·exact .inl rfl
 ·obtain⟨y',g1,_,g2,_⟩:=e t y h1
  exact .inr ⟨y',n,g,g1,aW6 g2 h2,h3,h4⟩
theorem PtQ.ext {ks ks':List Knd} {t i:Nat} {sm:List Fld} (h:PtQ ks t i sm) (e:Ext ks ks'):PtQ ks' t i sm:=by
 rcases h with rfl|⟨a,b,y,n,ha,hb,h1,h2,h3⟩
 ·exact .inl rfl
 ·obtain⟨y',g1,_,g2,_⟩:=e t y h1
  exact .inr ⟨a,b,y',n,ha,hb,g1,aW6 g2 h2,h3⟩
theorem RefQ.ext {ks ks':List Knd} {i:Nat} {f1:List Fld} (h:RefQ ks i f1) (e:Ext ks ks'):RefQ ks' i f1:=by
 rcases h with rfl|⟨t,lo,hi,sm,pt,h1,h2,h3,h4,h5,h6⟩
 ·exact .inl rfl
 ·exact .inr ⟨t,lo,hi,sm,pt,h1,h2,h3,h4.ext e,h5.ext e,h6⟩
theorem TotQ.ext {ks ks':List Knd} {i:Nat} {tt:List Fld} (h:TotQ ks i tt) (e:Ext ks ks'):TotQ ks' i tt:=by
 rcases h with rfl|⟨j,kj,h1,h2,h3,h4⟩
 ·exact .inl rfl
 ·obtain⟨y',g1,_,g2,g3⟩:=e j kj h2
  exact .inr ⟨j,y',h1,g1,h3.ext g2 g3,h4⟩
theorem KForm.ext {ks ks':List Knd} {i:Nat} {k:Knd} (h:KForm ks i k) (e:Ext ks ks'):KForm ks' i k:=by
 obtain⟨lo,r,idl,f1,f2,p1,p2,tt,h1,h2,h3,h4,h5,h6,h7,h8,h9,h10⟩:=h
 exact⟨lo,r,idl,f1,f2,p1,p2,tt,h1,h2,h3,h4,h5.ext e,h6,h7,h8,h9,h10.ext e⟩
theorem KForm.name {ks:List Knd} {i:Nat} {k:Knd} (h:KForm ks i k):k.name=knm i:=by
 obtain⟨lo,r,idl,f1,f2,p1,p2,tt,h1,h2,h3,h4,_⟩:=h
 rw [h4]
theorem PlainF.kd {fs:List Fld} (h:PlainF fs):∀ f∈fs,f.kind=2\/f.kind=3\/f.kind=4\/f.kind=5:=by
 cases h<;>simp
theorem cv5 {A B:List Fld} {c:Fld} (hA:∀ g∈A,g.kind≠7) (hB:∀ g∈B,g.kind≠7) {n:Nat} {g:Fld} (h:(A++c::B)[n]?=some g) (hk:g.kind=7):n=A.length:=by
 by_cases h1:n<A.length
 ·rw [List.getElem?_append_left h1] at h;exact absurd hk (hA g (List.mem_of_getElem? h))
 ·rw [List.getElem?_append_right (by omega)] at h
  by_cases h2:n-A.length=0
  ·omega
  ·obtain⟨m,hm⟩:∃ m,n-A.length=m+1:=⟨n-A.length-1,by omega⟩
   rw [hm,List.getElem?_cons_succ] at h
   exact absurd hk (hB g (List.mem_of_getElem? h))
theorem bp0 (ks:List Knd) (k:Knd):Ext ks (ks++[k]):=fun i y h=>⟨y,by rw [List.getElem?_append_left (List.getElem?_eq_some_iff.1 h).1];exact h,[],by simp,by simp⟩
theorem cf9 (ks:List Knd) (tw:Nat) (y:Knd) (k:Knd) (nm:ByteArray) (hy:ks[tw]?=some y):Ext ks (ks.set tw ⟨y.name,y.lo,y.hi,y.fields++[totF nm]⟩++[k]):=fun i z h=>by
 have hl:=(List.getElem?_eq_some_iff.1 h).1
 rw [List.getElem?_append_left (by rw [List.length_set];exact hl)]
 by_cases e:i=tw
 ·subst e
  rw [hy] at h;cases h
  exact⟨_,List.getElem?_set_self hl,[totF nm],rfl,fun g hg=>by rw [List.mem_singleton] at hg;subst hg;show (6:Int)≠7;decide⟩
 ·rw [List.getElem?_set_ne (Ne.symm e)]
  exact⟨z,h,[],by simp,by simp⟩
theorem bU1 {ks:List Knd} {t:Nat} {y:Knd} {sm:List Fld} (hy:ks[t]?=some y) (hs:sm=[]\/∃ g,0<=aq8 y/\y.fields[(aq8 y).toNat]?=some g/\sm=[at4 g.name]):SmQ ks t sm:=by
 rcases hs with rfl|⟨g,h1,h2,h3⟩
 ·exact .inl rfl
 ·exact .inr ⟨y,_,g,hy,h2,bO8 (p:=fun f:Fld=>ap7 f.kind) h1 h2,h3⟩
theorem KChain.form {ks:List Knd} (h:KChain ks):∀ (i:Nat) k,ks[i]?=some k->KForm ks i k:=by
 induction h with
 | nil=>intro i k h;simp at h
 | @step ks ks' k h m l ih=>
  obtain⟨lo,r,idl,f1,f2,p1,p2,hlo,hr,hid,rfl,hR,hf2,hp1,hp2,hp2n⟩:=m.ex
  have hf2':f2=[]\/(0<ks.length/\f2=[byN]):=by
   rcases hf2 with rfl|⟨y,hy,hl,rfl⟩
   ·exact .inl rfl
   ·exact .inr ⟨by omega,by rw [byF,byN,(ih 0 y hy).name]⟩
  have ofn:∀ {t:Nat} {y:Knd} (lo hi:Int),ks[t]?=some y->ofF y lo hi=ofN t lo hi:=fun lo hi hy=>by rw [ofF,ofN,(ih _ _ hy).name]
  cases hR with
  | none hks=>
   subst hks
   intro i k hk
   have hi:i=0:=by have:=(List.getElem?_eq_some_iff.1 hk).1;simp at this;omega
   subst hi
   rw [List.nil_append,List.getElem?_cons_zero] at hk
   cases hk
   exact⟨lo,r,idl,[],f2,p1,p2,[],hlo,hr,hid,by simp,.inl rfl,hf2',hp1,hp2,hp2n,.inl rfl⟩
  | of tw y lo1 hi1 sm hy hl1 hh1 hs=>
   intro i k hk
   by_cases hi:i<ks.length
   ·rw [List.getElem?_append_left hi] at hk
    exact (ih i k hk).ext (bp0 _ _)
   ·have hi:i=ks.length:=by have:=(List.getElem?_eq_some_iff.1 hk).1;rw [List.length_append,List.length_singleton] at this;omega
    subst hi
    rw [List.getElem?_append_right (Nat.le_refl _),Nat.sub_self,List.getElem?_cons_zero] at hk
    cases hk
    refine⟨lo,r,idl,_,f2,p1,p2,[],hlo,hr,hid,by simp,.inr ⟨tw,lo1,hi1,sm,[],(List.getElem?_eq_some_iff.1 hy).1,hl1,hh1,(bU1 hy hs).ext (bp0 _ _),.inl rfl,by rw [ofn _ _ hy];simp⟩,hf2',hp1,hp2,hp2n,.inl rfl⟩
  | part tw y lo1 hi1 a b sm hy hl1 hh1 hs ht ha hb=>
   have hto:=(List.getElem?_eq_some_iff.1 hy).1
   have hE:=cf9 ks tw y ⟨knm ks.length,lo,lo+r,idF idl::(ofF y lo1 hi1::(sm++[aj7 a b])++(f2++(p1++p2)))⟩ (knm ks.length) hy
   have hsm7:∀ g∈sm,g.kind≠7:=by
    rcases hs with rfl|⟨g,_,_,rfl⟩
    ·simp
    ·intro g hg;rw [List.mem_singleton] at hg;subst hg;show (8:Int)≠7;decide
   have hrest7:∀ g∈f2++(p1++p2),g.kind≠7:=by
    intro g hg
    rcases List.mem_append.1 hg with hg|hg
    ·rcases hf2' with rfl|⟨_,rfl⟩
     ·cases hg
     ·rw [List.mem_singleton] at hg;subst hg;show (1:Int)≠7;decide
    ·rcases List.mem_append.1 hg with hg|hg
     ·have:=hp1.kd g hg;omega
     ·have:=hp2.kd g hg;omega
   have hP:PartTo ⟨knm ks.length,lo,lo+r,idF idl::(ofF y lo1 hi1::(sm++[aj7 a b])++(f2++(p1++p2)))⟩ tw:=by
    have hF:idF idl::(ofF y lo1 hi1::(sm++[aj7 a b])++(f2++(p1++p2)))=(idF idl::ofN tw lo1 hi1::sm)++aj7 a b::(f2++(p1++p2)):=by rw [ofn _ _ hy];simp
    refine⟨(idF idl::ofN tw lo1 hi1::sm).length,lo1,hi1,a,b,by rw [hF];rfl,by simp,by show (idF idl::_)[_]?=_;rw [hF,List.getElem?_append_right (Nat.le_refl _),Nat.sub_self];rfl,fun n' g hg hk=>?_⟩
    change (idF idl::_)[n']?=_ at hg
    rw [hF] at hg
    refine cv5 (fun g hg=>?_) hrest7 hg hk
    rcases List.mem_cons.1 hg with rfl|hg
    ·show (0:Int)≠7;decide
    ·rcases List.mem_cons.1 hg with rfl|hg
     ·show (1:Int)≠7;decide
     ·exact hsm7 g hg
   intro i k hk
   by_cases hi:i<ks.length
   ·have hk':=hk
    rw [List.getElem?_append_left (by rw [List.length_set];exact hi)] at hk
    by_cases e:i=tw
    ·subst e
     rw [List.getElem?_set_self hi] at hk
     cases hk
     obtain⟨lo2,r2,idl2,g1,g2,q1,q2,tt,h1,h2,h3,h4,h5,h6,h7,h8,h9,h10⟩:=ih i y hy
     have htt:tt=[]:=by
      rcases h10 with rfl|⟨j,kj,_,_,_,rfl⟩
      ·rfl
      ·exact absurd rfl (bE2 ht (totF (knm j)) (by rw [h4];simp))
     subst htt
     refine⟨lo2,r2,idl2,g1,g2,q1,q2,[totF (knm ks.length)],h1,h2,h3,by rw [h4];simp,h5.ext hE,h6,h7,h8,h9,.inr ⟨ks.length,_,hi,by rw [List.getElem?_append_right (by rw [List.length_set];exact Nat.le_refl _),List.length_set,Nat.sub_self];rfl,hP,rfl⟩⟩
    ·rw [List.getElem?_set_ne (Ne.symm e)] at hk
     exact (ih i k hk).ext hE
   ·have hi:i=ks.length:=by have:=(List.getElem?_eq_some_iff.1 hk).1;rw [List.length_append,List.length_set,List.length_singleton] at this;omega
    subst hi
    rw [List.getElem?_append_right (by rw [List.length_set];exact Nat.le_refl _),List.length_set,Nat.sub_self,List.getElem?_cons_zero] at hk
    cases hk
    refine⟨lo,r,idl,_,f2,p1,p2,[],hlo,hr,hid,by simp,.inr ⟨tw,lo1,hi1,sm,[aj7 a b],hto,hl1,hh1,(bU1 hy hs).ext hE,.inr ⟨a,b,⟨y.name,y.lo,y.hi,y.fields++[totF (knm ks.length)]⟩,y.fields.length,ha,hb,?_,?_,rfl⟩,by rw [ofn _ _ hy]⟩,hf2',hp1,hp2,hp2n,.inl rfl⟩
    ·rw [List.getElem?_append_left (by rw [List.length_set];exact hto)];exact List.getElem?_set_self hto
    ·show (y.fields++[_])[_]?=_
     rw [List.getElem?_append_right (Nat.le_refl _),Nat.sub_self];rfl
end
section
open Go
theorem RefQ.nms {ks:List Knd} {i:Nat} {f1:List Fld} (h:RefQ ks i f1):(f1.map Fld.name).Sublist [nOf,br7,br8]:=by
 rcases h with rfl|⟨t,lo,hi,sm,pt,_,_,_,hs,hp,rfl⟩
 ·simp
 ·rcases hs with rfl|⟨y,n,g,_,_,_,rfl⟩<;>rcases hp with rfl|⟨a,b,y2,n2,_,_,_,_,rfl⟩<;>simp [ofN,at4,aj7]
theorem TotQ.nms {ks:List Knd} {i:Nat} {tt:List Fld} (h:TotQ ks i tt):(tt.map Fld.name).Sublist [aq7]:=by
 rcases h with rfl|⟨j,kj,_,_,_,rfl⟩<;>simp [totF]
theorem KForm.nodup {ks:List Knd} {i:Nat} {k:Knd} (h:KForm ks i k):(k.fields.map Fld.name).Nodup:=by
 obtain⟨lo,r,idl,f1,f2,p1,p2,tt,h1,h2,h3,rfl,h5,h6,h7,h8,h9,h10⟩:=h
 have s1:=h5.nms
 have s2:(f2.map Fld.name).Sublist [nBy]:=by rcases h6 with rfl|⟨_,rfl⟩<;>simp [byN]
 have s3:=h10.nms
 have hS:(([nId]++(f1.map Fld.name++(f2.map Fld.name++(p1.map Fld.name++(p2.map Fld.name++tt.map Fld.name)))))).Sublist ([nId]++([nOf,br7,br8]++([nBy]++(p1.map Fld.name++(p2.map Fld.name++[aq7]))))):=
  (List.Sublist.refl _).append (s1.append (s2.append ((List.Sublist.refl _).append ((List.Sublist.refl _).append s3))))
 have hQ:∀ f∈p1,∀ g gs,p2=g::gs->f.name≠g.name:=by
  intro f hf g gs e
  rcases h9 with h9|⟨g',gs',e',hn⟩
  ·rw [h9] at e;cases e
  ·rw [e'] at e;cases e
   exact bE2 hn f (by simp [hf])
 have hD:([nId]++([nOf,br7,br8]++([nBy]++(p1.map Fld.name++(p2.map Fld.name++[aq7]))))).Nodup:=by
  cases h7<;>cases h8<;>first|(simp only [List.map_cons,List.map_nil];decide)|exact (hQ _ List.mem_cons_self _ _ rfl rfl).elim
 refine List.Sublist.nodup (l₁:=_) ?_ hD
 simpa [idF] using hS
structure HX (x:Sch):Prop where
 nk:x.kinds.length<=3
 form:∀ (i:Nat) k,x.kinds[i]?=some k->KForm x.kinds i k
 kd:∀ k∈x.kinds,∀ f∈k.fields,0<=f.kind
 life:x.lives.any (fun l=>seq l.name nLife)=true
theorem cr1 {i t:Nat} (h:i<t) (ht:t<=2):seq (knm i) (knm t)=false:=by
 obtain rfl|rfl:t=1\/t=2:=by omega
 ·obtain rfl:i=0:=by omega
  decide +kernel
 ·obtain rfl|rfl:i=0\/i=1:=by omega
  ·decide +kernel
  ·decide +kernel
variable {x:Sch} (H:HX x)
include H
theorem HX.kix {t:Nat} {y:Knd} (h:x.kinds[t]?=some y):ab1 x (knm t)=t:=
 ac5 h (by rw [(H.form t y h).name];exact ar0 _) fun i z hi hz=>by
  rw [(H.form i z hz).name]
  exact cr1 hi (by have:=(List.getElem?_eq_some_iff.1 h).1;have:=H.nk;omega)
omit H in
theorem kat {i:Nat} {k:Knd} (hk:x.kinds[i]?=some k):ad5 x i=some k:=by simp [ad5,hk]
omit H in
theorem fat {i:Nat} {k:Knd} (hk:x.kinds[i]?=some k) (j:Nat):fieldAt x i j=k.fields[j]?:=by simp [fieldAt,ad5,hk]
theorem HX.refUp {i t:Nat} {y:Knd} {f:Fld} (hy:x.kinds[t]?=some y) (hti:t<i) (ho:f.of=knm t):refUp x i f=t:=by
 rw [Go.Proofs.YtlcfiilejnnlnaaGreatDoor.refUp,ho,H.kix hy,if_pos (by omega)]
theorem HX.up1 {i t j:Nat} {k y:Knd} {f:Fld} (hk:x.kinds[i]?=some k) (hf:k.fields[j]?=some f) (hy:x.kinds[t]?=some y) (hti:t<i) (h1:f.kind=1) (ho:f.of=knm t):upIx x i j=t:=by
 rw [aS7 ((fat hk j).trans hf) (kat hk),if_neg (by rw [h1];decide),if_pos h1,H.refUp hy hti ho]
theorem HX.up7 {i t j:Nat} {k y:Knd} {f:Fld} {lo hi:Int} (hk:x.kinds[i]?=some k) (hf:k.fields[j]?=some f) (hy:x.kinds[t]?=some y) (hti:t<i) (h7:f.kind=7\/f.kind=8) (ho:f.up=nOf) (h1:k.fields[1]?=some (ofN t lo hi)) (hj:1<j):upIx x i j=t:=by
 have e1:aa3 k f.up=((1:Nat):Int):=by rw [ho];exact aR0 (H.form i k hk).nodup h1
 rw [aS7 ((fat hk j).trans hf) (kat hk),if_pos h7,e1,fat hk 1,h1,ax2,if_pos ⟨by omega,rfl⟩,as7,H.refUp hy hti rfl]
omit H in
theorem HX.below {i t:Nat} {k:Knd} (hk:x.kinds[i]?=some k) (hti:t<i):∃ y,x.kinds[t]?=some y:=⟨_,List.getElem?_eq_getElem (by have:=(List.getElem?_eq_some_iff.1 hk).1;omega)⟩
omit H in
theorem ck7 {l:List Nat} {c:Nat} (hn:l.Nodup) (h1:∀ a∈l,a=c) (h2:c∈l):l.length=1:=by
 match l,hn,h1,h2 with
 | [a],_,_,_=>rfl
 | a::b::r,hn,h1,_=>
  have e1:=h1 a (by simp)
  have e2:=h1 b (by simp)
  simp [e1,e2] at hn
theorem HX.shares {i j:Nat} {k kj:Knd} (hk:x.kinds[i]?=some k) (hij:i<j) (hkj:x.kinds[j]?=some kj) (hP:PartTo kj i):(as4 x i (totF (knm j))).length=1:=by
 obtain⟨n,lo,hi,a,b,g1,g2,g3,g4⟩:=hP
 have e:ab1 x (totF (knm j)).of=j:=H.kix hkj
 rw [as4,e,kat hkj]
 simp only [List.length_map]
 refine ck7 (c:=n) (List.Pairwise.filter _ List.nodup_range) (fun m hm=>?_) ?_
 ·obtain⟨_,hq⟩:=List.mem_filter.1 hm
  cases hg:kj.fields[m]? with
  | none=>rw [hg] at hq;cases hq
  | some g=>
   rw [hg] at hq
   simp only [Bool.and_eq_true,decide_eq_true_eq] at hq
   exact g4 m g hg hq.1.1
 ·refine List.mem_filter.2 ⟨List.mem_range.2 (List.getElem?_eq_some_iff.1 g3).1,?_⟩
  rw [g3]
  simp only [Bool.and_eq_true,decide_eq_true_eq]
  exact⟨⟨rfl,ar0 _⟩,H.up7 hkj g3 hk hij (.inl rfl) rfl g1 g2⟩
omit H in
theorem bX1 {F:List Fld} (hN:(F.map Fld.name).Nodup) {A B:List Fld} {c:Fld} (hF:F=A++c::B) {j:Nat} {f:Fld} (hf:F[j]?=some f) (e:f.name=c.name):j=A.length/\f=c:=by
 have hc:F[A.length]?=some c:=by rw [hF,List.getElem?_append_right (Nat.le_refl _),Nat.sub_self];rfl
 have:=cx9 hN hf hc e
 subst this
 rw [hf] at hc;cases hc
 exact⟨rfl,rfl⟩
theorem HX.plain {i j:Nat} {k:Knd} {A p B:List Fld} {f:Fld} (hk:x.kinds[i]?=some k) (hp:PlainF p) (hF:k.fields=A++(p++B)) (hf:k.fields[j]?=some f) (hm:f∈p):ac3 x i j f=0:=by
 have hN:=(H.form i k hk).nodup
 cases hp with
 | none=>cases hm
 | size a b ha hb=>rw [List.mem_singleton] at hm;subst hm;simp [ac3]
 | tag n ws hn hw h0 h1=>rw [List.mem_singleton] at hm;subst hm;simp [ac3]
 | low a b c d ha hb hc hd=>
  simp only [List.mem_cons,List.not_mem_nil,or_false] at hm
  rcases hm with rfl|rfl<;>simp [ac3]
 | state a b ha hb=>
  rw [List.mem_singleton] at hm;subst hm
  simp only [ac3]
  rw [if_neg (by simp),if_neg (by simp),if_neg (by simp),if_neg (by simp),if_pos trivial,if_pos H.life]
 | born a b c d ha hb hc hd=>
  simp only [List.mem_cons,List.not_mem_nil,or_false] at hm
  rcases hm with rfl|rfl
  ·simp only [ac3]
   rw [if_neg (by simp),if_neg (by simp),if_neg (by simp),if_pos trivial,dayE,kat hk]
   simp only
   rw [if_pos (by decide +kernel)]
  ·obtain⟨rfl,_⟩:=bX1 hN (A:=A++[⟨aH0,nE,nE,4,a,a+b,[],[]⟩]) (B:=B) (c:=⟨cc9,aH0,nE,4,c,3+d,[],[]⟩) (by rw [hF];simp) hf rfl
   have hb:k.fields[A.length]?=some ⟨aH0,nE,nE,4,a,a+b,[],[]⟩:=by rw [hF,List.getElem?_append_right (Nat.le_refl _),Nat.sub_self];rfl
   have e1:aa3 k aH0=A.length:=aR0 hN hb
   simp only [ac3]
   rw [if_neg (by simp),if_neg (by simp),if_neg (by simp),if_pos trivial,dayE,kat hk]
   simp only
   rw [if_neg (by decide +kernel),e1,if_neg (by simp;omega),Int.toNat_natCast,hb]
   rfl
theorem HX.leads {i j:Nat} {k:Knd} {f:Fld} (hk:x.kinds[i]?=some k) (hf:k.fields[j]?=some f):ac3 x i j f=0:=by
 have hN:=(H.form i k hk).nodup
 have hF:=H.form i k hk
 have hmf:=List.mem_of_getElem? hf
 obtain⟨lo,r,idl,f1,f2,p1,p2,tt,h1,h2,h3,h4,h5,h6,h7,h8,h9,h10⟩:=hF
 have hK:k.fields=idF idl::(f1++(f2++(p1++(p2++tt)))):=by rw [h4]
 have hmf2:=hmf
 rw [hK] at hmf2
 rcases List.mem_cons.1 hmf2 with rfl|hm
 ·obtain⟨rfl,_⟩:=bX1 hN (A:=[]) (c:=idF idl) hK hf rfl
  simp [ac3,idF]
 rcases List.mem_append.1 hm with hm|hm
 ·rcases h5 with rfl|⟨t,lo1,hi1,sm,pt,hti,hl1,hh1,hs,hp,rfl⟩
  ·cases hm
  obtain⟨y,hy⟩:=HX.below hk hti
  have hof:k.fields[1]?=some (ofN t lo1 hi1):=by rw [hK];rfl
  rcases List.mem_cons.1 hm with rfl|hm
  ·simp only [ac3]
   rw [H.up1 hk hf hy hti rfl rfl,if_neg (by simp [ofN]),if_neg (by simp [ofN]),if_pos (by simp [ofN]),if_neg (by omega)]
  have hj:1<j:=by
   refine Nat.lt_of_not_le fun hle=>?_
   have h01:j=0\/j=1:=by omega
   rcases h01 with rfl|rfl
   ·rw [hK] at hf;cases hf
    rcases List.mem_append.1 hm with hm|hm
    ·rcases hs with rfl|⟨_,_,_,_,_,_,rfl⟩
     ·cases hm
     ·rw [List.mem_singleton] at hm;cases hm
    ·rcases hp with rfl|⟨_,_,_,_,_,_,_,_,rfl⟩
     ·cases hm
     ·rw [List.mem_singleton] at hm;cases hm
   ·rw [hof] at hf;cases hf
    rcases List.mem_append.1 hm with hm|hm
    ·rcases hs with rfl|⟨_,_,_,_,_,_,rfl⟩
     ·cases hm
     ·rw [List.mem_singleton] at hm;cases hm
    ·rcases hp with rfl|⟨_,_,_,_,_,_,_,_,rfl⟩
     ·cases hm
     ·rw [List.mem_singleton] at hm;cases hm
  rcases List.mem_append.1 hm with hm|hm
  ·rcases hs with rfl|⟨y',n,g,hy',hg,hpk,rfl⟩
   ·cases hm
   rw [hy] at hy';cases hy'
   rw [List.mem_singleton] at hm;subst hm
   have hu:=H.up7 hk hf hy hti (.inr rfl) rfl hof hj
   have hg0:=H.kd y (List.mem_of_getElem? hy) g (List.mem_of_getElem? hg)
   have hx:aa3 y g.name=n:=aR0 (H.form t y hy).nodup hg
   simp only [ap7,Bool.and_eq_true,Bool.not_eq_true',decide_eq_false_iff_not] at hpk
   have ha:abvR x i j (at4 g.name)=(g.kind,g):=by
    unfold abvR topF
    rw [hu,if_neg (by omega),kat hy]
    simp only [at4]
    rw [hx,fat hy,hg]
   simp only [ac3]
   rw [if_neg (by simp [at4]),if_neg (by simp [at4]),if_neg (by simp [at4]),if_neg (by simp [at4]),if_neg (by simp [at4]),if_neg (by simp [at4]),hu,az6,if_neg (by omega),if_neg (by simp [at4]),ha,if_neg (by simp only;omega)]
  ·rcases hp with rfl|⟨a,b,y',n,_,_,hy',hg,rfl⟩
   ·cases hm
   rw [hy] at hy';cases hy'
   rw [List.mem_singleton] at hm;subst hm
   have hu:=H.up7 hk hf hy hti (.inl rfl) rfl hof hj
   have hx:aa3 y aq7=n:=aR0 (f:=totF (knm i)) (H.form t y hy).nodup hg
   have ha:abvR x i j (aj7 a b)=(6,totF (knm i)):=by
    unfold abvR topF
    rw [hu,if_neg (by omega),kat hy]
    simp only [aj7]
    rw [hx,fat hy,hg]
    rfl
   simp only [ac3]
   rw [if_neg (by simp [aj7]),if_neg (by simp [aj7]),if_neg (by simp [aj7]),if_neg (by simp [aj7]),if_neg (by simp [aj7]),if_neg (by simp [aj7]),hu,az6,if_neg (by omega),if_pos (by simp [aj7]),ha,if_pos ⟨rfl,H.kix hk⟩]
 rcases List.mem_append.1 hm with hm|hm
 ·rcases h6 with rfl|⟨hi0,rfl⟩
  ·cases hm
  rw [List.mem_singleton] at hm;subst hm
  obtain⟨y,hy⟩:=HX.below hk hi0
  simp only [ac3]
  rw [H.up1 hk hf hy hi0 rfl rfl,if_neg (by simp [byN]),if_neg (by simp [byN]),if_pos (by simp [byN]),if_neg (by omega)]
 rcases List.mem_append.1 hm with hm|hm
 ·exact H.plain hk h7 (A:=idF idl::(f1++f2)) (B:=p2++tt) (by rw [hK];simp) hf hm
 rcases List.mem_append.1 hm with hm|hm
 ·exact H.plain hk h8 (A:=idF idl::(f1++(f2++p1))) (B:=tt) (by rw [hK];simp) hf hm
 ·rcases h10 with rfl|⟨j',kj,hij,hkj,hP,rfl⟩
  ·cases hm
  rw [List.mem_singleton] at hm;subst hm
  have e:ab1 x (totF (knm j')).of=j':=H.kix hkj
  have hno:av1 x i (totF (knm j'))=false:=by
   rw [av1,e]
   simp [totF];omega
  simp only [ac3]
  rw [if_neg (by simp [totF]),if_neg (by simp [totF]),if_neg (by simp [totF]),if_neg (by simp [totF]),if_neg (by simp [totF]),if_pos (by simp [totF]),aq3,hno]
  simp only [Bool.false_eq_true,if_false]
  rw [e,if_neg (by omega),if_pos (H.shares hk hij hkj hP)]
end
section
open Go
theorem GenX.hx {x:Sch} (h:GenX x):HX x where
 nk:=h.nk.2
 form:=h.ks.form
 kd:=fun k hk f hf=>((h.cls.ks k hk).fs f hf).kd.1
 life:=by
  obtain⟨m,mv,_,_,hl,_⟩:=h.ls
  rw [hl];simp [ar0]
theorem bb1 {t:Nat} (h:t<=2):isNm (knm t)=true:=by
 obtain rfl|rfl|rfl:t=0\/t=1\/t=2:=by omega
 all_goals decide +kernel
theorem eNE:isE nE=true:=by decide +kernel
theorem PlainF.ok {p:List Fld} (h:PlainF p):∀ f∈p,ab3 f=true:=by
 cases h with
 | none=>simp
 | size a b ha hb=>
  intro f hf;rw [List.mem_singleton] at hf;subst hf
  (simp only [ab3,Bool.and_eq_true];refine⟨⟨by decide +kernel,?_⟩,?_⟩)
  ·(simp [ao1,ag7,ag6,ag8,ag3,ag2,eNE])
  ·simp [ak2,an9];omega
 | tag n ws hn hw h0 h1=>
  intro f hf;rw [List.mem_singleton] at hf;subst hf
  (simp only [ab3,Bool.and_eq_true];refine⟨⟨by decide +kernel,?_⟩,?_⟩)
  ·(simp [ao1,ag7,ag6,ag8,ag3,ag2,eNE])
  ·have hs:0<ws.sum:=by
    obtain⟨w,hw1,hw2⟩:=h1
    clear hw
    induction ws with
    | nil=>cases hw1
    | cons z zs ih=>
     have hz:=h0 z (by simp)
     have hnn:∀ l:List Int,(∀ w∈l,0<=w/\w<=4)->0<=l.sum:=fun l=>by
      induction l with
      | nil=>simp
      | cons q l ih=>intro hl;have:=hl q (by simp);have:=ih fun w hw=>hl w (by simp [hw]);simp;omega
     rw [List.sum_cons]
     rcases List.mem_cons.1 hw1 with rfl|hw1
     ·have:=hnn zs fun w hw=>h0 w (by simp [hw]);omega
     ·have:=ih (fun w hw=>h0 w (by simp [hw])) hw1;omega
   have hg:ws.all (fun n=>aa7 n 0 1048576)=true:=by
    rw [List.all_eq_true];intro w hw;have:=h0 w hw;simp [aa7];omega
   have hwd:([nRed,aL8,bg8].take n).all isNm=true:=by
    rw [List.all_eq_true];intro w hw
    have:=List.mem_of_mem_take hw
    simp only [List.mem_cons,List.not_mem_nil,or_false] at this
    rcases this with rfl|rfl|rfl<;>decide +kernel
   have hl:([nRed,aL8,bg8].take n).length=n:=by rw [List.length_take];simp;omega
   simp only [ak2]
   rw [if_neg (by simp),if_neg (by simp),if_neg (by simp),if_pos trivial,ae7,hg,hwd,hl,hw]
   simp [aa7];omega
 | born a b c d ha hb hc hd=>
  intro f hf
  simp only [List.mem_cons,List.not_mem_nil,or_false] at hf
  rcases hf with rfl|rfl
  ·(simp only [ab3,Bool.and_eq_true];refine⟨⟨by decide +kernel,?_⟩,?_⟩)
   ·(simp [ao1,ag7,ag6,ag8,ag3,ag2,eNE])
   ·simp [ak2,an9,eNE];omega
  ·(simp only [ab3,Bool.and_eq_true];refine⟨⟨by decide +kernel,?_⟩,?_⟩)
   ·(simp [ao1,ag7,ag6,ag8,ag3,ag2,eNE])
   ·have:isNm aH0=true:=by decide +kernel
    simp [ak2,an9,this];omega
 | state a b ha hb=>
  intro f hf;rw [List.mem_singleton] at hf;subst hf
  (simp only [ab3,Bool.and_eq_true];refine⟨⟨by decide +kernel,?_⟩,?_⟩)
  ·(simp [ao1,ag7,ag6,ag8,ag3,ag2,eNE])
  ·have:isNm nLife=true:=by decide +kernel
   simp [ak2,an9,this];omega
 | low a b c d ha hb hc hd=>
  intro f hf
  simp only [List.mem_cons,List.not_mem_nil,or_false] at hf
  rcases hf with rfl|rfl
  ·(simp only [ab3,Bool.and_eq_true];refine⟨⟨by decide +kernel,?_⟩,?_⟩)
   ·(simp [ao1,ag7,ag6,ag8,ag3,ag2,eNE])
   ·simp [ak2,an9];omega
  ·(simp only [ab3,Bool.and_eq_true];refine⟨⟨by decide +kernel,?_⟩,?_⟩)
   ·(simp [ao1,ag7,ag6,ag8,ag3,ag2,eNE])
   ·simp [ak2,an9];omega
theorem PlainF.nm {p:List Fld} (h:PlainF p):∀ f∈p,isNm f.name=true:=fun f hf=>by
 have:=h.ok f hf
 simp only [ab3,Bool.and_eq_true] at this
 exact this.1.1
theorem KForm.nms {ks:List Knd} {i:Nat} {k:Knd} (h:KForm ks i k):∀ f∈k.fields,isNm f.name=true:=by
 obtain⟨lo,r,idl,f1,f2,p1,p2,tt,h1,h2,h3,rfl,h5,h6,h7,h8,h9,h10⟩:=h
 intro f hf
 rcases List.mem_cons.1 hf with rfl|hf
 ·show isNm nId=true;decide +kernel
 rcases List.mem_append.1 hf with hf|hf
 ·have:=(h5.nms).subset (List.mem_map_of_mem (f:=Fld.name) hf)
  simp only [List.mem_cons,List.not_mem_nil,or_false] at this
  rcases this with e|e|e<;>rw [e]<;>decide +kernel
 rcases List.mem_append.1 hf with hf|hf
 ·rcases h6 with rfl|⟨_,rfl⟩
  ·cases hf
  ·rw [List.mem_singleton] at hf;subst hf;show isNm nBy=true;decide +kernel
 rcases List.mem_append.1 hf with hf|hf
 ·exact h7.nm f hf
 rcases List.mem_append.1 hf with hf|hf
 ·exact h8.nm f hf
 ·have:=(h10.nms).subset (List.mem_map_of_mem (f:=Fld.name) hf)
  simp only [List.mem_cons,List.not_mem_nil,or_false] at this
  rw [this];decide +kernel
theorem HX.field {x:Sch} (H:HX x) {i:Nat} {k:Knd} (hk:x.kinds[i]?=some k):∀ f∈k.fields,ab3 f=true:=by
 have hF:=H.form i k hk
 have hil:i<=2:=by have:=(List.getElem?_eq_some_iff.1 hk).1;have:=H.nk;omega
 have hnm:=hF.nms
 obtain⟨lo,r,idl,f1,f2,p1,p2,tt,h1,h2,h3,rfl,h5,h6,h7,h8,h9,h10⟩:=hF
 intro f hf
 have hn:=hnm f hf
 rcases List.mem_cons.1 hf with rfl|hf
 ·simp only [ab3,hn,Bool.true_and,Bool.and_eq_true]
  refine⟨by simp [ao1,ag7,ag6,ag8,ag3,ag2,eNE,idF],?_⟩
  simp only [List.mem_cons,List.not_mem_nil,or_false] at h3
  rcases h3 with rfl|rfl|rfl|rfl<;>simp [ak2,idF,aa7]
 rcases List.mem_append.1 hf with hf|hf
 ·rcases h5 with rfl|⟨t,lo1,hi1,sm,pt,hti,hl1,hh1,hs,hp,rfl⟩
  ·cases hf
  rcases List.mem_cons.1 hf with rfl|hf
  ·simp only [ab3,hn,Bool.true_and,Bool.and_eq_true]
   refine⟨by simp [ao1,ag7,ag6,ag8,ag3,ag2,eNE,ofN],?_⟩
   have:=bb1 (t:=t) (by omega)
   simp only [List.mem_cons,List.not_mem_nil,or_false] at hh1
   rcases hl1 with rfl|rfl<;>rcases hh1 with rfl|rfl|rfl|rfl<;>simp [ak2,ofN,this,an9]
  have eof:isNm nOf=true:=by decide +kernel
  have ett:isNm aq7=true:=by decide +kernel
  rcases List.mem_append.1 hf with hf|hf
  ·rcases hs with rfl|⟨y,n,g,hy,hg,hpk,rfl⟩
   ·cases hf
   rw [List.mem_singleton] at hf;subst hf
   have:=(H.form t y hy).nms g (List.mem_of_getElem? hg)
   simp only [ab3,hn,Bool.true_and,Bool.and_eq_true]
   exact⟨by simp [ao1,ag7,ag6,ag8,ag3,ag2,eNE,at4],by simp [ak2,at4,this,eof]⟩
  ·rcases hp with rfl|⟨a,b,y,n,ha,hb,hy,hg,rfl⟩
   ·cases hf
   rw [List.mem_singleton] at hf;subst hf
   simp only [ab3,hn,Bool.true_and,Bool.and_eq_true]
   exact⟨by simp [ao1,ag7,ag6,ag8,ag3,ag2,eNE,aj7],by simp [ak2,aj7,ett,eof,an9];exact⟨decide_eq_true (by omega),decide_eq_true (by omega),decide_eq_true (by omega)⟩⟩
 rcases List.mem_append.1 hf with hf|hf
 ·rcases h6 with rfl|⟨_,rfl⟩
  ·cases hf
  ·rw [List.mem_singleton] at hf;subst hf
   have:=bb1 (t:=0) (by omega)
   simp only [ab3,hn,Bool.true_and,Bool.and_eq_true]
   exact⟨by simp [ao1,ag7,ag6,ag8,ag3,ag2,eNE,byN],by simp [ak2,byN,this,an9]⟩
 rcases List.mem_append.1 hf with hf|hf
 ·exact h7.ok f hf
 rcases List.mem_append.1 hf with hf|hf
 ·exact h8.ok f hf
 ·rcases h10 with rfl|⟨j,kj,hij,hkj,hP,rfl⟩
  ·cases hf
  ·rw [List.mem_singleton] at hf;subst hf
   have:=bb1 (t:=j) (by have:=(List.getElem?_eq_some_iff.1 hkj).1;have:=H.nk;omega)
   simp only [ab3,hn,Bool.true_and,Bool.and_eq_true]
   exact⟨by simp [ao1,ag7,ag6,ag8,ag3,ag2,eNE,totF],by simp [ak2,totF,this]⟩
def bT3 (n:ByteArray) (t:Nat):Prop:=n=aL7++(knm t).extract 0 1\/n=bb2++(knm t).extract 0 1\/n=aF8++(knm t).extract 0 1
theorem bK4 {a b:ByteArray} {s t:Nat} (hst:s<t) (ht:t<=2) (h:bT3 a s) (k:bT3 b t):a≠b:=by
 obtain⟨rfl,rfl⟩|⟨rfl,rfl⟩|⟨rfl,rfl⟩:(s=0/\t=1)\/(s=0/\t=2)\/(s=1/\t=2):=by omega
 all_goals rcases h with rfl|rfl|rfl<;>rcases k with rfl|rfl|rfl<;>decide +kernel
theorem bK3 {a:ByteArray} {t:Nat} (ht:t<=2) (h:bT3 a t):isNm a=true:=by
 obtain rfl|rfl|rfl:t=0\/t=1\/t=2:=by omega
 all_goals rcases h with rfl|rfl|rfl<;>decide +kernel
theorem RuleF.rn {k:Knd} {r:Rul} {t:Nat} (h:RuleF k r) (hn:k.name=knm t):bT3 r.name t:=by
 cases h with
 | low n h hn'=>exact .inl (by rw [hn])
 | most f n h hf hn'=>exact .inr (.inl (by rw [hn]))
 | least f n h hf hn'=>exact .inr (.inr (by rw [hn]))
theorem RChain.facts {ks:List Knd} {i:Nat} {rs:List Rul} (h:RChain ks i rs) (hN:∀ (t:Nat) y,ks[t]?=some y->y.name=knm t) (hl:ks.length<=3) :
  rs.Pairwise (fun a b=>a.name≠b.name)/\∀ r∈rs,∃ t k,t<i/\ks[t]?=some k/\RuleF k r:=by
 induction h with
 | nil=>simp
 | skip h ih=>exact⟨ih.1,fun r hr=>by obtain⟨t,k,h1,h2⟩:=ih.2 r hr;exact⟨t,k,by omega,h2⟩⟩
 | @take i rs k r h hk hr ih=>
  refine⟨List.pairwise_append.2 ⟨ih.1,by simp,fun a ha b hb=>?_⟩,fun q hq=>?_⟩
  ·rw [List.mem_singleton] at hb;subst hb
   obtain⟨t,k2,h1,h2,h3⟩:=ih.2 a ha
   exact bK4 h1 (by have:=(List.getElem?_eq_some_iff.1 hk).1;omega) (h3.rn (hN t k2 h2)) (hr.rn (hN i k hk))
  ·rcases List.mem_append.1 hq with hq|hq
   ·obtain⟨t,k2,h1,h2⟩:=ih.2 q hq;exact⟨t,k2,by omega,h2⟩
   ·rw [List.mem_singleton] at hq;subst hq;exact⟨i,k,by omega,hk,hr⟩
def ci4 (F:List Fld) (f:Fld):Prop:=(f.name=nLow->f.kind=2/\∃ g∈F,g.name=nHigh/\g.kind=2)/\(f.name=nSize->f.kind=2)
theorem PlainF.low_ok {p:List Fld} (h:PlainF p) {F:List Fld} (hs:∀ f∈p,f∈F):∀ f∈p,ci4 F f:=by
 cases h with
 | none=>simp
 | low a b c d ha hb hc hd=>
  intro f hf
  simp only [List.mem_cons,List.not_mem_nil,or_false] at hf
  rcases hf with rfl|rfl
  ·exact⟨fun _=>⟨rfl,⟨nHigh,nE,nE,2,c,10+d,[],[]⟩,hs _ (by simp),rfl,rfl⟩,fun _=>rfl⟩
  ·exact⟨fun h=>absurd h (by show ¬ nHigh=nLow;decide +kernel),fun _=>rfl⟩
 | _=>
  intro f hf
  simp only [List.mem_cons,List.not_mem_nil,or_false] at hf
  rcases hf with rfl|rfl<;>refine⟨fun h=>?_,fun h=>?_⟩<;>first|rfl|(exfalso;simp only at h;revert h;decide +kernel)
end
section
open Go
theorem KForm.low {ks:List Knd} {i:Nat} {k:Knd} (h:KForm ks i k):∀ f∈k.fields,ci4 k.fields f:=by
 obtain⟨lo,r,idl,f1,f2,p1,p2,tt,h1,h2,h3,rfl,h5,h6,h7,h8,h9,h10⟩:=h
 intro f hf
 have hnot:∀ n∈[nId,nOf,br7,br8,nBy,aq7],n≠nLow/\n≠nSize:=by decide +kernel
 have no:f.name∈[nId,nOf,br7,br8,nBy,aq7]->ci4 (idF idl::(f1++(f2++(p1++(p2++tt))))) f:=fun hm=>⟨fun e=>absurd e (hnot _ hm).1,fun e=>absurd e (hnot _ hm).2⟩
 have hf0:=hf
 rcases List.mem_cons.1 hf with rfl|hf
 ·exact no (by simp [idF])
 rcases List.mem_append.1 hf with hf|hf
 ·have:=(h5.nms).subset (List.mem_map_of_mem (f:=Fld.name) hf)
  exact no (by simp only [List.mem_cons,List.not_mem_nil,or_false] at this ⊢;rcases this with e|e|e<;>simp [e])
 rcases List.mem_append.1 hf with hf|hf
 ·rcases h6 with rfl|⟨_,rfl⟩
  ·cases hf
  ·rw [List.mem_singleton] at hf;subst hf;exact no (by simp [byN])
 rcases List.mem_append.1 hf with hf|hf
 ·exact h7.low_ok (fun f hf=>by simp [hf]) f hf
 rcases List.mem_append.1 hf with hf|hf
 ·exact h8.low_ok (fun f hf=>by simp [hf]) f hf
 ·have:=(h10.nms).subset (List.mem_map_of_mem (f:=Fld.name) hf)
  exact no (by simp only [List.mem_cons,List.not_mem_nil,or_false] at this ⊢;simp [this])
variable {x:Sch}
theorem HX.ruleNm (H:HX x) {i:Nat} {k:Knd} (hk:x.kinds[i]?=some k) {f:Fld} (hf:f∈k.fields) (h2:f.kind=2):ae4 x k i f.name=false/\ac9 x k i f.name=false:=by
 obtain⟨j,hj⟩:=List.getElem?_of_mem hf
 have e:=aR0 (H.form i k hk).nodup hj
 have ha:atR x i (aa3 k f.name)=(f,true):=by rw [atR,e,fat hk,hj]
 exact⟨by simp [ae4,ha],by simp [ac9,ha,h2]⟩
theorem bA6 (k:Knd) (i:Int):ae4 x k i nE=false/\ac9 x k i nE=false:=by simp [ae4,ac9,eNE]
theorem bi2 {a b c d:Bool} (h1:a=false) (h2:b=false) (h3:c=false) (h4:d=false) {n1 n2 n3 n4:Int}:ak3 [(a,n1),(b,n2),(c,n3),(d,n4)]=0:=by subst h1 h2 h3 h4;rfl
theorem GenX.rule0 (h:GenX x) {n:Nat} {r:Rul} (hr:x.rules[n]?=some r):au3 x n r=0:=by
 have H:=h.hx
 obtain⟨i,_,hc⟩:=h.rs
 have hN:∀ (t:Nat) y,x.kinds[t]?=some y->y.name=knm t:=fun t y hy=>(H.form t y hy).name
 obtain⟨hp,hm⟩:=hc.facts hN H.nk
 obtain⟨t,k,_,hk,hR⟩:=hm r (List.mem_of_getElem? hr)
 have htw:ae1 x n r=false:=by
  unfold ae1
  rw [List.any_eq_false]
  intro s hs e
  obtain⟨m,hm⟩:=List.getElem?_of_mem hs
  have hlt:m<n:=by have:=(List.getElem?_eq_some_iff.1 hm).1;rw [List.length_take] at this;omega
  rw [List.getElem?_take_of_lt hlt] at hm
  obtain⟨l1,e1⟩:=List.getElem?_eq_some_iff.1 hm
  obtain⟨l2,e2⟩:=List.getElem?_eq_some_iff.1 hr
  exact List.pairwise_iff_getElem.1 hp m n l1 l2 hlt (by rw [e1,e2];exact (az8 _ _).1 e)
 have hkr:∀ n:ByteArray,n=k.name->ab1 x n=t:=fun n e=>by rw [e,hN t k hk];exact H.kix hk
 have low:=(H.form t k hk).low
 unfold au3
 cases hR with
 | low n2 hl hn=>
  rw [hkr _ rfl,kat hk]
  obtain⟨f,hf,e⟩:=bh8 hl
  obtain⟨k2,g,hg,e2,g2⟩:=(low f hf).1 e
  have a1:=H.ruleNm hk hf k2
  have a2:=H.ruleNm hk hg g2
  rw [e] at a1;rw [e2] at a2
  exact bi2 htw (by simp only [a1.1,a2.1];rfl) (by simp only [a1.2,a2.2];rfl) (by show seq nLow nHigh=false;decide +kernel)
 | most f2 n2 hl hf2 hn=>
  rw [hkr _ rfl,kat hk]
  obtain⟨f,hf,e⟩:=bh8 hl
  have a1:=H.ruleNm hk hf ((low f hf).2 e)
  have a2:=bA6 (x:=x) k t
  rw [e] at a1
  exact bi2 htw (by simp only [a1.1,a2.1];rfl) (by simp only [a1.2,a2.2];rfl) (by show seq nSize nE=false;decide +kernel)
 | least f2 n2 hl hf2 hn=>
  rw [hkr _ rfl,kat hk]
  obtain⟨f,hf,e⟩:=bh8 hl
  have a1:=H.ruleNm hk hf ((low f hf).2 e)
  have a2:=bA6 (x:=x) k t
  rw [e] at a1
  exact bi2 htw (by simp only [a1.1,a2.1];rfl) (by simp only [a1.2,a2.2];rfl) (by show seq nE nSize=false;decide +kernel)
theorem GenX.valid (h:GenX x):al7 x=true:=by
 have H:=h.hx
 have C:=h.cls
 have hN:∀ (t:Nat) y,x.kinds[t]?=some y->y.name=knm t:=fun t y hy=>(H.form t y hy).name
 simp only [al7,Bool.and_eq_true,List.all_eq_true,decide_eq_true_eq]
 refine⟨⟨⟨⟨⟨⟨?_,?_⟩,?_⟩,?_⟩,fun k hk=>?_⟩,fun l hl=>?_⟩,fun r hr=>?_⟩
 ·have:=h.ver;simp [aa7];omega
 ·have:=H.nk;omega
 ·have:=C.nl;omega
 ·have:=h.nr;omega
 ·obtain⟨i,hi⟩:=List.getElem?_of_mem hk
  have hil:i<=2:=by have:=(List.getElem?_eq_some_iff.1 hi).1;have:=H.nk;omega
  have hnf:=(C.ks k hk).nf
  have hfa:=H.field hi
  simp only [aj3,Bool.and_eq_true,List.all_eq_true,decide_eq_true_eq]
  refine⟨⟨⟨by rw [hN i k hi];exact bb1 hil,?_⟩,hnf⟩,hfa⟩
  obtain⟨lo,r,idl,f1,f2,p1,p2,tt,h1,h2,h3,rfl,_⟩:=H.form i k hi
  simp only [List.mem_cons,List.not_mem_nil,or_false] at h1
  simp [an9];omega
 ·obtain⟨m,mv,hm1,hm2,he,hml,hmq⟩:=h.ls
  rw [he,List.mem_singleton] at hl
  subst hl
  have hlen:(stL.take m).length=m:=by rw [List.length_take];simp;omega
  have hst:(stL.take m).all isNm=true:=by
   rw [List.all_eq_true];intro w hw
   have:=List.mem_of_mem_take hw
   simp only [stL,List.mem_cons,List.not_mem_nil,or_false] at this
   rcases this with rfl|rfl|rfl|rfl<;>decide +kernel
  have hmv:mv.all (moveB m)=true:=by
   rw [List.all_eq_true];intro p hp
   have:=hmq p hp
   simp [moveB,aa7];omega
  have hnl:isNm nLife=true:=by decide +kernel
  simp only [aj9,hlen,hst,hmv,hnl,Bool.true_and,Bool.and_true,Bool.and_eq_true,decide_eq_true_eq,aa7]
  omega
 ·obtain⟨i,_,hc⟩:=h.rs
  obtain⟨_,hm⟩:=hc.facts hN H.nk
  obtain⟨t,k,_,hk,hR⟩:=hm r hr
  have htl:t<=2:=by have:=(List.getElem?_eq_some_iff.1 hk).1;have:=H.nk;omega
  have e1:=bK3 htl (hR.rn (hN t k hk))
  have e2:isNm r.kind=true:=by
   have:r.kind=k.name:=by cases hR<;>rfl
   rw [this,hN t k hk];exact bb1 htl
  have e3:aa7 r.n (-1048576) 1048576=true:=by have:=(C.rs r hr).n;simp [aa7];omega
  have e4:(isE r.a||isNm r.a)=true/\(isE r.b||isNm r.b)=true/\(!(isE r.a&&isE r.b))=true:=by
   cases hR<;>(simp only;decide +kernel)
  simp only [at7,e1,e2,e3,e4.1,e4.2.1,e4.2.2,Bool.and_self]
theorem aH5 {α:Type} {q:Nat} {g:Nat->List α} (h:∀ i,i<q->g i=[]):upTo q g=[]:=by
 unfold upTo
 rw [List.flatMap_eq_nil_iff]
 intro i hi
 exact h i (List.mem_range.1 hi)
theorem GenX.probs0 (h:GenX x):ah6 x=[]:=by
 have H:=h.hx
 have hv:ai3 x=0:=by rw [ai3,h.valid];rfl
 rw [ah6,if_pos hv,aH5,aH5,aH5]
 ·rfl
 ·intro i hi
  unfold aK5
  rw [List.getElem?_eq_getElem hi]
  simp only
  rw [h.rule0 (List.getElem?_eq_getElem hi),one0]
 ·intro i hi
  have hk:=List.getElem?_eq_getElem hi
  unfold ak1
  rw [hk]
  simp only
  generalize x.kinds[i]=k at hk
  have hkE:am6 x i k=0:=by
   have hF:=H.form i k hk
   rw [am6,hF.name,H.kix hk,if_neg (by omega)]
   obtain⟨lo,r,idl,f1,f2,p1,p2,tt,h1,h2,h3,rfl,_⟩:=hF
   rfl
  rw [hkE,one0,List.nil_append,aH5]
  intro j hj
  have hf:=List.getElem?_eq_getElem hj
  unfold ag4
  rw [hf]
  simp only
  generalize k.fields[j]=f at hf
  rw [aG3,aR0 (H.form i k hk).nodup hf,if_neg (by omega),H.leads hk hf,one0]
 ·intro i hi
  obtain⟨m,mv,_,_,he,_⟩:=h.ls
  rw [he] at hi
  obtain rfl:i=0:=by simp at hi;omega
  unfold aM1
  rw [he]
  simp [aB8,one0]
end
section
open Go
theorem bK9 (a b:List Int) (ha:a.length<=1000000) (hb:b.length<=1000000):APure Tryz.prog 25 [slI a,slI b] (bD (decide (a=b))):=by
 refine eP7 Tryz.func25 Tryz.ntmps25 fun BB=>?_
 by_cases hl:a.length=b.length
 ·repeat' first|refine sk2 ?_|(intro b;conv=>whnf)
  refine ae2 mixed aa0 (γ:=Nat) (fun k=>[(5,iD k)]) (fun _=>[]) (fun k=>k<=a.length/\∀ i,i<k->a[i]?=b[i]?) (fun k=>a.length-k) 0 rfl rfl ⟨Nat.zero_le _,fun i h=>by omega⟩ ?_
  rintro k ⟨hk,hno⟩
  by_cases hlt:k<a.length
  ·obtain⟨x,hx⟩:∃ x,a[((k:Nat):Int).toNat]?=some x:=⟨_,List.getElem?_eq_getElem hlt⟩
   obtain⟨y,hy⟩:∃ y,b[((k:Nat):Int).toNat]?=some y:=⟨_,List.getElem?_eq_getElem (by show k<_;omega)⟩
   have hx':a[k]?=some x:=hx
   have hy':b[k]?=some y:=hy
   by_cases he:x=y
   ·repeat' first|refine sk2 ?_|(intro b;conv=>whnf)
    refine⟨k+1,rfl,rfl,⟨by omega,fun i hi=>?_⟩,by omega⟩
    by_cases e:i=k
    ·subst e;rw [hx',hy',he]
    ·exact hno i (by omega)
   ·have hne:a≠b:=fun h=>he (by rw [h,hy'] at hx';cases hx';rfl)
    repeat' first|refine sk2 ?_|(intro b;conv=>whnf)
    refine Rt.pure (congrArg bD ?_)
    exact (decide_eq_false hne).symm
  ·have hab:a=b:=List.ext_getElem? fun i=>by
    by_cases hi:i<k
    ·exact hno i hi
    ·rw [List.getElem?_eq_none_iff.2 (by omega),List.getElem?_eq_none_iff.2 (by omega)]
   repeat' first|refine sk2 ?_|(intro b;conv=>whnf)
   refine Rt.pure (congrArg bD ?_)
   exact (decide_eq_true hab).symm
 ·have hne:a≠b:=fun h=>hl (by rw [h])
  repeat' first|refine sk2 ?_|(intro b;conv=>whnf)
  refine Rt.pure (congrArg bD ?_)
  exact (decide_eq_false hne).symm
end
section
open Go Go.RowKit Go.Shelf
theorem Sc.frzD {α:Type} {R:ORep α} {den:α->D} (hf:Frz R den) {b:Nat} {t:TypeId} {cs:List D} {j:Nat} {x:α} {v:Value} {s τ:aa1} (hj:cs[j]?=some (.v v)) (h:R x v s):Sc ((b,.cells t cs)::(s++τ)) ((b,.cells t (cs.set j (den x)))::τ):=by
 have hsub:∀ z,z∈aa9 ((b,Blk.cells t (cs.set j (den x)))::τ)->z∈aa9 ((b,Blk.cells t cs)::(s++τ)):=fun z hz=>by
  simp only [aa9,List.map_cons,List.map_append,List.mem_cons,List.mem_append] at hz ⊢
  rcases hz with h|h
  ·exact .inl h
  ·exact .inr (.inr h)
 refine⟨fun w X hs=>?_,hsub⟩
 have hO:∀ z,z<w.heap.size->¬ Own ((b,Blk.cells t cs)::(s++τ)) X z->¬ Own ((b,Blk.cells t (cs.set j (den x)))::τ) X z:=fun z _ hn ho=>hn (ho.imp id (hsub z))
 have hp:((b,Blk.cells t cs)::(s++τ)).Perm (s++((b,Blk.cells t cs)::τ)):=List.perm_middle.symm
 have hrow':Rd w (Own ((b,Blk.cells t (cs.set j (den x)))::τ) X) (den x) v:=by
  have e:Own ((b,Blk.cells t (cs.set j (den x)))::τ) X=Own ((b,Blk.cells t cs)::τ) X:=rfl
  rw [e];exact hf x v s _ w X h (hs.perm hp)
 refine⟨?_,fun z kk hm=>?_,hs.xlt,hs.gok.mono (fun z ho=>ho.imp id (hsub z))⟩
 ·have hnd:=hs.nodup
  simp only [aa9,List.map_cons,List.map_append,List.nodup_cons,List.mem_append,List.nodup_append] at hnd ⊢
  exact⟨fun h=>hnd.1 (.inr h),hnd.2.2.1⟩
 ·rcases List.mem_cons.1 hm with e1|hm
  ·cases e1
   obtain⟨h1,o,h2,vs,rfl,h3⟩:=hs.at_ b _ List.mem_cons_self
   refine⟨h1,_,h2,vs,rfl,⟨by rw [List.length_set];exact h3.len,fun i d u hi hu=>?_⟩⟩
   by_cases e2:j=i
   ·subst e2
    rw [List.getElem?_set_self (List.getElem?_eq_some_iff.1 hj).1] at hi
    cases hi
    have:=(h3.at_ j _ u hj hu).val rfl
    rw [this];exact hrow'
   ·rw [List.getElem?_set_ne e2] at hi
    exact aj5 (h3.at_ i d u hi hu) hsub
  ·obtain⟨h1,o,h2,h3⟩:=hs.at_ z kk (List.mem_cons_of_mem _ (List.mem_append_right _ hm))
   exact⟨h1,o,h2,Blk.ok_keep (Nat.le_refl _) hO (fun _ _ _=>rfl) h3⟩
theorem RowsOf.sc {α:Type} {R:ORep α} {den:α->D} (hf:Frz R den) {e:TypeId} {xs:List α} {v:Value} {s:aa1} (h:RowsOf e R xs v s):∃ s',Sc s s'/\RowR e den xs v s':=by
 obtain⟨vs,s0,ts,h1,h2,h3⟩:=h.ex
 have key:∀ {xs:List α} {vs:List Value} {ts:List aa1},All3 R xs vs ts->∀ (done:List D) (s0:aa1),RowR e (fun d:D=>d) (done++vs.map D.v) v s0->∃ s',Sc (s0++ts.flatten) s'/\RowR e (fun d:D=>d) (done++xs.map den) v s':=by
  intro xs vs ts h
  induction h with
  | nil=>intro done s0 hr;exact⟨s0,Sc.perm (by simp),hr⟩
  | @cons y u t xs vs ts h k ih=>
   intro done s0 hr
   obtain⟨b1,cap1,cs1,ev,rfl,hc,hset⟩:=am4 hr (i:=done.length) (b:=D.v u) (by rw [List.getElem?_append_right (Nat.le_refl _)];simp)
   have h5:=hset (den y)
   have e5:(done++(u::vs).map D.v).set done.length (den y)=(done++[den y])++vs.map D.v:=by simp
   rw [e5] at h5
   obtain⟨s',k1,k2⟩:=ih _ _ h5
   exact⟨s',(Sc.frzD hf (t:=e) (τ:=ts.flatten) hc h).trans k1,by simpa using k2⟩
 obtain⟨s',k1,k2⟩:=key h2 [] s0 (by show RowIs _ _ _ _ _;rw [List.nil_append,List.map_map];exact h1)
 exact⟨s',(Sc.perm h3).trans k1,by
  have k3:RowIs e 1 ((([]:List D)++xs.map den).map fun d=>[d]) v s':=k2
  rw [List.nil_append,List.map_map] at k3
  exact k3⟩
end
section
open Go Go.RowKit Go.Shelf
section
variable {P:Program} {r:Option Nat} {n:Nat} {df:Nat} {N:Nat} {σ:aa1} {a:List D} {f:Frm} {T:TypeId->Option TI} {L:List Oper} {Q:Fst} {ρ:Operand->D}
theorem Vs.sc {σ τ:aa1} (h:Sc σ τ) (d:D):Vs σ d τ d:=⟨fun w X _ hs hr=>⟨h.run w X hs,aj5 hr h.sub⟩,h.sub⟩
theorem Sc.any {b:Nat} {e:TypeId} {cs cs':List D} {τ:aa1} (hl:cs'.length=cs.length) (h:∀ (i:Nat) d',cs'[i]?=some d'->d' = .any\/cs[i]?=some d'):Sc ((b,.cells e cs)::τ) ((b,.cells e cs')::τ):=by
 refine⟨fun w X hs=>⟨hs.nodup,fun x kk hm=>?_,hs.xlt,hs.gok⟩,fun b hb=>hb⟩
 rcases List.mem_cons.1 hm with e1|hm
 ·cases e1
  obtain⟨h1,o,h2,vs,rfl,h3⟩:=hs.at_ b _ List.mem_cons_self
  exact⟨h1,_,h2,vs,rfl,⟨by rw [h3.len,hl],fun i d u hi hu=>by
   rcases h i d hi with rfl|h'
   ·exact .any u
   ·exact h3.at_ i d u h' hu⟩⟩
 ·exact hs.at_ x kk (List.mem_cons_of_mem _ hm)
end
end
section
open Go Go.RowKit Go.Shelf
def aG6 (w:Wd) (n:Nat):Wd:=w.set (w.length-1) ((w.getD (w.length-1) []).drop n++(w.getD (w.length-1) []).take n)
theorem aT0 (w:Wd) (n:Nat):Alk w (aG6 w n) where
 len:=by simp [aG6]
 same k hk:=by
  unfold aG6
  rw [List.getD_eq_getElem?_getD,List.getElem?_set_ne (by omega),← List.getD_eq_getElem?_getD]
 perm k:=by
  unfold aG6
  by_cases h:w.length-1=k
  ·subst h
   by_cases h0:w.length-1<w.length
   ·rw [List.getD_eq_getElem?_getD,List.getElem?_set_self h0]
    simp only [Option.getD_some]
    exact List.perm_append_comm.trans (List.Perm.of_eq (List.take_append_drop n _))
   ·have:w=[]:=List.length_eq_zero_iff.1 (by omega)
    subst this;simp
  ·rw [List.getD_eq_getElem?_getD,List.getElem?_set_ne h,← List.getD_eq_getElem?_getD]
theorem by2 {w:Wd} (hw:Ws w) (k:Nat):(w.getD k []).length<=1000/\∀ r∈w.getD k [],r.length<=1000:=by
 rw [List.getD_eq_getElem?_getD]
 cases h:w[k]? with
 | none=>simp
 | some l=>exact⟨hw.nr l (List.mem_of_getElem? h),hw.nf l (List.mem_of_getElem? h)⟩
theorem bY8 {w:Wd} (hw:Ws w) (n:Nat):Ws (aG6 w n) where
 nk:=by rw [(aT0 w n).len];exact hw.nk
 nr l hl:=by
  rcases List.mem_or_eq_of_mem_set hl with h|rfl
  ·exact hw.nr l h
  ·have h1:=(by2 hw (w.length-1)).1
   rw [List.length_append,List.length_drop,List.length_take];omega
 nf l hl r hr:=by
  rcases List.mem_or_eq_of_mem_set hl with h|rfl
  ·exact hw.nf l h r hr
  ·have h1:=(by2 hw (w.length-1)).2
   exact (List.mem_append.1 hr).elim (fun h=>h1 r (List.mem_of_mem_drop h)) (fun h=>h1 r (List.mem_of_mem_take h))
theorem bq6 {x:Sch} (hp:ah6 x=[]) (w:Wd) (n:Nat):am1 (ak4 x (aG6 w n))=am1 (ak4 x w):=by
 unfold am1
 exact List.map_congr_left fun c _=>by rw [(aT0 w n).codes hp]
theorem bX9 {P:Program} {ρ:Operand->D} {σ:aa1} {o:Oper} {t t':TypeId} {x y:Operand} {p:Bool} (ho:o.op = .binOp .eql t x y t') (hx:ρ x = .v (.bool p)) (hy:ρ y = .v (.bool p)) (ht:P.underlying t=some .bool):Yd P o ρ σ (bD true):=by
 have h:=cj1 (σ:=σ) ho hx hy ht
 rw [beq_self_eq_true] at h
 exact h
theorem bV4 (l:List (List Int)):((l.map fun r=>[slI r]).all fun y=>y.all oneD)=true:=by
 rw [List.all_eq_true];intro y hy;obtain⟨c,_,rfl⟩:=List.mem_map.1 hy;rfl
theorem co8 (n:Nat) (l:List (List Int)):((List.take ((n:Nat):Int).toNat (l.map fun r=>[slI r])).all fun y=>y.all oneD)=true:=by
 rw [← List.map_take];exact bV4 _
theorem be0 {x:Sch} {w:Wd} (hw:Ws w) (hp:ah6 x=[]):(ak4 x w).length<=100000000:=by
 unfold ak4
 by_cases hfit:fitW x w=true
 ·rw [if_pos hfit]
  obtain⟨hlen,hrows,hrefs⟩:=ak8 hfit
  have hV:=(aF0 hp).vld
  have h1:=ab9 (aB9 x w) w.length
  have h2:=ab9 (aW3 (x:=x) (by have:=hV.nr;omega) (w:=w) hrows (fun k hk=>by have:=hV.nf k hk;omega)) w.length
  have h3:=ab9 (aN0 (x:=x) hw) (aa4 x).length
  have h4:=aH8 hV
  have h5:=hw.nk
  simp only [List.length_append]
  omega
 ·rw [if_neg hfit];decide
theorem ba2 (l:List Int) (hl:I64s l):ASome Tryz.prog 6 [slI l] (fun d=>∃ x,d=schD x/\GenX x):=
 ASome.of_call ((br2 l hl).imp fun d σ ⟨x,e,_,h⟩=>⟨x,e,h⟩)
abbrev RWF:ORep Wd:=RowR 62 slW1
theorem br1 (w:Wd) (hw:WTiny w):ACall Tryz.prog 23 [slW w] [] (fun d s=>∃ v,d = .v v/\RWF w v s):=
 ACall.vs3 (R:=fun d s=>∃ v,d = .v v/\RW w v s) (by6 w hw) fun d σ ⟨v,e,h⟩=>by
  subst e
  obtain⟨s',h1,h2⟩:=h.sc bW6
  exact⟨_,s',Vs.sc h1 _,v,rfl,h2⟩
theorem sk130 {A B:Prop} (k:B) (h:Hd7 B->A:=by intro hk7q;(first|refine sb0 ?_|refine sb1 ?_|((with_reducible refine' Cp.by ?hc ?_);(case hc=>first|exact HQ))|((with_reducible refine' CE.pure ?hc ?_);(case hc=>first|exact HQ)));exact hk7q.run):A:=h ⟨k⟩
theorem sk131 {A B:Prop} (k:B) (h:Hd7 B->A:=by intro hk7q;(first|refine sb0 ?_|refine sb75 ?_|((with_reducible refine' Cp.by ?hc ?_);(case hc=>exact HA))|((with_reducible refine' CE.pure ?hc ?_);(case hc=>exact HA)));exact hk7q.run):A:=h ⟨k⟩
theorem sk132 {A B:Prop} (k:B) (h:Hd7 B->A:=by intro hk7q;(first|refine sb0 ?_|refine sb75 ?_|((with_reducible refine' Cp.by ?hc ?_);(case hc=>first|exact HA1|exact HL|exact HC1|exact HC2|exact HD1|exact HD2|exact HS))|((with_reducible refine' CE.pure ?hc ?_);(case hc=>first|exact HA1|exact HL|exact HC1|exact HC2|exact HD1|exact HD2|exact HS)));exact hk7q.run):A:=h ⟨k⟩
theorem sk133 {A B:Prop} (k:B) (h:Hd7 B->A:=by intro hk7q;(first|refine sb0 ?_|refine sb106 ?_|((with_reducible refine' Cp.by ?hc ?_);(case hc=>first|exact HA1|exact HL|exact HC1|exact HC2|exact HD1|exact HD2|exact HS))|((with_reducible refine' CE.pure ?hc ?_);(case hc=>first|exact HA1|exact HL|exact HC1|exact HC2|exact HD1|exact HD2|exact HS)));exact hk7q.run):A:=h ⟨k⟩
theorem sq12 {A B:Prop} (k:B) (h:Hd7 B->A:=by intro hk7q;(first|refine sk133 ?_|(with_reducible refine Br.dt trivial ?_)|(with_reducible refine Br.t (beq_self_eq_true _) ?_));exact hk7q.run):A:=h ⟨k⟩
theorem bC5 (l m k:List Int) (turn:Int) (hl:I64s l) (hm:I64s m) (hk:I64s k) (ht:I64n turn):APure Tryz.prog 4 [slI l,slI m,slI k,iD turn] (bD true):=by
 refine eP7 Tryz.func4 Tryz.ntmps4 fun BB=>?_
 repeat' first|refine sk2 ?_|(intro b;conv=>whnf)
 refine CE.some (ba2 l hl) ?_
 rintro _ ⟨x,rfl,hgx⟩
 have hp:=hgx.probs0
 have hnk:=hgx.nk
 have HV:=aZ2 x hgx.cls.good
 have hnf:∀ k∈x.kinds,k.fields.length<=50:=fun k hk=>by have:=(hgx.ks.ck hgx.nk.2 k hk).ck.nf;omega
 have hsb:SchB x:=⟨by omega,fun k hk=>by have:=hnf k hk;omega,fun kd hkd=>by
  obtain⟨j,hj⟩:=List.getElem?_of_mem hkd
  obtain⟨d,h,_⟩:=aZ1 hp hj
  have:=(List.getElem?_eq_some_iff.1 h).1
  omega⟩
 repeat' first|refine sk2 ?_|(intro b;conv=>whnf)
 obtain⟨bx,rfl⟩:∃ bx,bx=b:=⟨_,rfl⟩
 refine CE.some (by7 x (by omega) hnf m hm) ?_
 rintro _ ⟨w,rfl,hw⟩
 repeat' first|refine sk2 ?_|(intro b;conv=>whnf)
 refine CE.some (bL1 x hsb (by omega) k hk) ?_
 rintro _ ⟨q,rfl,hq⟩
 have HQ:=bC6 q (by have:=hq.size;omega)
 repeat' first|refine sk130 ?_|(intro b;conv=>whnf)
 obtain⟨bq,rfl⟩:∃ bx,bx=b:=⟨_,rfl⟩
 refine CE.own (br1 w hw) (List.Perm.refl ([]++_)) (fun s'=>s'++_) (fun s'=>List.Perm.refl _) ?_
 rintro _ s ⟨v,rfl,hR⟩
 have hwk:=hw.k
 by_cases hw0:w.length=0
 ·obtain⟨va,vc,rfl⟩:=by1 hR
  have HL:=bv0
  repeat' first|refine sk127 ?_|(intro b;conv=>whnf)
  exact Rt.pure rfl
 ·have hl0:w.length-1<w.length:=by omega
  obtain⟨ll,hll⟩:∃ y,w[w.length-1]?=some y:=⟨_,List.getElem?_eq_getElem hl0⟩
  obtain⟨b0,cap0,cs0,rfl,rfl,hc0,hset⟩:=am4 hR hll
  have hln:=hw.n ll (List.mem_of_getElem? hll)
  have hlm:(ll.map fun r=>[slI r]).length=ll.length:=List.length_map ..
  obtain⟨kl,hkl⟩:∃ kl:Nat,kl=w.length-1:=⟨_,rfl⟩
  have hkl1:(w.length:Int)-1=(kl:Int):=by omega
  rw [← hkl] at hc0 hset hll
  have HA:=aQ1 turn ((ll.length:Int)+1) ht
  obtain⟨hn1,hn2,_⟩:=bX2 turn ((ll.length:Int)+1)
  have hn3:=hn2 (by omega)
  obtain⟨n,hn⟩:∃ n:Nat,arE turn ((ll.length:Int)+1)=n:=⟨(arE turn ((ll.length:Int)+1)).toNat,by omega⟩
  rw [hn] at HA hn1 hn3
  clear hn hn2
  rw [← hlm] at HA
  have ixk:0+((w.length:Int)-1).toNat*1=kl:=by omega
  repeat' first|refine sk69 ?_|(intro b;conv=>whnf)
  (refine Ld.cellm (tb:=62) (cs:=cs0) (by simp) (by rw [ixk];exact hc0) ?_)
  repeat' first|refine sk131 ?_|(intro b;conv=>whnf)
  refine dr7 ?_
  refine ah2 mixed aa0 rfl [0,1,3,4,5,7,10,11,12,14] 9 (inE [2,6,9,13,16,18]) (.three 2 (.two 6 (.fst 8 (.two 9 (.one 13 (.fst 15 (.one 16 (.fst 17 (.one 18 .done))))) 13 (.fst 15 (.one 9 (.one 16 (.fst 17 (.one 18 .done))))))) 13 (.fst 15 (.one 6 (.fst 8 (.one 9 (.one 16 (.fst 17 (.one 18 .done)))))))) 6 (.fst 8 (.two 2 (.two 9 (.one 13 (.fst 15 (.one 16 (.fst 17 (.one 18 .done))))) 13 (.fst 15 (.one 9 (.one 16 (.fst 17 (.one 18 .done)))))) 13 (.fst 15 (.one 2 (.one 9 (.one 16 (.fst 17 (.one 18 .done)))))))) 13 (.fst 15 (.two 2 (.one 6 (.fst 8 (.one 9 (.one 16 (.fst 17 (.one 18 .done)))))) 6 (.fst 8 (.one 2 (.one 9 (.one 16 (.fst 17 (.one 18 .done))))))))) (γ:=Unit) (fun _=>[]) (fun _=>(b0,.cells 62 (cs0.set kl (slW1 (ll.drop n++ll.take n))))::[(bq,Blk.cells 53 (qryC q)),(bx,Blk.cells 28 (schC x))]) (fun _=>True) (by decide +kernel) ?_ ?_
  ·repeat' first|refine sk131 ?_|(intro b;conv=>whnf)|(refine And.intro ?_ ?_<;>(conv=>whnf))|(refine Ld.cellm (tb:=62) (cs:=cs0) (by simp) (by rw [ixk];exact hc0) ?_)|(refine Ot.yd (bX5 aa0 (l:=n) (h:=ll.length) (ys:=(ll.drop n).map fun r=>[slI r]) rfl rfl rfl rfl rfl (.inr ⟨_,_,_,rfl,rfl,rfl⟩) (.inl ⟨rfl,by simp⟩) (by omega) (by simp) (by rw [List.take_of_length_le (by simp),List.map_drop])) ?_)|(refine Ap.go rfl rfl rfl rfl hr5 (τ:=[(b0,.cells 62 cs0),(bq,Blk.cells 53 (qryC q)),(bx,Blk.cells 28 (schC x))]) (List.Perm.refl _) (co8 n ll) (zs:=(ll.drop n++ll.take n).map fun r=>[slI r]) (by rw [List.map_append,Int.toNat_natCast,← List.map_take]) (by simp;omega) (by simp;omega) (fun s'=>(b0,.cells 62 cs0)::(s'++[(bq,Blk.cells 53 (qryC q)),(bx,Blk.cells 28 (schC x))])) (fun s'=>by refine ad8 fun a=>?_;simp only [List.append_eq,List.nil_append,ad9,ah8,ah7];omega) (fun a6 c6 s6 hr6=>?_))|(refine Ap.go rfl rfl rfl rfl (RowIs.e0 22 1 (some ⟨b,0,none⟩)) (List.Perm.refl ([]++_)) (bV4 _) (zs:=(ll.drop n).map fun r=>[slI r]) rfl (by simp;omega) (by simp;omega) (fun s'=>s'++_) (fun s'=>List.Perm.refl _) (fun a5 c5 s5 hr5=>?_))|(refine Sv.cellm (tb:=62) (cs:=cs0) (cs':=cs0.set kl (.v (.slice a6 ((ll.drop n++ll.take n).map fun r=>[slI r]).length c6))) (τ:=s6++[(bq,Blk.cells 53 (qryC q)),(bx,Blk.cells 28 (schC x))]) (List.Perm.refl _) (by rw [ixk];exact (List.getElem?_eq_some_iff.1 hc0).1) rfl (by rw [ixk]) ?_)
   all_goals
    have hfz:=Sc.frz (b:=b0) (t:=62) (τ:=[(bq,Blk.cells 53 (qryC q)),(bx,Blk.cells 28 (schC x))]) (List.getElem?_set_self (a:=D.v (.slice a6 ((ll.drop n++ll.take n).map fun r=>[slI r]).length c6)) (List.getElem?_eq_some_iff.1 hc0).1) hr6 (LeR.refl _)
    rw [List.set_set] at hfz
    exact⟨(),(aa2 cl3),hfz,trivial⟩
  ·rintro - -
   have hR2:=hset (ll.drop n++ll.take n)
   have htw:w.set kl (ll.drop n++ll.take n)=aG6 w n:=by
    unfold aG6
    rw [← hkl,List.getD_eq_getElem?_getD,hll];rfl
   rw [htw] at hR2
   have hws:Ws w:=⟨by omega,fun l hl=>by have:=hw.n l hl;omega,fun l hl r hr=>by have:=hw.f l hl r hr;omega⟩
   have hwu:=bY8 hws n
   have HA1:=aY2 x w q hws hp (by have:=hq.size;omega) (by have:=hq.path;omega) hq.all HV
   have HA2:=aY2 x (aG6 w n) q hwu hp (by have:=hq.size;omega) (by have:=hq.path;omega) hq.all HV
   rw [(aT0 w n).answer q] at HA2
   have HC1:=bd9 x w hws hp HV
   have HC2:=bd9 x (aG6 w n) hwu hp HV
   have HD1:=bb8 (ak4 x w) (be0 hws hp)
   have HD2:=bb8 (ak4 x (aG6 w n)) (be0 hwu hp)
   rw [bq6 hp w n] at HD2
   have HS:=bK9 (am1 (ak4 x w)) (am1 (ak4 x w)) (by rw [ao7];decide) (by rw [ao7];decide)
   rw [decide_eq_true rfl] at HS
   have HL:=bv0
   generalize ao8 x w q=an at HA1 HA2
   generalize am1 (ak4 x w)=cd at HD1 HD2 HS
   repeat' first|refine sk132 ?_|(intro b;conv=>whnf)
   refine CE.pk (APk.peek (.cons (Pk.same _) (.cons (Pk.frz (bE4 62 1 _) hR2 (List.Perm.refl ([_]++_))) (.cons (Pk.same _) .nil))) HA2 rfl) ?_
   repeat' first|refine sk132 ?_|(intro b;conv=>whnf)
   (refine Dr.r ?_;refine W.mk ?_)
   refine af2 (i:=12) (d:=.v (.slice (some ⟨b0,0,none⟩) w.length cap0)) (d':=slW (aG6 w n)) (τ:=[(bq,Blk.cells 53 (qryC q)),(bx,Blk.cells 28 (schC x))]) rfl (fun h=>by cases h) (Vs.row hR2 (List.Perm.refl ([_]++_))) ?_
   refine af2 (i:=9) (d:=.v (.pointer (some ⟨bx,0,none⟩))) (d':=.ro (schC x)) (τ:=[(bq,Blk.cells 53 (qryC q))]) rfl (fun h=>by cases h) (Vs.ptr (tb:=28) (List.Perm.swap _ _ _)) ?_
   refine ao2 mixed aa0 ?_
   obtain⟨a1,a2,a3⟩:=an
   simp only
   repeat' first|refine sq12 ?_|(intro b;conv=>whnf)|((with_reducible refine' Ot.yd ?hydn ?_);(case hydn=>exact bX9 rfl rfl rfl Tryz.underlying4))
   exact Rt.pure rfl
end
section
open Go Go.Maps Go.MapKept Go.WideElems Go.ChangeShapes Go.WideShapes
set_option maxRecDepth 100000
abbrev laidL:List (String × DataW Unit):=[("math/bits.deBruijn32tab",Rows.laid_math_bits_deBruijn32tab),("math/bits.deBruijn64tab",Rows.laid_math_bits_deBruijn64tab),("internal/strconv.uint64pow10",Rows.laid_internal_strconv_uint64pow10),("diorama/schema.words",Rows.laid_diorama_schema_words),("diorama/typing.checks",Rows.laid_diorama_typing_checks)]
theorem cu1:Tryz.prog.cellsOf 9=1:=by kernel_rfl
theorem cx5:Tryz.prog.cellsOf 167=1:=by kernel_rfl
theorem cx6:Tryz.prog.cellsOf 347=20:=by kernel_rfl
theorem c_fn:Tryz.prog.cellsOf 243=1:=by kernel_rfl
theorem cx7:Tryz.prog.cellsOf 244=1:=by kernel_rfl
theorem g_pow:Tryz.prog.globalNamed "internal/strconv.uint64pow10" = some 5:=by kernel_rfl
theorem g_words:Tryz.prog.globalNamed "diorama/schema.words" = some 3:=by kernel_rfl
theorem g_chk:Tryz.prog.globalNamed "diorama/typing.checks" = some 0:=by kernel_rfl
theorem t_pow:(Tryz.prog.globals[5]?).map (·.type)=some 347:=by kernel_rfl
theorem t_words:(Tryz.prog.globals[3]?).map (·.type)=some 336:=by kernel_rfl
theorem t_chk:(Tryz.prog.globals[0]?).map (·.type)=some 246:=by kernel_rfl
theorem bL8:(Rows.laid_internal_strconv_uint64pow10:DataW Unit)=Lib.tabData .u64 Lib.pow10Tab:=by rfl
theorem aE1 {W:World} (h:laidMetH Tryz.prog laidL W) {n:String} {d:DataW Unit} (hm:(n,d)∈laidL.filter fun x=>x.2.handleName?.isNone):Lib.VarReads Tryz.prog W n d:=Lib.laidMet.reads (laidMetH_iff.1 h).1 hm
theorem bM5:(Rows.laid_internal_strconv_uint64pow10:DataW Unit).handleName?.isNone=true:=rfl
theorem br6:(Rows.laid_diorama_schema_words:DataW Unit).handleName?.isNone=true:=rfl
theorem bN8 {W:World} (h:laidMetH Tryz.prog laidL W):Pow10 W:=by
 obtain⟨g,t,cs,fuel,p,hg,ht,hv,hd⟩:=aE1 h (n:= "internal/strconv.uint64pow10") (d:=Rows.laid_internal_strconv_uint64pow10) (List.mem_filter.2 ⟨by simp [laidL],bM5⟩)
 obtain rfl:=Option.some.inj (g_pow.symm.trans hg)
 obtain rfl:=Option.some.inj (t_pow.symm.trans ht)
 rw [bL8] at hd
 unfold Pow10 Lib.TabIs
 rw [hv,← Lib.cells_of_tab Tryz.underlying347 Tryz.underlying167 cx5 cx6 hd]
theorem bs3 {W:World} (h:laidMetH Tryz.prog laidL W):WordsAt W:=by
 obtain⟨g,t,cs,fuel,p,hg,ht,hv,hd⟩:=aE1 h (n:= "diorama/schema.words") (d:=Rows.laid_diorama_schema_words) (List.mem_filter.2 ⟨by simp [laidL],br6⟩)
 obtain rfl:=Option.some.inj (g_words.symm.trans hg)
 obtain rfl:=Option.some.inj (t_words.symm.trans ht)
 obtain⟨xs,m1,rfl,hx1,hlen,hn3,hel⟩:=DataW.trod_array Tryz.underlying336 hd
 intro i s hi
 have hi9:i<9:=(List.getElem?_eq_some_iff.1 hi).1
 have hE:=hel i hi9
 obtain⟨y,hy⟩:∃ y,xs[i]?=some y:=⟨xs[i]'(by omega),List.getElem?_eq_getElem (by omega)⟩
 rw [hy,cu1] at hE
 obtain⟨s',e1,e2,_⟩:=DataW.trod_string Tryz.underlying9 hE
 have hc:=World.var?_cell g_words hv i
 have e3:cs[i]?=some (.string s'):=by
  have:=congrArg (·[0]?) e1
  simpa [List.getElem?_take,List.getElem?_drop] using this
 rw [e3] at hc
 rw [hc]
 have e4:(xs.map (·.1))[i]?=some (.lit (.string s'.data.toList)):=by rw [List.getElem?_map,hy,e2];rfl
 have e5:=congrArg Prod.fst hx1
 simp only [Rows.laid_diorama_schema_words,DataW.agg.injEq] at e5
 rw [← e5] at e4
 have key:s'.data.toList=s.data.toList:=by
  have:i=0\/i=1\/i=2\/i=3\/i=4\/i=5\/i=6\/i=7\/i=8:=by omega
  rcases this with rfl|rfl|rfl|rfl|rfl|rfl|rfl|rfl|rfl<;>(simp at hi e4;subst hi;rw [← e4])
 have:s'=s:=by
  obtain⟨a⟩:=s';obtain⟨b⟩:=s
  congr 1
  exact Array.toList_inj.1 key
 rw [this]
abbrev nmB (d:UInt8):List UInt8:=[100,105,111,114,97,109,97,47,116,121,112,105,110,103,46,99,104,101,99,107,115,36,d]
abbrev chkE:List (Lit × DataW (List UInt8)):=[(.int .i64 0,.agg [.held (nmB 49)]),(.int .i64 1,.agg [.held (nmB 50)]),(.int .i64 4,.agg [.held (nmB 51)]),(.int .i64 5,.agg [.held (nmB 52)]),(.int .i64 6,.agg [.held (nmB 53)]),(.int .i64 7,.agg [.held (nmB 54)]),(.int .i64 8,.agg [.held (nmB 55)])]
theorem ct6 {W:World} {n:Nat} {v:Value} {z:DataW (List UInt8) × List MemPlace} {d:UInt8} {f0:FuncId} (h:elemAt (funcToken Tryz.prog) Tryz.prog W 0 (fun _=>true) true n 244 v=some z) (hz:z.1 = .agg [.held (nmB d)])
  (hone:((List.range Tryz.prog.funcs.size).filter fun f=>(Tryz.prog.funcs[f]?).any (·.name.toUTF8.data.toList==nmB d))=[f0]):v = .agg #[chkV f0]:=by
 unfold elemAt at h
 split at h
 ·rename_i hf
  obtain⟨xs,m,rfl,hx,hl,hn,hel⟩:=DataW.trod_struct Tryz.underlying244 h
  rw [cx7] at hl
  have h0:=hel 0 _ rfl
  obtain⟨y,hy⟩:∃ y,xs[0]?=some y:=⟨xs[0]'(by rw [hn];decide),List.getElem?_eq_getElem _⟩
  simp only [hy,c_fn,List.drop_zero] at h0
  rw [hx] at hz
  simp only [DataW.agg.injEq] at hz
  have hy1:y.1 = .held (nmB d):=by
   have:(xs.map (·.1))[0]?=some y.1:=by rw [List.getElem?_map,hy];rfl
   rw [hz] at this
   simpa using this.symm
  match hc:v.cells.toList,hl with
  | [c],_=>
   rw [hc] at h0
   simp only [List.getElem_toArray,List.getElem_cons_zero,List.drop_zero,c_fn,List.take_succ_cons,List.take_zero] at h0
   obtain⟨y1,y2⟩:=y
   simp only at hy1
   subst hy1
   have e:=func_of_trod Tryz.underlying243 hone h0
   subst e
   unfold Value.formed at hf
   rw [Tryz.underlying244] at hf
   cases v with
   | agg cs=>
    simp only [Value.cells] at hc
    obtain⟨l⟩:=cs
    simp only at hc
    rw [hc];rfl
   | _=>simp at hf
 ·cases h
theorem bh0 {W:World} (h:laidMetH Tryz.prog laidL W):∃ r,W.cell? ⟨0,0,none⟩=some (.map (some r))/\MapIs Tryz.prog 3 W r 7 (aggF chkM):=by
 obtain⟨g,t,cs,fuel,p,hg,ht,hv,hd⟩:=h.funcs (n:= "diorama/typing.checks") (by unfold laidL Rows.laid_diorama_typing_checks;simp only [List.mem_cons];exact .inr (.inr (.inr (.inr (.inl rfl)))))
 obtain rfl:=Option.some.inj (g_chk.symm.trans hg)
 obtain rfl:=Option.some.inj (t_chk.symm.trans ht)
 have hd':DataW.trod (funcToken Tryz.prog) Tryz.prog W 0 (fun _=>true) true fuel 246 cs.toList=some (.map chkE,p):=hd
 rcases open_map Tryz.underlying246 hd' with ⟨_,hx⟩|⟨bm,es,clock,m,rfl,hcs,hb,_,F,hx⟩
 ·simp at hx
 simp only [Prod.mk.injEq,DataW.map.injEq] at hx
 have hp:=hx.1 ▸ sorted_perm (es.toList.map (rg Tryz.prog 3 (elemAt (funcToken Tryz.prog) Tryz.prog W 0 (fun _=>true) true m 244)))
 have hcell:=World.var?_cell hg hv 0
 rw [Array.eq_one_of_toList hcs] at hcell
 have hsz:es.size=7:=by have:=hp.length_eq;simpa using this.symm
 have one:∀ e∈es.toList,aggF chkM e.key=some e.val:=fun e he=>by
  obtain⟨y,hy⟩:=F.reads e he
  have hm:y∈chkE:=hp.mem_iff.2 (List.mem_map.2 ⟨e,he,rg_of hy⟩)
  have hk:=rd_key hy
  obtain⟨z,hz1,hz2⟩:=rd_val hy
  obtain⟨q,e1,e2,_⟩:=keyOf_int_inv Tryz.underlying3 hk
  simp only [chkE,List.mem_cons,List.not_mem_nil,or_false] at hm
  rcases hm with rfl|rfl|rfl|rfl|rfl|rfl|rfl<;>(cases e2;rw [e1,ct6 hz1 hz2.symm (by kernel_rfl)];rfl)
 refine⟨bm,by simpa using hcell,es,clock,hb,⟨by omega,F.stamped,F.keys,one,fun key v hkv=>?_⟩⟩
 have back:∀ (n:Int) d,(Lit.int .i64 n,d)∈chkE->∃ e∈es.toList,e.key = .int .i64 n:=fun n d hm=>by
  obtain⟨e,he,hr⟩:=List.mem_map.1 (hp.mem_iff.1 hm)
  obtain⟨y,hy⟩:=F.reads e he
  rw [rg_of hy] at hr
  have hk:=rd_key hy
  rw [hr] at hk
  obtain⟨q,e1,e2,_⟩:=keyOf_int_inv Tryz.underlying3 hk
  simp only at e2
  cases e2
  exact⟨e,he,e1⟩
 have fin:∀ (n:Int) d,(Lit.int .i64 n,d)∈chkE->key = .int .i64 n->∃ e∈es.toList,e.key=key/\e.val=v:=fun n d hm hk=>by
  obtain⟨e,he,e1⟩:=back n d hm
  have:=one e he
  rw [e1,← hk,hkv] at this
  exact⟨e,he,by rw [e1,hk],(Option.some.inj this).symm⟩
 unfold aggF chkM at hkv
 split at hkv
 ·exact fin 0 (.agg [.held (nmB 49)]) (by simp [chkE]) rfl
 ·exact fin 1 (.agg [.held (nmB 50)]) (by simp [chkE]) rfl
 ·exact fin 4 (.agg [.held (nmB 51)]) (by simp [chkE]) rfl
 ·exact fin 5 (.agg [.held (nmB 52)]) (by simp [chkE]) rfl
 ·exact fin 6 (.agg [.held (nmB 53)]) (by simp [chkE]) rfl
 ·exact fin 7 (.agg [.held (nmB 54)]) (by simp [chkE]) rfl
 ·exact fin 8 (.agg [.held (nmB 55)]) (by simp [chkE]) rfl
 ·cases hkv
theorem cj9 {W:World} {n:String} {g:Nat} {cs:Array Value} (hg:Tryz.prog.globalNamed n=some g) (hv:W.var? Tryz.prog n=some cs):g<W.heap.size:=by
 unfold World.var? at hv
 rw [hg] at hv
 simp only [Option.bind_some] at hv
 cases hb:W.heap[g]? with
 | none=>rw [hb] at hv;simp at hv
 | some o=>exact (Array.getElem?_eq_some_iff.1 hb).1
theorem bO0 {W:World} (h:laidMetH Tryz.prog laidL W):GOK W (fun _=>False):=by
 obtain⟨g,t,cs,fuel,p,hg,ht,hv,hd⟩:=aE1 h (n:= "math/bits.deBruijn64tab") (d:=Rows.laid_math_bits_deBruijn64tab) (List.mem_filter.2 ⟨by simp [laidL],rfl⟩)
 have hlt:=cj9 hg hv
 obtain rfl:=Option.some.inj ((show Tryz.prog.globalNamed "math/bits.deBruijn64tab" = some 7 by kernel_rfl).symm.trans hg)
 obtain⟨r,h1,h2⟩:=bh0 h
 exact⟨fun _ h=>h.elim,hlt,fun _ _ h=>h,bN8 h,bs3 h,r,h1,fun h=>h,h2⟩
end
section
open Go Go.ChangeShapes Go.WideShapes Go.ChangeAt Go.RowKit
set_option maxRecDepth 100000
theorem cu2:Tryz.prog.cellsOf 3=1:=by kernel_rfl
theorem cx8:Tryz.prog.bytesOf 3=8:=by kernel_rfl
inductive ArgD:TypeId->D->Prop
 | int (n:Int) (h:I64n n):ArgD 3 (iD n)
 | ints (l:List Int) (h:I64s l):ArgD 22 (slI l)
inductive ArgsD:List TypeId->List D->Prop
 | nil:ArgsD [] []
 | cons {t:TypeId} {d:D} {ts:List TypeId} {ds:List D} (h:ArgD t d) (k:ArgsD ts ds):ArgsD (t::ts) (d::ds)
theorem ArgD.int_inv {d:D} (h:ArgD 3 d):∃ n,I64n n/\d=iD n:=by
 generalize hq:3=q at h
 cases h with
 | int n h=>exact⟨n,h,rfl⟩
 | ints l h=>exact absurd hq (by decide)
theorem ArgD.ints_inv {d:D} (h:ArgD 22 d):∃ l,I64s l/\d=slI l:=by
 generalize hq:22=q at h
 cases h with
 | int n h=>exact absurd hq (by decide)
 | ints l h=>exact⟨l,h,rfl⟩
theorem ArgsD.nil_inv {ds:List D} (h:ArgsD [] ds):ds=[]:=by cases h;rfl
theorem ArgsD.int_inv {ts:List TypeId} {ds:List D} (h:ArgsD (3::ts) ds):∃ n ds',I64n n/\ds=iD n::ds'/\ArgsD ts ds':=by
 cases h with
 | cons h k=>obtain⟨n,hn,rfl⟩:=h.int_inv;exact⟨n,_,hn,rfl,k⟩
theorem ArgsD.ints_inv {ts:List TypeId} {ds:List D} (h:ArgsD (22::ts) ds):∃ l ds',I64s l/\ds=slI l::ds'/\ArgsD ts ds':=by
 cases h with
 | cons h k=>obtain⟨n,hn,rfl⟩:=h.ints_inv;exact⟨n,_,hn,rfl,k⟩
theorem bW5 {n:Int} (h:(Lit.int .i64 n).wf=true):I64n n:=by
 simp only [Lit.wf,Bool.and_eq_true,decide_eq_true_eq] at h
 exact⟨h.1,h.2⟩
section
variable {H:Type} {enc:TypeId × Value->H} {W:World}
theorem bR4 {t:TypeId} {v:Value} {d:DataW H} {ps:List MemPlace} {base:Nat} (ht:t=3\/t=22) (hv:Value.okWide Tryz.prog W .any base t v)
  (h:DataW.Trod enc Tryz.prog W 0 (fun _=>true) true t v d ps) (hw:∀ n∈d.weights Tryz.prog t,n<=reachBytes) :
  (∃ x,ArgD t x/\Rd W (fun _=>False) x v)/\∀ W',Ex W W'->∀ sp:Nat->Bool,(∀ p∈ps,sp p.block=true)->DataW.Trod enc Tryz.prog W' 0 sp true t v d ps:=by
 rcases ht with rfl|rfl
 ·obtain⟨n,rfl,rfl,rfl,hn⟩:=open_int Tryz.underlying3 hv h
  exact⟨⟨_,.int n (bW5 hn),.v _⟩,fun W' _ sp _=>shut_int Tryz.underlying3 hn⟩
 ·obtain⟨a,len,cap,rfl⟩:=okWide_slice Tryz.underlying22 hv
  obtain⟨fuel,hf⟩:=h
  rcases open_ints Tryz.underlying22 Tryz.underlying3 cu2 hf with ⟨h1,h2⟩|⟨a',len',cap',zs,h1,hb,hl,hm,hz,hx,hcell,hwf⟩
  ·simp only [Value.cells,List.cons.injEq,Value.slice.injEq,and_true] at h1
   obtain⟨rfl,rfl,rfl⟩:=h1
   cases h2
   refine⟨⟨_,.ints [] ⟨by simp,by simp⟩,?_⟩,fun W' _ sp _=>⟨1,?_⟩⟩
   ·exact .sl 1 [] none 0 (fun _ _=>undef) (Nat.le_refl _) (by simp) (by simp) (by simp)
   ·rw [DataW.trod_step]
    unfold DataW.trodStep
    simp only [Tryz.underlying22,Value.cells]
  ·simp only [Value.cells,List.cons.injEq,Value.slice.injEq,and_true] at h1
   obtain⟨rfl,rfl,rfl⟩:=h1
   simp only [if_true] at hz
   cases hx
   have hlen:len<=17592186044416:=by
    have:=hw ((len+(cap-len))*8) (by
     unfold DataW.weights
     rw [Tryz.underlying22]
     simp only [List.length_map,List.length_take,List.length_drop,lits,cx8,hz,Nat.min_eq_left hl]
     exact List.mem_cons_self)
    unfold reachBytes at this
    omega
   refine⟨⟨_,.ints (zs.take len) ⟨fun n hn=>bW5 (hwf n (List.mem_of_mem_take hn)),by rw [List.length_take];omega⟩,?_⟩,fun W' hex sp hsp=>?_⟩
   ·have hcl:∀ (i:Nat) n,(zs.take len)[i]?=some n->W.cell? (a'.add i)=some (.int .i64 n):=fun i n hn=>by
     rw [List.getElem?_take] at hn
     split at hn
     ·have hi:=(List.getElem?_eq_some_iff.1 hn).1
      rw [hcell i hi]
      simp [List.getD_eq_getElem?_getD,hn]
     ·cases hn
    have hln:len=((zs.take len).map fun n=>[iD n]).length:=by rw [List.length_map,List.length_take];omega
    have:Rd W (fun _=>False) (.sl 1 ((zs.take len).map fun n=>[iD n])) (.slice (some a') ((zs.take len).map fun n=>[iD n]).length cap):=by
     refine .sl 1 _ (some a') cap (fun i _=>.int .i64 ((zs.take len).getD i 0)) (by rw [← hln];exact hl) (fun y hy=>by obtain⟨n,_,rfl⟩:=List.mem_map.1 hy;rfl) (fun i y hy=>?_) (fun i y hy j d hd=>?_)
     ·rw [List.getElem?_map,Option.map_eq_some_iff] at hy
      obtain⟨n,hn,rfl⟩:=hy
      have hc:=hcl i n hn
      obtain⟨b,off,spot⟩:=a'
      have hs:spot=none:=by
       have hi0:=(List.getElem?_eq_some_iff.1 hn).1
       rw [List.length_take] at hi0
       have:=World.cell?_spot (hcell 0 (by omega))
       simpa [Addr.add] using this
      subst hs
      refine⟨b,off,rfl,fun h=>h,by have:=World.block_lt_of_cell? W _ hc;simp only [Addr.add] at this;split at this<;>simpa using this,fun j hj=>?_⟩
      obtain rfl:j=0:=by omega
      rw [add_plain] at hc
      rw [Nat.mul_one,Nat.add_zero,hc]
      simp [List.getD_eq_getElem?_getD,hn]
     ·rw [List.getElem?_map,Option.map_eq_some_iff] at hy
      obtain⟨n,hn,rfl⟩:=hy
      cases j with
      | succ j=>simp at hd
      | zero=>
       simp at hd
       subst hd
       have:(zs.take len).getD i 0=n:=by rw [List.getD_eq_getElem?_getD,hn];rfl
       rw [this]
       exact .v _
    rw [← hln] at this
    exact this
   ·have hsz:zs.length=if sp a'.block=true then cap else len:=by
     rcases Nat.eq_zero_or_pos cap with h0|h0
     ·split<;>omega
     ·rw [if_pos (show sp a'.block=true from hsp (.cell a'.block a'.off) (MemPlace.mem_row.2 ⟨0,by omega,by simp⟩))]
      exact hz
    exact⟨2,shut_ints 0 Tryz.underlying22 Tryz.underlying3 cu2 hb hl hm hsz (fun i hi=>hex.cell (hcell i hi)) hwf⟩
theorem be6 {base:Nat}:∀ {ts:List TypeId} {vs:List Value} {ds:List (DataW H)} {ps:List MemPlace},(∀ t∈ts,t=3\/t=22)->(∀ (j:Nat) t v,ts[j]?=some t->vs[j]?=some v->Value.okWide Tryz.prog W .any base t v) ->
  DataW.TrodAll enc Tryz.prog W 0 (fun _=>true) true ts vs ds ps->(∀ n∈DataW.weightsEach Tryz.prog ts ds,n<=reachBytes) ->
  (∃ xs,ArgsD ts xs/\RdL W (fun _=>False) xs vs)/\(∀ W',Ex W W'->∀ sp:Nat->Bool,(∀ p∈ps,sp p.block=true)->DataW.TrodAll enc Tryz.prog W' 0 sp true ts vs ds ps)
 | [],vs,ds,ps,_,_,h,_=>by
  obtain⟨rfl,rfl,rfl⟩:=trodAll_nil h
  exact⟨⟨[],.nil,.nil⟩,fun _ _ _ _=>trodAll_mk0⟩
 | t::ts,vs,ds,ps,ht,hv,h,hw=>by
  obtain⟨v0,vs0,d0,ds0,p0,q0,rfl,rfl,rfl,h0,r0⟩:=trodAll_cons h
  have hw':DataW.weightsEach Tryz.prog (t::ts) (d0::ds0)=d0.weights Tryz.prog t++DataW.weightsEach Tryz.prog ts ds0:=rfl
  rw [hw'] at hw
  obtain⟨⟨x,k1,k2⟩,k3⟩:=bR4 (ht t (by simp)) (hv 0 t v0 rfl rfl) h0 (fun n hn=>hw n (List.mem_append_left _ hn))
  obtain⟨⟨xs,g1,g2⟩,g3⟩:=be6 (fun u hu=>ht u (by simp [hu])) (fun j u v hj hvj=>hv (j+1) u v (by simpa using hj) (by simpa using hvj)) r0 (fun n hn=>hw n (List.mem_append_right _ hn))
  exact⟨⟨x::xs,.cons k1 g1,.cons k2 g2⟩,fun W' hex sp hsp=>trodAll_cons_mk (k3 W' hex sp (fun p hp=>hsp p (List.mem_append_left _ hp))) (g3 W' hex sp (fun p hp=>hsp p (List.mem_append_right _ hp)))⟩
theorem cd4 {W':World} (h:Ex W W') (may:MemPlace->Prop):W.keptBut W' may:=by
 refine World.keptBut_mono (may:=fun _=>False) (fun _ f=>f.elim) (World.keptBut.congr (World.keptBut_refl W _) ?_ ?_ (fun i hi=>h.block i hi))
 ·exact Keep.os h
 ·exact Keep.output h
theorem bb7 {f:FuncId} {fn:Func} {s:ChangeSpec} (hts:∀ t∈fn.params.toList,t=3\/t=22) (hvars:s.vars=[]) (hres:fn.resultTypes = #[4])
  (hs:∀ ds:List (DataW H),ds.length=fn.params.size->s.fn H ds={ results:=[.lit (.bool true)],args:=ds }) (hP:∀ xs,ArgsD fn.params.toList xs->APure Tryz.prog f xs (bD true))
  (base:Nat) (args:Array Value) (ds gs:List (DataW H)) (before:List MemPlace)
  (hval:∀ (j:Nat) t v,fn.params[j]?=some t->args[j]?=some v->Value.okWide Tryz.prog W .any base t v)
  (hW:DataW.Whole enc Tryz.prog fn.params.toList s.vars false W args.toList ds gs before)
  (hsz:(DataW.weightsEach Tryz.prog (fn.params.toList++s.plain.varTypes Tryz.prog) (ds++gs)).all (·<=reachBytes)=true) (hL:laidMetH Tryz.prog laidL W) :
  Calls Tryz.prog f args W fun e W'=>∃ v,e = .returned v/\s.post enc Tryz.prog fn false true false false W args v W':=by
 have hW':=hW
 obtain⟨p,q,hA,hV,rfl,hfz,hnd⟩:=hW
 rw [hvars] at hV
 obtain⟨rfl,rfl⟩:=trodVars_none hV
 have hdl:ds.length=fn.params.size:=by have:=(trodAll_length hA).2;simpa using this
 have hw:∀ n∈DataW.weightsEach Tryz.prog fn.params.toList ds,n<=reachBytes:=fun n hn=>by
  have hvt:s.plain.varTypes Tryz.prog=[]:=by simp [DataSpec.varTypes,ChangeSpec.plain,hvars]
  rw [hvt,List.append_nil,List.append_nil] at hsz
  exact of_decide_eq_true (List.all_eq_true.1 hsz n hn)
 obtain⟨⟨xs,k1,k2⟩,k3⟩:=be6 hts (fun j t v hj hv=>hval j t v (by simpa using hj) (by simpa using hv)) hA hw
 have hrun:=(hP xs k1).run W (fun _=>False) args.toList k2 (bO0 hL)
 rw [Array.toArray_toList] at hrun
 refine hrun.mono fun e W' ⟨u,he,hu,hex⟩=>?_
 have hu':=hu.val rfl
 subst hu'
 refine⟨_,he,?_⟩
 have hfn:=hs ds hdl
 have hold:∀ x∈p,(fun b=>decide (b<W.heap.size)) x.block=true:=fun x hx=>by have:=hW'.lt x (by simpa using hx);simpa using this
 have hra:∀ (b:Nat) (sp:Nat->Bool) (hd:Bool),DataW.TrodAll enc Tryz.prog W' b sp hd fn.resultTypes.toList ((Value.bool true).resultList fn.resultTypes.size) (s.fn H (ds++[])).results []:=fun b sp hd=>by
  rw [List.append_nil,hfn,hres]
  exact trodAll_cons_mk (shut_bool Tryz.underlying4 _) trodAll_mk0
 have hA1:∀ sp:Nat->Bool,(∀ x∈p,sp x.block=true)->DataW.TrodAll enc Tryz.prog W' 0 sp true fn.params.toList args.toList (s.fn H (ds++[])).args p:=fun sp hsp=>by
  rw [List.append_nil,hfn];exact k3 W' hex _ hsp
 have hV1:∀ sp:Nat->Bool,DataW.TrodVars enc Tryz.prog W' sp s.vars (s.fn H (ds++[])).vars []:=fun sp=>by
  rw [hvars,List.append_nil,hfn];rfl
 refine⟨ds,[],p++[],[],p,[],hW',hra _ _ _,hA1 _ hold,hV1 _,cd4 hex _,fun _=>?_⟩
 ·refine⟨ok_one hres rfl (okWide_bool_mk Tryz.underlying4 _),_,_,([]++p)++[],⟨[]++p,[],trodAll_append (hA1 _ (fun _ _=>rfl)) (hra _ _ _),hV1 _,rfl,?_,fun h=>by cases h⟩,fun x hx _=>by simpa using hx⟩
  intro b off hp
  have hp':MemPlace.cell b off∈p++[]:=by simpa using hp
  rw [hex.frozen (hW'.lt _ hp')]
  exact hfz b off hp'
end
theorem bQ4 (os:Os) (args:Array Value):laidMetH Tryz.prog laidL ((World.doorLaid Tryz.prog 76 os).forCall (fun _ _=>0) ⟨#[],args,[]⟩).memory:=
 laidMetH_of_parts3 (fuel:=8) (laidMet_of_run' 8 (by kernel_rfl) (by kernel_rfl)) (by kernel_rfl) (by kernel_rfl)
theorem own:ownKnob Tryz.prog.godebug=none:=by kernel_rfl
end
end Go.Proofs.YtlcfiilejnnlnaaGreatDoor
