/- A part of the proof: TyQ Probs R10 R10b R10c R10d R09b R09c Cv SrcP R09d R09e R09f. -/
import Derived.Test.YtlcfiilejnnlnaaGreatDoorK04
import Derived.Laws.IdiomStrings
set_option maxRecDepth 100000
set_option maxHeartbeats 20000000
set_option linter.all false
namespace Go.Proofs.YtlcfiilejnnlnaaGreatDoor
open Tryz
section
open Go
def at4 (x:Sch) (o i:Int) (f:Fld) (g:Fld) (j:Nat):Bool:=decide (g.kind=7)&&seq g.of f.name&&decide (upIx x o j=i)
def al1 (x:Sch) (o i:Int) (f:Fld) (fs:List Fld) (n:Nat):List Int:=
 ((List.range n).filter fun (j:Nat)=>match fs[j]? with|some g=>at4 x o i f g j|none=>false).map (fun (j:Nat)=>(j:Int))
def vZ:=@List.filter_append
theorem as2 (x:Sch) (o i:Int) (f:Fld) (fs:List Fld) (n:Nat) (g:Fld) (h:fs[n]?=some g):al1 x o i f fs (n+1)=al1 x o i f fs n++(if at4 x o i f g n then [(n:Int)] else []):=by
 simp only [al1,List.range_succ,vZ,yB]
 congr 1
 simp only [List.filter_cons,h,List.filter_nil];split<;>simp_all
theorem aI7 (x:Sch) (o i:Int) (f:Fld) (fs:List Fld) (n:Nat):(al1 x o i f fs n).length<=n:=by
 simp only [al1,zL];exact xH (List.length_filter_le _ _) (by simp)
theorem bj1 (x:Sch) (i:Int) (f:Fld) (k:Knd) (hk:af6 x (aa9 x f.of)=some k):aA5 x i f=al1 x (aa9 x f.of) i f k.fields k.fields.length:=by
 simp only [aA5,hk,al1,at4]<;>rfl
theorem bF5 (x:Sch) (n:ByteArray) (h:0<=aa9 x n):∃ (o:Nat) (k:Knd),aa9 x n=o/\x.kz[o]?=some k/\seq k.name n=true:=by
 unfold aa9 idx at *;split at h
 ·rename_i o ho;obtain⟨h1,h2,_⟩:=wB.1 ho;exact⟨o,x.kz[o],by simp [ho],zD h1,h2⟩
 ·omega
theorem bo4 (x:Sch) (i:Int) (f:Fld) (h:0<=refUp x i f):∃ (o:Nat) (k:Knd),refUp x i f=o/\x.kz[o]?=some k:=by
 unfold refUp at *;split at h
 ·obtain⟨o,k,h1,h2,_⟩:=bF5 x f.of h;exact⟨o,k,by rw [if_pos (by assumption)];exact h1,h2⟩
 ·omega
def uC:=@if_false
theorem bZ9 (x:Sch) (i j:Int) (h:0<=upIx x i j):∃ (o:Nat) (k:Knd),upIx x i j=o/\x.kz[o]?=some k:=by
 unfold upIx at *
 cases hf:fieldAt x i j with
 | none=>simp [hf] at h
 | some f=>
  simp only [hf] at h ⊢;split at h
  ·rename_i h7;simp only [h7,if_true];unfold aB8 at *;split at h
   ·rename_i g hg;exact bo4 x i g h
   ·omega
  ·rename_i h7;simp only [h7,uC];split at h
   ·rename_i h1;simp only [h1,if_true];exact bo4 x i f h
   ·omega
def topF (x:Sch) (i j:Int) (f:Fld):Option Fld:=
 if upIx x i j<0 then none else match af6 x (upIx x i j) with|some k=>fieldAt x (upIx x i j) (aa4 k f.of)|none=>none
def aM4:Fld:=⟨⟨#[]⟩,⟨#[]⟩,⟨#[]⟩,0,0,0,[],[]⟩
def topR (x:Sch) (i j:Int) (f:Fld):Fld × Bool:=match topF x i j f with|some g=>(g,true)|none=>(aM4,false)
def atR (x:Sch) (i j:Int):Fld × Bool:=match fieldAt x i j with|some g=>(g,true)|none=>(aM4,false)
def ao7:List (Bool × Int)->Int
 | []=>0
 | (true,c)::_=>c
 | (false,_)::l=>ao7 l
def ah5 (x:Sch) (k:Knd) (o:Int) (n:ByteArray):Bool:=!isE n && !(atR x o (aa4 k n)).2
def ad7 (x:Sch) (k:Knd) (o:Int) (n:ByteArray):Bool:=!isE n&&((atR x o (aa4 k n)).1.kind != 2&&(atR x o (aa4 k n)).1.kind != 4)
def ah2 (x:Sch) (i:Nat) (r:Rul):Bool:=(x.rules.take i).any (fun s=>seq s.name r.name)
def aw7 (x:Sch) (i:Nat) (r:Rul):Int:=
 match af6 x (aa9 x r.kind) with
 | none=>ao7 [(ah2 x i r,7),(true,12),(false,13),(seq r.a r.b,1)]
 | some k=>ao7 [(ah2 x i r,7),(ah5 x k (aa9 x r.kind) r.a||ah5 x k (aa9 x r.kind) r.b,12),(ad7 x k (aa9 x r.kind) r.a||ad7 x k (aa9 x r.kind) r.b,13),(seq r.a r.b,1)]
theorem aD2:∀ (fs:List (Bool × Int)) (n:Nat),(∀ (j:Nat) x,j<n->fs[j]?=some x->x.1=false)->ao7 (fs.drop n)=ao7 fs
 | fs,0,_=>by simp
 | [],n+1,_=>by simp
 | (b,c)::l,n+1,h=>by
  have hb:b=false:=h 0 (b,c) (by omega) rfl;subst hb;have:=aD2 l n (fun j x hj hx=>h (j+1) x (by omega) (by simpa using hx))
  simpa [ao7] using this
theorem bH1 {fs:List (Bool × Int)} {n:Nat} {x:Bool × Int} (h:∀ (j:Nat) x,j<n->fs[j]?=some x->x.1=false) (hx:fs[n]?=some x) (hb:x.1=true):ao7 fs=x.2:=by
 rw [← aD2 fs n h];have hlt:=(zE.1 hx).1;have he:=(zE.1 hx).2;rw [vG hlt,he];obtain⟨b,c⟩:=x;simp only at hb;subst hb;rfl
theorem bl4 {fs:List (Bool × Int)} (h:∀ (j:Nat) x,fs[j]?=some x->x.1=false):ao7 fs=0:=by
 rw [← aD2 fs fs.length (fun j x _ hx=>h j x hx),List.drop_length];rfl
end
section
open Go
abbrev Prb:=Int × Int × Int × Int
def one (k f r e:Int):List Prb:=if e=0 then [] else [(k,f,r,e)]
theorem at3 (k f r e:Int):(one k f r e).length<=1:=by unfold one;split<;>simp
theorem one0 (k f r:Int):one k f r 0=[]:=by simp [one]
def upTo {α:Type} (q:Nat) (g:Nat->List α):List α:=(List.range q).flatMap g
theorem ad5 {α:Type} (q:Nat) (g:Nat->List α):upTo (q+1) g=upTo q g++g q:=by simp [upTo,List.range_succ,List.flatMap_append]
theorem ad2 {α:Type} {g:Nat->List α} {m:Nat} (h:∀ i,(g i).length<=m):∀ q,(upTo q g).length<=q*m
 | 0=>by simp [upTo]
 | q+1=>by rw [ad5,zI,vC];have:=ad2 h q;have:=h q;omega
def au7 (x:Sch) (i:Int) (f:Fld):Int × List Int:=if aw6 x i f then (-1,[]) else (aa9 x f.of,aA5 x i f)
def abvR (x:Sch) (i j:Int) (f:Fld):Int × Fld:=match topF x i j f with
 | none=>(-1,aM4)
 | some g=>(g.kind,g)
def aR5 (x:Sch) (i j:Int) (f:Fld) (up:Int):Int:=
 if up<0 then 12
 else if f.kind=7 then (if (abvR x i j f).1=6/\aa9 x (abvR x i j f).2.of=i then 0 else 13)
 else if (abvR x i j f).1<0\/(abvR x i j f).1=0\/(abvR x i j f).1=1\/(abvR x i j f).1=6\/(abvR x i j f).1=7 then 13 else 0
def dayE (x:Sch) (i j:Int) (f:Fld):Int:=match af6 x i with
 | none=>0
 | some k=>if isE f.of then 0 else if aa4 k f.of<0\/j<=aa4 k f.of then 12 else match k.fields[(aa4 k f.of).toNat]? with|some g=>if g.kind=4 then 0 else 12|none=>12
def ac9 (x:Sch) (i j:Int) (f:Fld):Int:=
 if f.kind=0/\0<j then 13
 else if f.kind=0\/f.kind=2\/f.kind=3 then 0
 else if f.kind=1 then (if upIx x i j<0 then 12 else 0)
 else if f.kind=4 then dayE x i j f
 else if f.kind=5 then (if x.lz.any (fun l=>seq l.name f.of) then 0 else 12)
 else if f.kind=6 then (if (au7 x i f).1<0 then 12 else if (au7 x i f).2.length=1 then 0 else 11)
 else aR5 x i j f (upIx x i j)
def aU7 (fs:List Fld):Bool:=match fs with | []=>false|f::_=>decide (f.kind=0)
def ao5 (x:Sch) (i:Nat) (l:Lif):Bool:=(x.lz.take i).any (fun m=>seq m.name l.name)
def ax4 (x:Sch) (i:Nat):List Prb:=match x.lz[i]? with|some l=>one (-1) i (-1) (if ao5 x i l then 7 else 0)|none=>[]
def ag0 (x:Sch) (i:Nat) (k:Knd):Int:=if aa9 x k.name<i then 7 else if aU7 k.fields then 0 else 11
def al8 (x:Sch) (i:Nat) (k:Knd) (j:Nat) (f:Fld):Int:=if aa4 k f.name<j then 7 else ac9 x i j f
def ad1 (x:Sch) (i:Nat) (k:Knd) (j:Nat):List Prb:=match k.fields[j]? with|some f=>one i j (-1) (al8 x i k j f)|none=>[]
def ae7 (x:Sch) (i:Nat):List Prb:=match x.kz[i]? with|some k=>one i (-1) (-1) (ag0 x i k)++upTo k.fields.length (ad1 x i k)|none=>[]
def az1 (x:Sch) (i:Nat):List Prb:=match x.rules[i]? with|some r=>one (-1) (-1) i (aw7 x i r)|none=>[]
def ad4 (x:Sch):Int:=if ag8 x then 0 else 1
def aj9 (x:Sch):List Prb:=if ad4 x=0 then upTo x.lz.length (ax4 x)++upTo x.kz.length (ae7 x)++upTo x.rules.length (az1 x) else [(-1,-1,-1,ad4 x)]
theorem aE8 (x:Sch) (i:Nat):(ax4 x i).length<=1:=by unfold ax4;split;exact at3 _ _ _ _;simp
theorem aw4 (x:Sch) (i:Nat) (k:Knd) (j:Nat):(ad1 x i k j).length<=1:=by unfold ad1;split;exact at3 _ _ _ _;simp
theorem bc4 (x:Sch) (i:Nat):(az1 x i).length<=1:=by unfold az1;split;exact at3 _ _ _ _;simp
theorem bf1 (x:Sch) (i:Nat) (h:∀ k∈x.kz,k.fields.length<=10):(ae7 x i).length<=11:=by
 unfold ae7;split
 ·rename_i k hk;rw [zI];have h1:=ad2 (aw4 x i k) k.fields.length;have h2:=h k (zG hk);have h3:=at3 i (-1) (-1) (ag0 x i k);omega
 ·simp
structure Vld (x:Sch):Prop where
 nk:x.kz.length<=6
 nl:x.lz.length<=6
 nr:x.rules.length<=16
 nf:∀ k∈x.kz,k.fields.length<=10
 kz:∀ k∈x.kz,ag5 k=true
 lz:∀ l∈x.lz,ag2 l=true
 rules:∀ r∈x.rules,an5 r=true
theorem bU3 {x:Sch} (h:ag8 x=true):Vld x:=by
 simp only [ag8,zJ,zQ,yA] at h;obtain⟨⟨⟨⟨⟨⟨_,h2⟩,h3⟩,h4⟩,h5⟩,h6⟩,h7⟩:=h;exact⟨h2,h3,h4,fun k hk=>by have:=h5 k hk;simp only [ag5,zJ,zQ] at this;exact this.1.2,h5,h6,h7⟩
theorem bi2 {x:Sch} (h:ad4 x=0):Vld x:=by
 unfold ad4 at h;split at h
 ·exact bU3 (by assumption)
 ·omega
end
section
open Go
theorem ai7 (x:Sch) (nm:ByteArray) (hl:x.kz.length<=1000000):APure prog 81 [schD x,sD nm] (iD (aa9 x nm)):=by
 refine eP7 func81 ntmps81 fun BB=>?_
 repeat' first|refine sk2 ?_|intro b;conv=>whnf|refine IxM.mk fun y hy=>?_
 refine ac6 mixed aa0 (γ:=Nat) (fun k=>[(5,iD k)]) (fun _=>[]) (fun k=>k<=x.kz.length/\∀ i y,i<k->x.kz[i]?=some y->seq y.name nm=false) (fun k=>x.kz.length-k) 0 rfl rfl ⟨by omega,by omega⟩ ?_;rintro k ⟨hk,hno⟩
 repeat' first|refine sk2 ?_|intro b;conv=>whnf|refine IxM.mk fun y hy=>?_|with_reducible refine Br.d (fun hc=>?_) (fun hc=>?_)|with_reducible refine Br.b (fun hc=>?_) (fun hc=>?_)
 ·refine Rt.pure (zM iD ?_);exact (ad3 hy ‹_› hno).symm
 ·exact⟨k+1,rfl,rfl,⟨by omega,fun i z hi hz=>by
   by_cases e:i=k
   ·subst e;rw [show ((i:Int)).toNat=i from rfl,hz] at hy;cases hy;assumption
   ·exact hno i z (by omega) hz⟩,by omega⟩
 ·refine Rt.pure (zM iD ?_);exact (ai8 fun i y hy=>hno i y (by have:=(zE.1 hy).1;omega) hy).symm
def hasB (x:Sch) (i j:Int):Bool:=(fieldAt x i j).isSome
theorem am5 {x:Sch} {i j:Int} (h:i<0\/(x.kz.length:Int)<=i\/j<0):fieldAt x i j=none:=by
 unfold fieldAt af6;by_cases hi:0<=i
 ·rw [if_pos hi]
  cases hk:x.kz[i.toNat]? with
  | none=>rfl
  | some k=>
   have:=(zE.1 hk).1;simp only;rw [if_neg (by omega)]
 ·rw [if_neg hi]
theorem af8 {x:Sch} {i j:Int} {k:Knd} (h0:0<=i) (h1:0<=j) (hk:x.kz[i.toNat]?=some k):fieldAt x i j=k.fields[j.toNat]?:=by
 unfold fieldAt af6;rw [if_pos h0,hk];simp only;rw [if_pos h1]
theorem ag9 (k:Knd) (nm:ByteArray) (hl:k.fields.length<=1000000):APure prog 80 [kndD k,sD nm] (iD (aa4 k nm)):=by
 refine eP7 func80 ntmps80 fun BB=>?_
 repeat' first|refine sk2 ?_|intro b;conv=>whnf|refine IxM.mk fun y hy=>?_
 refine ac6 mixed aa0 (γ:=Nat) (fun q=>[(5,iD q)]) (fun _=>[]) (fun q=>q<=k.fields.length/\∀ i y,i<q->k.fields[i]?=some y->seq y.name nm=false) (fun q=>k.fields.length-q) 0 rfl rfl ⟨by omega,by omega⟩ ?_;rintro q ⟨hq,hno⟩
 repeat' first|refine sk2 ?_|intro b;conv=>whnf|refine IxM.mk fun y hy=>?_|with_reducible refine Br.d (fun hc=>?_) (fun hc=>?_)|with_reducible refine Br.b (fun hc=>?_) (fun hc=>?_)
 ·refine Rt.pure (zM iD ?_);exact (ad3 hy ‹_› hno).symm
 ·exact⟨q+1,rfl,rfl,⟨by omega,fun i z hi hz=>by
   by_cases e:i=q
   ·subst e;rw [show ((i:Int)).toNat=i from rfl,hz] at hy;cases hy;assumption
   ·exact hno i z (by omega) hz⟩,by omega⟩
 ·refine Rt.pure (zM iD ?_);exact (ai8 fun i y hy=>hno i y (by have:=(zE.1 hy).1;omega) hy).symm
theorem aY4 (x:Sch) (i j:Int):APure prog 79 [schD x,iD i,iD j] (bD (hasB x i j)):=by
 refine eP7 func79 ntmps79 fun BB=>?_
 repeat' first|refine sk2 ?_|intro b;conv=>whnf|refine IxM.mk fun y hy=>?_|with_reducible refine Br.d (fun hc=>?_) (fun hc=>?_)|with_reducible refine Br.b (fun hc=>?_) (fun hc=>?_)
 ·refine Rt.pure (zM bD ?_);simp [hasB,am5 (x:=x) (i:=i) (j:=j) (by omega)]
 ·refine Rt.pure (zM bD ?_);simp [hasB,am5 (x:=x) (i:=i) (j:=j) (by omega)]
 ·refine Rt.pure (zM bD ?_);simp [hasB,am5 (x:=x) (i:=i) (j:=j) (by omega)]
 ·refine Rt.pure (zM bD ?_);rw [hasB,af8 (by omega) (by omega) hy];by_cases hlt:j<y.fields.length
  ·rw [zD (by omega)];simpa using hlt
  ·rw [List.getElem?_eq_none (by omega)];simpa using hlt
theorem ak0 {x:Sch} {i j:Int} {f:Fld} (h:fieldAt x i j=some f):0<=i/\0<=j/\∃ k,x.kz[i.toNat]?=some k/\k.fields[j.toNat]?=some f:=by
 unfold fieldAt af6 at h;by_cases hi:0<=i
 ·rw [if_pos hi] at h
  cases hk:x.kz[i.toNat]? with
  | none=>simp [hk] at h
  | some k=>
   simp only [hk] at h;by_cases hj:0<=j
   ·rw [if_pos hj] at h;exact⟨hi,hj,k,rfl,h⟩
   ·rw [if_neg hj] at h;cases h
 ·rw [if_neg hi] at h;cases h
theorem aW4 {x:Sch} {i j:Int} {f:Fld} {k:Knd} (hfa:fieldAt x i j=some f) (hka:af6 x i=some k):upIx x i j=if f.kind=7\/f.kind=8 then aB8 x i (aO8 (aa4 k f.up) j (fieldAt x i (aa4 k f.up))) else if f.kind=1 then refUp x i f else -1:=by
 simp only [upIx,hfa,bi3,hka]
theorem as8 (k:Knd) (nm:ByteArray):aa4 k nm<k.fields.length:=ay3 _ _
theorem aP9 (x:Sch) (nm:ByteArray):aa9 x nm<x.kz.length:=ay3 _ _
theorem sk6 {A B:Prop} (k:B) (h:Hd7 B->A:=by intro q7;(first|refine sb0 ?_|refine sb1 ?_|(refine' cp7x ?hc ?_;(case hc=>first|exact aY4 _ _ _|exact ai7 _ _ (by assumption)|exact ag9 _ _ (by assumption))));exact q7.1):A:=h ⟨k⟩
theorem aB6 (x:Sch) (i j:Int) (hl:x.kz.length<=1000000) (hf:∀ k∈x.kz,k.fields.length<=1000000):APure prog 36 [schD x,iD i,iD j] (iD (upIx x i j)):=by
 refine eP7 func36 ntmps36 fun BB=>?_
 cases hfa:fieldAt x i j with
 | none=>
  have hh:hasB x i j=false:=by simp [hasB,hfa]
  repeat' first|refine sk6 ?_|intro b;conv=>whnf
  refine Rt.pure (zM iD ?_);simp [upIx,hfa]
 | some f=>
  have hh:hasB x i j=true:=by simp [hasB,hfa]
  obtain⟨h0,h1,k,hk,hkf⟩:=ak0 hfa;have hfk:=hf k (zG hk);have hka:af6 x i=some k:=by simp [af6,h0,hk]
  have hlt:=as8 k f.up;have hU:=aW4 hfa hka
  cases hg:fieldAt x i (aa4 k f.up) with
  | none=>
   have hneg:aa4 k f.up<0:=by
    refine Int.not_le.1 fun h=>?_;rw [af8 h0 h hk,zD (by omega)] at hg;cases hg
   simp only [hg,aO8,aB8] at hU
   repeat' first|refine sk6 ?_|intro b;conv=>whnf|with_reducible refine Br.d (fun hc=>?_) (fun hc=>?_)|with_reducible refine Br.b (fun hc=>?_) (fun hc=>?_)
   all_goals (refine Rt.pure (zM iD ?_);rw [hU];unfold refUp;(repeat' split)<;>first|rfl|omega)
  | some g=>
   obtain⟨_,hpos,k',hk',hg0⟩:=ak0 hg;obtain rfl:k=k':=by rw [hk] at hk';exact wK hk'
   simp only [hg,aO8] at hU
   repeat' first|refine sk6 ?_|intro b;conv=>whnf|with_reducible refine Br.d (fun hc=>?_) (fun hc=>?_)|with_reducible refine Br.b (fun hc=>?_) (fun hc=>?_)
   all_goals (refine Rt.pure (zM iD ?_);rw [hU];unfold refUp;(repeat' split)<;>first|rfl|omega|(unfold aB8;simp only;unfold refUp;(repeat' split)<;>first|rfl|omega))
end
section
open Go
def slN (l:List Int):List (List D):=l.map fun n=>[iD n]
theorem aI8 {x:Sch} {i:Int} {f:Fld} (h:f.kind≠6\/aa9 x f.of<=i):aw6 x i f=true:=by
 simp only [aw6];rcases h with h|h<;>simp [h]
theorem aI9 {x:Sch} {i:Int} {f:Fld} (h:f.kind=6) (h':i<aa9 x f.of):aw6 x i f=false:=by
 simp only [aw6,h];simp;omega
theorem aN5 (x:Sch) (i:Int) (f:Fld) (o:Nat) (ko:Knd) (ho:aa9 x f.of=o) (hko:x.kz[o]?=some ko):aA5 x i f=al1 x o i f ko.fields ko.fields.length:=by
 rw [← ho];exact bj1 x i f ko (by rw [ho];simp [af6,hko])
theorem bn0 (σ:aa1) (k:Nat):Vs σ (.v (.slice none 0 0)) σ (.sl k []):=Vs.le (ai5 k)
theorem sk7 {A B:Prop} (k:B) (h:Hd7 B->A:=by intro q7;(first|refine sb0 ?_|refine sb1 ?_|(refine' cp7x ?hc ?_;(case hc=>first|exact aY4 _ _ _|exact ai7 _ _ (by assumption)|exact ag9 _ _ (by assumption)|exact aB6 _ _ _ (by assumption) (by assumption))));exact q7.1):A:=h ⟨k⟩
theorem bp3 (x:Sch) (i j:Int) (f:Fld) (hl:x.kz.length<=1000000) (hf:∀ k∈x.kz,k.fields.length<=1000000) (hfa:fieldAt x i j=some f):APure prog 178 [schD x,iD i,iD j] (.tup [iD (au7 x i f).1,slI (au7 x i f).2]):=by
 refine eP7 func178 ntmps178 fun BB=>?_;obtain⟨h0,h1,k,hk,hkf⟩:=ak0 hfa;have hkl:=aP9 x f.of;have hno:f.kind≠6\/aa9 x f.of<=i->au7 x i f=(-1,[]):=fun h=>by unfold au7;rw [aI8 h];rfl
 repeat' first|refine sk7 ?_|intro b;conv=>whnf|refine IxM.mk fun y hy=>?_|with_reducible refine Br.d (fun hc=>?_) (fun hc=>?_)|with_reducible refine Br.b (fun hc=>?_) (fun hc=>?_)
 ·rw [hno (by omega)];exact Rt.vs (Vs.tup (VsL.cons (Vs.refl _ _) (VsL.cons (bn0 _ _) (VsL.nil _))))
 ·obtain⟨ko,rfl⟩:∃ ko,ko=y:=⟨_,rfl⟩
  have hko:=hy;clear hy;have h6:f.kind=6:=by omega
  have hno':=aI9 (x:=x) (i:=i) h6 (by omega);obtain⟨o,ho⟩:=Int.eq_ofNat_of_zero_le (show 0<=aa9 x f.of by omega);rw [ho] at hko;have hko:x.kz[o]?=some ko:=hko;have hS:au7 x i f=((o:Int),al1 x o i f ko.fields ko.fields.length):=by
   unfold au7;rw [hno',aN5 x i f o ko ho hko,ho];rfl
  have hfk:=hf ko (zG hko);rw [ho];refine ac6 mixed aa0 (γ:=Nat × Value × aa1) (fun g=>[(10,.v g.2.1),(12,iD g.1)]) (fun g=>(b,.cells 97 (fldC f))::g.2.2) (fun g=>g.1<=ko.fields.length/\RowIs 3 1 (slN (al1 x o i f ko.fields g.1)) g.2.1 g.2.2) (fun g=>ko.fields.length-g.1) (0,.slice none 0 0,[]) rfl rfl ⟨zW _,RowIs.nil _ _⟩ ?_;rintro⟨q,v,s⟩ ⟨hq,hrow⟩;simp only at hq hrow ⊢
  repeat' first|refine sk7 ?_|intro b;conv=>whnf|refine IxM.mk fun y hy=>?_|with_reducible refine Br.d (fun hc=>?_) (fun hc=>?_)|with_reducible refine Br.b (fun hc=>?_) (fun hc=>?_)
  ·have hsh:at4 x o i f y q=true:=by simp [at4,seq, *]
   have Hs:=as2 x o i f ko.fields q y hy;rw [hsh,if_pos rfl] at Hs;have hlen:=aI7 x o i f ko.fields (q+1);refine Ap.go rfl rfl rfl rfl hrow (bj7 _ _) rfl (zs:=slN (al1 x o i f ko.fields (q+1))) (by rw [Hs];simp only [slN,yB];rfl) (by simp [slN];omega) (by simp [slN];omega) (fun s'=>_::s') (aU3 _) (fun a c s' hr=>?_)
   repeat' first|refine sk7 ?_|intro b;conv=>whnf|refine IxM.mk fun y hy=>?_
   exact⟨(q+1,_,s'),rfl,rfl,⟨by simp only;omega,hr⟩,by simp only;omega⟩
  iterate 3
   have hsh:at4 x o i f y q=false:=by simp [at4,seq, *]
   have Hs:=as2 x o i f ko.fields q y hy;rw [hsh,if_neg (by simp),zZ] at Hs;exact⟨(q+1,v,s),rfl,rfl,⟨by simp only;omega,by simp only;rw [Hs];exact hrow⟩,by simp only;omega⟩
  ·obtain rfl:q=ko.fields.length:=by omega
   rw [hS];exact Rt.vs (Vs.tup (VsL.cons (Vs.refl _ _) (VsL.cons (Vs.row hrow (bj7 _ _)) (VsL.nil _))))
 ·rw [hno (by omega)];exact Rt.vs (Vs.tup (VsL.cons (Vs.refl _ _) (VsL.cons (bn0 _ _) (VsL.nil _))))
def cw2 (o:Int):List Int->Int × Int
 | [n]=>(o,n)
 | _=>(-1,-1)
def aX5 (x:Sch) (i j:Int):Int × Int:=match fieldAt x i j with
 | none=>(-1,-1)
 | some f=>cw2 (au7 x i f).1 (au7 x i f).2
end
section
open Go
theorem aF1:Le (.agg [sD ⟨#[]⟩,sD ⟨#[]⟩,sD ⟨#[]⟩,iD 0,iD 0,iD 0,.v (.slice none 0 0),.v (.slice none 0 0)]) (fldD aM4):=
 bW8 (LeL.cons (Le.refl _) (LeL.cons (Le.refl _) (LeL.cons (Le.refl _) (LeL.cons (Le.refl _) (LeL.cons (Le.refl _) (LeL.cons (Le.refl _) (LeL.cons (ai5 _) (LeL.cons (ai5 _) LeL.nil))))))))
theorem bA6 {x:Sch} {i j:Int} {f:Fld} (h:upIx x i j<0):topF x i j f=none:=by simp [topF,h]
theorem bA7 {x:Sch} {i j:Int} {f:Fld} {ko:Knd} (h:¬ upIx x i j<0) (hk:x.kz[(upIx x i j).toNat]?=some ko):topF x i j f=fieldAt x (upIx x i j) (aa4 ko f.of):=by
 have:af6 x (upIx x i j)=some ko:=by unfold af6;rw [if_pos (by omega)];exact hk
 simp only [topF,this];rw [if_neg h]
theorem bz8 (x:Sch) (i j:Int):upIx x i j<x.kz.length:=by
 by_cases h:0<=upIx x i j
 ·obtain⟨o,k,h1,h2⟩:=bZ9 x i j h;have:=(zE.1 h2).1;omega
 ·omega
theorem sk8 {A B:Prop} (k:B) (h:Hd7 B->A:=by intro q7;(first|refine sb0 ?_|refine sb1 ?_|(refine' cp7x ?hc ?_;(case hc=>first|exact ai7 _ _ (by assumption)|exact ag9 _ _ (by assumption)|exact aB6 _ _ _ (by assumption) (by assumption))));exact q7.1):A:=h ⟨k⟩
theorem bd3 (x:Sch) (i j:Int) (f:Fld) (hl:x.kz.length<=1000000) (hf:∀ k∈x.kz,k.fields.length<=1000000) (hfa:fieldAt x i j=some f):APure prog 217 [schD x,iD i,iD j] (.tup [iD (abvR x i j f).1,fldD (abvR x i j f).2]):=by
 refine eP7 func217 ntmps217 fun BB=>?_;obtain⟨h0,h1,k,hk,hkf⟩:=ak0 hfa;have hul:=bz8 x i j;by_cases hu:upIx x i j<0
 ·have ht:abvR x i j f=(-1,aM4):=by simp [abvR,bA6 hu]
  repeat' first|refine sk8 ?_|intro b;conv=>whnf|refine IxM.mk fun y hy=>?_|with_reducible refine Br.d (fun hc=>?_) (fun hc=>?_)|with_reducible refine Br.b (fun hc=>?_) (fun hc=>?_)
  rw [ht];exact Rt.vs (Vs.tup (VsL.cons (Vs.refl _ _) (VsL.cons (Vs.le aF1) (VsL.nil _))))
 ·obtain⟨ko,hko⟩:∃ ko,x.kz[(upIx x i j).toNat]?=some ko:=⟨_,zD (by omega)⟩
  have hfk:=hf ko (zG hko);have htf:=bA7 (f:=f) hu hko;have hfl:=as8 ko f.of
  repeat' first|refine sk8 ?_|intro b;conv=>whnf|refine IxM.mk fun y hy=>?_|with_reducible refine Br.d (fun hc=>?_) (fun hc=>?_)|with_reducible refine Br.b (fun hc=>?_) (fun hc=>?_)
  ·have ht:abvR x i j f=(-1,aM4):=by simp only [abvR,htf,am5 (x:=x) (i:=upIx x i j) (j:=aa4 ko f.of) (by omega)]
   rw [ht];exact Rt.vs (Vs.tup (VsL.cons (Vs.refl _ _) (VsL.cons (Vs.le aF1) (VsL.nil _))))
  ·have ht:abvR x i j f=(y.kind,y):=by simp only [abvR,htf,af8 (x:=x) (i:=upIx x i j) (j:=aa4 ko f.of) (by omega) (by omega) hko,hy]
   rw [ht];exact Rt.vs (Vs.refl _ _)
end
section
open Go
theorem sk9 {A B:Prop} (k:B) (h:Hd7 B->A:=by intro q7;(first|refine sb0 ?_|refine sb1 ?_|(refine' cp7x ?hc ?_;(case hc=>first|exact ai7 _ _ (by assumption)|exact bd3 _ _ _ _ (by assumption) (by assumption) (by assumption))));exact q7.1):A:=h ⟨k⟩
theorem bd2 (x:Sch) (i j up:Int) (f:Fld) (hl:x.kz.length<=1000000) (hf:∀ k∈x.kz,k.fields.length<=1000000) (hfa:fieldAt x i j=some f):APure prog 179 [schD x,iD i,iD j,iD up] (iD (aR5 x i j f up)):=by
 refine eP7 func179 ntmps179 fun BB=>?_;obtain⟨h0,h1,k,hk,hkf⟩:=ak0 hfa
 repeat' first|refine sk9 ?_|intro b;conv=>whnf|with_reducible refine Br.d (fun hc=>?_) (fun hc=>?_)|with_reducible refine Br.b (fun hc=>?_) (fun hc=>?_)
 all_goals (refine Rt.pure (zM iD ?_);unfold aR5;(repeat' split)<;>first|rfl|omega)
theorem eqE (s:ByteArray):(s.toList==(⟨#[]⟩:ByteArray).toList)=isE s:=by
 unfold isE;have:(⟨#[]⟩:ByteArray).toList=[]:=by rw [ByteArray.toList_eq]
 rw [this]
 cases s.toList<;>rfl
theorem sk10 {A B:Prop} (k:B) (h:Hd7 B->A:=by intro q7;(first|refine sb0 ?_|refine sb1 ?_|(refine' cp7x ?hc ?_;(case hc=>first|exact ag9 _ _ (by assumption)|exact aB6 _ _ _ (by assumption) (by assumption)|exact bp3 _ _ _ _ (by assumption) (by assumption) (by assumption)|exact bd2 _ _ _ _ _ (by assumption) (by assumption) (by assumption))));exact q7.1):A:=h ⟨k⟩
theorem bd0 (x:Sch) (i j:Int) (f:Fld) (hl:x.kz.length<=1000000) (hf:∀ k∈x.kz,k.fields.length<=1000000) (hll:x.lz.length<=1000000) (hfa:fieldAt x i j=some f):APure prog 130 [schD x,iD i,iD j] (iD (ac9 x i j f)):=by
 refine eP7 func130 ntmps130 fun BB=>?_;obtain⟨h0,h1,k,hk,hkf⟩:=ak0 hfa;have hfk:=hf k (zG hk);have hka:af6 x i=some k:=by simp [af6,h0,hk]
 have hfl:=as8 k f.of
 repeat' first|refine sk10 ?_|intro b;conv=>whnf|refine IxM.mk fun y hy=>?_|with_reducible refine Br.d (fun hc=>?_) (fun hc=>?_)|with_reducible refine Br.b (fun hc=>?_) (fun hc=>?_)
 all_goals try
  (refine Rt.pure (zM iD ?_);(try simp only [eqE,zL,zR,zI,List.length_cons,List.length_nil,zY,Nat.reduceAdd] at *);unfold ac9;(repeat' split)<;>first|rfl|omega|(unfold dayE;rw [hka];(repeat' split)<;>first|rfl|omega|(simp_all;done)|(simp_all;omega)))
 have hU:ac9 x i j f=if x.lz.any (fun l=>seq l.name f.of) then 0 else 12:=by
  unfold ac9;rw [if_neg (by omega),if_neg (by omega),if_neg (by omega),if_neg (by omega),if_pos (by omega)]
 rw [hU];refine ac6 mixed aa0 (γ:=Nat) (fun q=>[(10,iD q)]) (fun _=>[(b,.cells 97 (fldC f))]) (fun q=>q<=x.lz.length/\∀ m y,m<q->x.lz[m]?=some y->seq y.name f.of=false) (fun q=>x.lz.length-q) 0 rfl rfl ⟨by omega,by omega⟩ ?_;rintro q ⟨hq,hno⟩
 repeat' first|refine sk10 ?_|intro b;conv=>whnf|refine IxM.mk fun y hy=>?_|with_reducible refine Br.d (fun hc=>?_) (fun hc=>?_)|with_reducible refine Br.b (fun hc=>?_) (fun hc=>?_)
 ·refine Rt.pure (zM iD ?_);rw [if_pos (wC.2 ⟨y,zG hy,by assumption⟩)]
 ·exact⟨q+1,rfl,rfl,⟨by omega,fun m z hm hz=>by
   by_cases e:m=q
   ·subst e;rw [show ((m:Int)).toNat=m from rfl,hz] at hy;cases hy;assumption
   ·exact hno m z (by omega) hz⟩,by omega⟩
 ·refine Rt.pure (zM iD ?_);rw [if_neg];rw [wC];rintro⟨y,hy,hs⟩;obtain⟨m,hm⟩:=yO hy;have:=hno m y (by have:=(zE.1 hm).1;omega) hm;rw [this] at hs;cases hs
end
section
open Go
theorem neE (s:ByteArray):(!(s.toList==(⟨#[]⟩:ByteArray).toList))=!isE s:=by rw [eqE]
theorem emp2 (a:List ByteArray) (b:List Int):(a.isEmpty&&b.isEmpty)=decide (¬ (0<(a.length:Int)+b.length)):=by
 cases a<;>cases b<;>simp<;>omega
theorem sk11 {A B:Prop} (k:B) (h:Hd7 B->A:=by intro q7;(first|refine sb0 ?_|refine sb1 ?_|(refine' cp7x ?hc ?_;(case hc=>first|exact HU|exact ak7 _|exact ah8 _ _ _|exact aA7 _ _ _ _|exact aU0 _ (by assumption) (by assumption))));exact q7.1):A:=h ⟨k⟩
theorem aZ4 (f:Fld) (hw:f.words.length<=1000000) (hg:f.wz.length<=1000000) (hk:f.kind=0):APure prog 212 [fldD f] (bD (ab2 f)):=by
 refine eP7 func212 ntmps212 fun BB=>?_;have HU:APure prog 244 [iD f.kind] (.tup [bD false,bD false,bD true,bD false,bD false]):=by rw [hk];exact ah1 0
 repeat' first|refine sk11 ?_|intro b;conv=>whnf|with_reducible refine Br.d (fun hc=>?_) (fun hc=>?_)|with_reducible refine Br.b (fun hc=>?_) (fun hc=>?_)
 all_goals (refine Rt.pure (zM bD ?_);(try simp only [neE,eqE] at *);simp [ab2,ap3,am4,ae1,ae0,ae3,ae2,ac5,emp2, *])
theorem aZ3 (f:Fld) (hw:f.words.length<=1000000) (hg:f.wz.length<=1000000) (hk:f.kind=1):APure prog 212 [fldD f] (bD (ab2 f)):=by
 refine eP7 func212 ntmps212 fun BB=>?_;have HU:APure prog 244 [iD f.kind] (.tup [bD true,bD false,bD true,bD true,bD false]):=by rw [hk];exact ah1 1
 repeat' first|refine sk11 ?_|intro b;conv=>whnf|with_reducible refine Br.d (fun hc=>?_) (fun hc=>?_)|with_reducible refine Br.b (fun hc=>?_) (fun hc=>?_)
 all_goals (refine Rt.pure (zM bD ?_);(try simp only [neE,eqE] at *);simp [ab2,ap3,am4,ae1,ae0,ae3,ae2,ac5,emp2, *])
theorem aZ2 (f:Fld) (hw:f.words.length<=1000000) (hg:f.wz.length<=1000000) (hk:f.kind=2):APure prog 212 [fldD f] (bD (ab2 f)):=by
 refine eP7 func212 ntmps212 fun BB=>?_;have HU:APure prog 244 [iD f.kind] (.tup [bD false,bD false,bD true,bD true,bD false]):=by rw [hk];exact ah1 2
 repeat' first|refine sk11 ?_|intro b;conv=>whnf|with_reducible refine Br.d (fun hc=>?_) (fun hc=>?_)|with_reducible refine Br.b (fun hc=>?_) (fun hc=>?_)
 all_goals (refine Rt.pure (zM bD ?_);(try simp only [neE,eqE] at *);simp [ab2,ap3,am4,ae1,ae0,ae3,ae2,ac5,emp2, *])
theorem aZ1 (f:Fld) (hw:f.words.length<=1000000) (hg:f.wz.length<=1000000) (hk:f.kind=3):APure prog 212 [fldD f] (bD (ab2 f)):=by
 refine eP7 func212 ntmps212 fun BB=>?_;have HU:APure prog 244 [iD f.kind] (.tup [bD false,bD false,bD false,bD false,bD true]):=by rw [hk];exact ah1 3
 repeat' first|refine sk11 ?_|intro b;conv=>whnf|with_reducible refine Br.d (fun hc=>?_) (fun hc=>?_)|with_reducible refine Br.b (fun hc=>?_) (fun hc=>?_)
 all_goals (refine Rt.pure (zM bD ?_);(try simp only [neE,eqE] at *);simp [ab2,ap3,am4,ae1,ae0,ae3,ae2,ac5,emp2, *])
theorem aZ0 (f:Fld) (hw:f.words.length<=1000000) (hg:f.wz.length<=1000000) (hk:f.kind=4):APure prog 212 [fldD f] (bD (ab2 f)):=by
 refine eP7 func212 ntmps212 fun BB=>?_;have HU:APure prog 244 [iD f.kind] (.tup [bD true,bD false,bD true,bD true,bD false]):=by rw [hk];exact ah1 4
 repeat' first|refine sk11 ?_|intro b;conv=>whnf|with_reducible refine Br.d (fun hc=>?_) (fun hc=>?_)|with_reducible refine Br.b (fun hc=>?_) (fun hc=>?_)
 all_goals (refine Rt.pure (zM bD ?_);(try simp only [neE,eqE] at *);simp [ab2,ap3,am4,ae1,ae0,ae3,ae2,ac5,emp2, *])
theorem aY9 (f:Fld) (hw:f.words.length<=1000000) (hg:f.wz.length<=1000000) (hk:f.kind=5):APure prog 212 [fldD f] (bD (ab2 f)):=by
 refine eP7 func212 ntmps212 fun BB=>?_;have HU:APure prog 244 [iD f.kind] (.tup [bD true,bD false,bD true,bD true,bD false]):=by rw [hk];exact ah1 5
 repeat' first|refine sk11 ?_|intro b;conv=>whnf|with_reducible refine Br.d (fun hc=>?_) (fun hc=>?_)|with_reducible refine Br.b (fun hc=>?_) (fun hc=>?_)
 all_goals (refine Rt.pure (zM bD ?_);(try simp only [neE,eqE] at *);simp [ab2,ap3,am4,ae1,ae0,ae3,ae2,ac5,emp2, *])
theorem aY8 (f:Fld) (hw:f.words.length<=1000000) (hg:f.wz.length<=1000000) (hk:f.kind=6):APure prog 212 [fldD f] (bD (ab2 f)):=by
 refine eP7 func212 ntmps212 fun BB=>?_;have HU:APure prog 244 [iD f.kind] (.tup [bD true,bD false,bD false,bD false,bD false]):=by rw [hk];exact ah1 6
 repeat' first|refine sk11 ?_|intro b;conv=>whnf|with_reducible refine Br.d (fun hc=>?_) (fun hc=>?_)|with_reducible refine Br.b (fun hc=>?_) (fun hc=>?_)
 all_goals (refine Rt.pure (zM bD ?_);(try simp only [neE,eqE] at *);simp [ab2,ap3,am4,ae1,ae0,ae3,ae2,ac5,emp2, *])
theorem aY7 (f:Fld) (hw:f.words.length<=1000000) (hg:f.wz.length<=1000000) (hk:f.kind=7):APure prog 212 [fldD f] (bD (ab2 f)):=by
 refine eP7 func212 ntmps212 fun BB=>?_;have HU:APure prog 244 [iD f.kind] (.tup [bD true,bD true,bD true,bD true,bD false]):=by rw [hk];exact ah1 7
 repeat' first|refine sk11 ?_|intro b;conv=>whnf|with_reducible refine Br.d (fun hc=>?_) (fun hc=>?_)|with_reducible refine Br.b (fun hc=>?_) (fun hc=>?_)
 all_goals (refine Rt.pure (zM bD ?_);(try simp only [neE,eqE] at *);simp [ab2,ap3,am4,ae1,ae0,ae3,ae2,ac5,emp2, *])
theorem aY6 (f:Fld) (hw:f.words.length<=1000000) (hg:f.wz.length<=1000000) (hk:f.kind=8):APure prog 212 [fldD f] (bD (ab2 f)):=by
 refine eP7 func212 ntmps212 fun BB=>?_;have HU:APure prog 244 [iD f.kind] (.tup [bD true,bD true,bD false,bD false,bD false]):=by rw [hk];exact ah1 8
 repeat' first|refine sk11 ?_|intro b;conv=>whnf|with_reducible refine Br.d (fun hc=>?_) (fun hc=>?_)|with_reducible refine Br.b (fun hc=>?_) (fun hc=>?_)
 all_goals (refine Rt.pure (zM bD ?_);(try simp only [neE,eqE] at *);simp [ab2,ap3,am4,ae1,ae0,ae3,ae2,ac5,emp2, *])
theorem aY5 (f:Fld) (hw:f.words.length<=1000000) (hg:f.wz.length<=1000000) (hk:f.kind<0\/8<f.kind):APure prog 212 [fldD f] (bD (ab2 f)):=by
 refine eP7 func212 ntmps212 fun BB=>?_;have HU:=ah1 f.kind;unfold bZ8 at HU;have:ab2 f=false:=by
  have:am4 f=false:=by unfold am4;repeat (rw [if_neg (by omega)])
  simp [ab2,this]
 rw [this]
 repeat' first|refine sk11 ?_|intro b;conv=>whnf|with_reducible refine Br.d (fun hc=>?_) (fun hc=>?_)|with_reducible refine Br.b (fun hc=>?_) (fun hc=>?_)
 all_goals (refine Rt.pure (zM bD ?_);rfl)
theorem aO6 (f:Fld) (hw:f.words.length<=1000000) (hg:f.wz.length<=1000000):APure prog 212 [fldD f] (bD (ab2 f)):=by
 by_cases hn:f.kind<0\/8<f.kind
 ·exact aY5 f hw hg hn
 ·have:f.kind=0\/f.kind=1\/f.kind=2\/f.kind=3\/f.kind=4\/f.kind=5\/f.kind=6\/f.kind=7\/f.kind=8:=by omega
  rcases this with h|h|h|h|h|h|h|h|h
  ·exact aZ4 f hw hg h
  ·exact aZ3 f hw hg h
  ·exact aZ2 f hw hg h
  ·exact aZ1 f hw hg h
  ·exact aZ0 f hw hg h
  ·exact aY9 f hw hg h
  ·exact aY8 f hw hg h
  ·exact aY7 f hw hg h
  ·exact aY6 f hw hg h
end
section
open Go
structure SmFl (f:Fld):Prop where
 w:f.words.length<=1000000
 g:f.wz.length<=1000000
theorem sk12 {A B:Prop} (k:B) (h:Hd7 B->A:=by intro q7;(first|refine sb0 ?_|refine sb1 ?_|(refine' cp7x ?hc ?_;(case hc=>first|exact ak7 _|exact ah8 _ _ _|exact aA7 _ _ _ _|exact aO6 _ (hs _ (zG hy)).w (hs _ (zG hy)).g)));exact q7.1):A:=h ⟨k⟩
theorem bw1 (k:Knd) (hs:∀ f∈k.fields,SmFl f) (hk:k.fields.length<=1000000):APure prog 174 [kndD k] (bD (ag5 k)):=by
 refine eP7 func174 ntmps174 fun BB=>?_
 cases h1:isNm k.name
 ·repeat' first|refine sk12 ?_|intro b;conv=>whnf|with_reducible refine Br.d (fun hc=>?_) (fun hc=>?_)|with_reducible refine Br.b (fun hc=>?_) (fun hc=>?_)
  all_goals (refine Rt.pure (zM bD ?_);simp [ag5,h1])
 cases h2:ap2 k.lo k.hi 0 65536
 ·repeat' first|refine sk12 ?_|intro b;conv=>whnf|with_reducible refine Br.d (fun hc=>?_) (fun hc=>?_)|with_reducible refine Br.b (fun hc=>?_) (fun hc=>?_)
  all_goals (refine Rt.pure (zM bD ?_);simp [ag5,h2])
 by_cases h3:k.fields.length<=10
 ·have hB:ag5 k=k.fields.all ab2:=by simp [ag5,h1,h2,h3]
  repeat' first|refine sk12 ?_|intro b;conv=>whnf
  refine ac6 mixed aa0 (γ:=Nat) (fun g=>[(3,iD g)]) (fun _=>[]) (fun q=>q<=k.fields.length/\∀ (m:Nat) y,m<q->k.fields[m]?=some y->ab2 y=true) (fun q=>k.fields.length-q) 0 rfl rfl ⟨by omega,fun m y hm=>by omega⟩ ?_;rintro q ⟨hq,hno⟩;by_cases hlt:q<k.fields.length
  ·obtain⟨y,hy⟩:∃ y,k.fields[(q:Int).toNat]?=some y:=⟨_,zD hlt⟩
   repeat' first|refine sk12 ?_|intro b;conv=>whnf|with_reducible refine Br.d (fun hc=>?_) (fun hc=>?_)|with_reducible refine Br.b (fun hc=>?_) (fun hc=>?_)
   ·exact⟨q+1,rfl,rfl,⟨by omega,ao1 hno hy (by assumption)⟩,by omega⟩
   ·refine Rt.pure (zM bD ?_);rw [hB,af9 hy (by assumption)]
  ·repeat' first|refine sk12 ?_|intro b;conv=>whnf|with_reducible refine Br.d (fun hc=>?_) (fun hc=>?_)|with_reducible refine Br.b (fun hc=>?_) (fun hc=>?_)
   refine Rt.pure (zM bD ?_);rw [hB,ak1 (fun m y hm hy=>hno m y (by omega) hy)]
 ·repeat' first|refine sk12 ?_|intro b;conv=>whnf|with_reducible refine Br.d (fun hc=>?_) (fun hc=>?_)|with_reducible refine Br.b (fun hc=>?_) (fun hc=>?_)
  all_goals (refine Rt.pure (zM bD ?_);simp [ag5,h3])
theorem sk13 {A B:Prop} (k:B) (h:Hd7 B->A:=by intro q7;(first|refine sb0 ?_|refine sb1 ?_|(refine' cp7x ?hc ?_;(case hc=>first|exact ak7 _|exact ah8 _ _ _|exact aE2 _ (by assumption))));exact q7.1):A:=h ⟨k⟩
theorem bw0 (x:Lif) (hs:x.tz.length<=1000000) (hm:x.mz.length<=1000000):APure prog 175 [lifD x] (bD (ag2 x)):=by
 refine eP7 func175 ntmps175 fun BB=>?_
 cases h1:isNm x.name
 ·repeat' first|refine sk13 ?_|intro b;conv=>whnf|with_reducible refine Br.d (fun hc=>?_) (fun hc=>?_)|with_reducible refine Br.b (fun hc=>?_) (fun hc=>?_)
  all_goals (refine Rt.pure (zM bD ?_);simp [ag2,h1])
 cases h2:aa3 x.tz.length 1 12
 ·repeat' first|refine sk13 ?_|intro b;conv=>whnf|with_reducible refine Br.d (fun hc=>?_) (fun hc=>?_)|with_reducible refine Br.b (fun hc=>?_) (fun hc=>?_)
  all_goals (refine Rt.pure (zM bD ?_);simp [ag2,h2])
 cases h4:x.tz.all isNm
 ·repeat' first|refine sk13 ?_|intro b;conv=>whnf|with_reducible refine Br.d (fun hc=>?_) (fun hc=>?_)|with_reducible refine Br.b (fun hc=>?_) (fun hc=>?_)
  all_goals (refine Rt.pure (zM bD ?_);simp only [ag2,h4];simp)
 by_cases h3:x.mz.length<=32
 ·have hB:ag2 x=x.mz.all (aP6 x.tz.length):=by simp only [ag2,h1,h2,h4,h3];simp
  repeat' first|refine sk13 ?_|intro b;conv=>whnf
  refine ac6 mixed aa0 (γ:=Nat) (fun g=>[(3,iD g)]) (fun _=>[]) (fun q=>q<=x.mz.length/\∀ (m:Nat) y,m<q->x.mz[m]?=some y->aP6 x.tz.length y=true) (fun q=>x.mz.length-q) 0 rfl rfl ⟨by omega,fun m y hm=>by omega⟩ ?_;rintro q ⟨hq,hno⟩;by_cases hlt:q<x.mz.length
  ·obtain⟨y,hy⟩:∃ y,x.mz[(q:Int).toNat]?=some y:=⟨_,zD hlt⟩
   repeat' first|refine sk13 ?_|intro b;conv=>whnf|with_reducible refine Br.d (fun hc=>?_) (fun hc=>?_)|with_reducible refine Br.b (fun hc=>?_) (fun hc=>?_)
   all_goals first
    | exact⟨q+1,rfl,rfl,⟨by omega,ao1 hno hy (by simp [aP6, *])⟩,by omega⟩
    | (refine Rt.pure (zM bD ?_);rw [hB,af9 hy (by simp [aP6, *])])
  ·repeat' first|refine sk13 ?_|intro b;conv=>whnf|with_reducible refine Br.d (fun hc=>?_) (fun hc=>?_)|with_reducible refine Br.b (fun hc=>?_) (fun hc=>?_)
   refine Rt.pure (zM bD ?_);rw [hB,ak1 (fun m y hm hy=>hno m y (by omega) hy)]
 ·repeat' first|refine sk13 ?_|intro b;conv=>whnf|with_reducible refine Br.d (fun hc=>?_) (fun hc=>?_)|with_reducible refine Br.b (fun hc=>?_) (fun hc=>?_)
  all_goals (refine Rt.pure (zM bD ?_);simp [ag2,h3])
theorem aT9 (r:Rul):APure prog 176 [rulD r] (bD (an5 r)):=by
 refine eP7 func176 ntmps176 fun BB=>?_
 repeat' first|refine sk13 ?_|intro b;conv=>whnf|with_reducible refine Br.d (fun hc=>?_) (fun hc=>?_)|with_reducible refine Br.b (fun hc=>?_) (fun hc=>?_)
 all_goals (refine Rt.pure (zM bD ?_);(try simp only [neE,eqE] at *);simp [an5, *])
end
section
open Go Go.RowKit Go.Shelf
section
variable {P:Program} {σ:aa1} {ρ:Operand->D}
theorem cj7 {o:Oper} {s d:TypeId} {x:Operand} {k:IntKind} {n:Int} (ho:o.op = .convert s d x) (hx:ρ x = .v (.int k n)) {ds:TypeDesc} (h1:P.underlying s=some ds) (h2:P.underlying d=some (.int .u8)) (hn:0<=n/\n<256) :
  Yd P o ρ σ (.v (.int .u8 (UInt8.ofNat n.toNat).toNat)):=by
 intro w X η hη hst;obtain⟨dst,op,ty,pos,aft,g⟩:=o;simp only at ho;subst ho;have h:=(hη x (by simp [Op.operands])).val hx;refine ag4 (s:=convert s d (η x)) (u:=.int .u8 (UInt8.ofNat n.toNat).toNat) ?_ (Ex.refl w) (.v _);rw [h];have e:IntKind.u8.wrap n=((UInt8.ofNat n.toNat).toNat:Int):=by
  have h3:(UInt8.ofNat n.toNat).toNat=n.toNat%256:=by simp
  rw [h3];have h4:IntKind.u8.wrap n=n:=by
   simp only [IntKind.wrap]
   first|omega|(simp [IntKind.bits,IntKind.signed];omega)
  rw [h4];omega
 cases ds<;>simp [convert,run_underlying h1,run_underlying h2,Conv.intToInt,e]
theorem bZ1 {o:Oper} {s d e:TypeId} {x:Operand} {c:UInt8} (ho:o.op = .convert s d x) (hx:ρ x = .sl 1 [[.v (.int .u8 c.toNat)]]) (h1:P.underlying s=some (.slice e)) (h2:P.underlying e=some (.int .u8)) (h3:P.underlying d=some .string) :
  Yd P o ρ σ (.v (.string ⟨#[c]⟩)):=by
 intro w X η hη hst;obtain⟨dst,op,ty,pos,aft,g⟩:=o;simp only at ho;subst ho;have h:=hη x (by simp [Op.operands]);rw [hx] at h;obtain⟨a,cap,vs,hv,hle,hk,hc,hr⟩:=h.sl_inv;obtain⟨b,off,rfl,_,_,hcell⟩:=hc 0 _ rfl;have h4:=hcell 0 (by omega);have h5:=(hr 0 _ rfl 0 _ rfl).val rfl;refine ag4 (s:=convert s d (η x)) (u:=.string ⟨#[c]⟩) ?_ (Ex.refl w) (.v _);rw [hv];have:=run_convert_bytes_back (P:=P) w s d e ⟨b,off,none⟩ cap [c] h1 h2 h3 (fun j hj=>by
  have:j=0:=by simpa using hj
  subst this
  simpa [Addr.add,h5] using h4)
 simpa using this
end
end
section
open Go
def intB (n:Int):Nat:=if -9999999<=n/\n<=9999999 then 8 else 21
theorem aP5 (u:Nat) (h:u<=9999999):Lib.nDigits u<=7:=by
 have step:∀ v:Nat,Lib.nDigits v<=Lib.nDigits (v/10)+1:=fun v=>by
  rw [Lib.nDigits];split
  ·omega
  ·exact zT _
 have h1:=step u;have h2:=step (u/10);have h3:=step (u/10/10);have h4:=step (u/10/10/10);have h5:=step (u/10/10/10/10);have h6:=step (u/10/10/10/10/10);have h7:Lib.nDigits (u/10/10/10/10/10/10)=1:=Lib.nDigits_small (by omega);omega
theorem af5 (n:Int):intB n<=21:=by unfold intB;split<;>omega
def ai6 (f:Fld):Nat:=16+f.name.size+f.of.size+f.up.size+intB f.lo+intB f.hi+intB f.words.length+(f.words.map fun s=>1+s.size).sum+(f.wz.map fun n=>1+intB n).sum
def sumB {α:Type} (f:α->Nat) (l:List α):Nat:=(l.map f).sum
def vO:=@List.sum_append
theorem al4 {α:Type} (f:α->Nat) (l:List α) (j:Nat) (x:α) (h:l[j]?=some x):sumB f (l.take (j+1))=sumB f (l.take j)+f x:=by
 simp [sumB,xC,h,vO]
theorem ak9 {α:Type} (f:α->Nat) (l:List α):∀ j,sumB f (l.take j)<=sumB f l:=by
 induction l with
 | nil=>intro j;simp [sumB]
 | cons x l ih=>
  intro j
  cases j with
  | zero=>simp [sumB]
  | succ j=>have:=ih j;simp only [sumB,List.take_succ_cons,List.map_cons,List.sum_cons] at *;omega
def kndB (k:Knd):Nat:=8+k.name.size+intB k.lo+intB k.hi+sumB ai6 k.fields
def movB (m:Int × Int):Nat:=7+intB m.1+intB m.2
def lifB (x:Lif):Nat:=7+x.name.size+intB x.tz.length+sumB (fun s=>1+s.size) x.tz+sumB movB x.mz
def rulB (r:Rul):Nat:=12+r.name.size+r.kind.size+r.a.size+r.b.size+intB r.n
def srcB (x:Sch):Nat:=29+sumB kndB x.kz+sumB lifB x.lz+sumB rulB x.rules
def decN (m:Nat):ByteArray:=if m<10 then ⟨#[UInt8.ofNat (48+m)]⟩ else decN (m/10)++⟨#[UInt8.ofNat (48+m%10)]⟩
termination_by m
decreasing_by omega
theorem aI3 {m:Nat} (h:m<10):decN m=⟨#[UInt8.ofNat (48+m)]⟩:=by rw [decN,if_pos h]
theorem aV3 {m:Nat} (h:¬ m<10):decN m=decN (m/10)++⟨#[UInt8.ofNat (48+m%10)]⟩:=by rw [decN,if_neg h]
def yU:=@ByteArray.size_append
theorem at8:∀ (c m:Nat),m<10 ^ (c+1)->(decN m).size<=c+1
 | 0,m,h=>by rw [aI3 (by omega)];exact zT 1
 | c+1,m,h=>by
  by_cases hm:m<10
  ·rw [aI3 hm];show 1<=_;omega
  ·rw [aV3 hm,yU];have:=at8 c (m/10) (by rw [Nat.pow_succ] at h;omega)
   show _+1<=_;omega
def decS (n:Int):ByteArray:=if n<0 then (⟨#[45]⟩:ByteArray)++decN (-n).toNat else decN n.toNat
theorem bg2 {n:Int} (h:-9223372036854775807<=n/\n<=9223372036854775807):(decS n).size<=intB n:=by
 have one:(⟨#[45]⟩:ByteArray).size=1:=rfl;unfold decS intB;split
 ·rw [yU,one];split
  ·have:=at8 6 (-n).toNat (by omega);omega
  ·have:=at8 18 (-n).toNat (by omega);omega
 ·split
  ·have:=at8 6 n.toNat (by omega);omega
  ·have:=at8 18 n.toNat (by omega);omega
def andS (s:ByteArray) (n:Int):ByteArray:=s++(⟨#[32]⟩:ByteArray)++decS n
theorem ak6 {s:ByteArray} {n:Int} (h:-9223372036854775807<=n/\n<=9223372036854775807):(andS s n).size<=s.size+1+intB n:=by
 unfold andS;rw [yU,yU];have:=bg2 h;have:(⟨#[32]⟩:ByteArray).size=1:=rfl;omega
def aw1 (s:ByteArray):ByteArray:=if isE s then ⟨#[45]⟩ else s
theorem bP6 {s:ByteArray} (h:isE s=true):s.size=0:=by
 unfold isE at h;rw [ByteArray.toList_eq] at h;have:s.data.toList=[]:=by simpa using h
 have h2:=zM List.length this
 simpa using h2
theorem ax1 (s:ByteArray):(aw1 s).size<=s.size+1:=by
 unfold aw1;split
 ·show 1<=_;omega
 ·omega
end
section
open Go
theorem bU5 (m:Nat):((m:Int).tdiv 10)=((m/10:Nat):Int):=rfl
theorem ck7 (m:Nat):((m:Int).tmod 10)=((m%10:Nat):Int):=rfl
theorem u5x {A B:Prop} (k:B) (h:Hd7 B->A:=by intro q7;(first|refine u3x ?_|refine u1x ?_|((with_reducible refine Ck.go ?qs7 ?_);(case qs7=>kernel_rfl))|((with_reducible refine' Ix.mapAt ?hy ?h0 ?_);(case hy=>assumption);(case h0=>omega))|((with_reducible refine' Ix.at ?hy ?h0 ?_);(case hy=>exact rfl);(case h0=>omega))|((with_reducible refine Ix.mapM ?h0 ?_);(case h0=>first|omega|(simp only [zL,zR,zI,List.length_cons,List.length_nil,zY,Nat.reduceAdd] at *;omega))));exact q7.1):A:=h ⟨k⟩
theorem u2x {A B:Prop} (k:B) (h:Hd7 B->A:=by intro q7;(first|((with_reducible refine' Rs.tc aa0 (m:=0) ?h ?hi ?hj ?hb ?ht ?hag ?hs ?_);(case h=>exact rfl);(case hi=>exact rfl);(case hj=>exact rfl);(case hb=>exact rfl);(case ht=>exact rfl);(case hag=>exact rfl);(case hs=>exact rfl))|((with_reducible refine' Rs.ct aa0 (m:=0) ?h ?hi ?hj ?hb ?ht ?hag ?hs ?_);(case h=>exact rfl);(case hi=>exact rfl);(case hj=>exact rfl);(case hb=>exact rfl);(case ht=>exact rfl);(case hag=>exact rfl);(case hs=>exact rfl))|((with_reducible refine' Rs.c aa0 (m:=0) ?h ?hj ?hb ?ht ?hag ?hs ?_);(case h=>exact rfl);(case hj=>exact rfl);(case hb=>exact rfl);(case ht=>exact rfl);(case hag=>exact rfl);(case hs=>exact rfl))|((with_reducible refine pA5 ?h ?_);(case h=>omega))|((with_reducible refine Br.df ?h ?_);(case h=>omega))|((with_reducible refine Br.t ?h ?_);(case h=>assumption))|((with_reducible refine Br.f ?h ?_);(case h=>assumption))|((with_reducible refine Br.t ?h ?_);(case h=>(refine yJ ?_;omega)))|((with_reducible refine Br.f ?h ?_);(case h=>(refine yE ?_;omega))));exact q7.1):A:=h ⟨k⟩
theorem sb14 {A B:Prop} (k:B) (h:Hd7 B->A:=by intro q7;(first|refine u5x ?_|((with_reducible refine' Ld.at 0 ?h1 ?h2 ?h3 ?_);(case h1=>exact rfl);(case h2=>exact rfl);(case h3=>exact rfl))|((with_reducible refine' Ld.at 1 ?h1 ?h2 ?h3 ?_);(case h1=>exact rfl);(case h2=>exact rfl);(case h3=>exact rfl))|((with_reducible refine' Ld.at 2 ?h1 ?h2 ?h3 ?_);(case h1=>exact rfl);(case h2=>exact rfl);(case h3=>exact rfl))|((with_reducible refine' Sv.at 0 ?h1 ?h2 ?h3 ?h4 ?h5 ?_);(case h1=>exact rfl);(case h2=>exact rfl);(case h3=>exact rfl);(case h4=>exact rfl);(case h5=>exact (by first|(simp only [List.set_cons_succ,List.set_cons_zero,spl,ag3,mkD,List.take_succ_cons,List.take_zero,List.drop_succ_cons,List.drop_zero,List.length_cons,List.length_nil,List.nil_append,List.cons_append,Nat.reduceAdd,xD,zZ,List.map_cons,List.map_nil];rfl)|rfl)))|((with_reducible refine' Sv.at 1 ?h1 ?h2 ?h3 ?h4 ?h5 ?_);(case h1=>exact rfl);(case h2=>exact rfl);(case h3=>exact rfl);(case h4=>exact rfl);(case h5=>exact (by first|(simp only [List.set_cons_succ,List.set_cons_zero,spl,ag3,mkD,List.take_succ_cons,List.take_zero,List.drop_succ_cons,List.drop_zero,List.length_cons,List.length_nil,List.nil_append,List.cons_append,Nat.reduceAdd,xD,zZ,List.map_cons,List.map_nil];rfl)|rfl)))|((with_reducible refine' Sv.at 2 ?h1 ?h2 ?h3 ?h4 ?h5 ?_);(case h1=>exact rfl);(case h2=>exact rfl);(case h3=>exact rfl);(case h4=>exact rfl);(case h5=>exact (by first|(simp only [List.set_cons_succ,List.set_cons_zero,spl,ag3,mkD,List.take_succ_cons,List.take_zero,List.drop_succ_cons,List.drop_zero,List.length_cons,List.length_nil,List.nil_append,List.cons_append,Nat.reduceAdd,xD,zZ,List.map_cons,List.map_nil];rfl)|rfl)))|((with_reducible refine' Ot.yd ?hyd ?_);(case hyd=>first|(refine cj7 rfl rfl underlying3 underlying5 ?_;omega)|exact bZ1 rfl rfl underlying23 underlying5 underlying9))|refine u2x ?_);exact q7.1):A:=h ⟨k⟩
theorem sk15 {A B:Prop} (k:B) (h:Hd7 B->A:=by intro q7;(first|refine sb14 ?_|refine sb1 ?_|(refine' cp7x ?hc ?_;(case hc=>exact IH)));exact q7.1):A:=h ⟨k⟩
theorem bp4:∀ m:Nat,m<=9223372036854775807->APure prog 246 [iD m] (sD (decN m)):=by
 intro m
 induction m using Nat.strongRecOn with
 | ind m ih=>
 intro hm;refine eP7 func246 ntmps246 fun BB=>?_;by_cases h:m<10
 ·repeat' first|refine sk15 ?_|intro b;conv=>whnf
  refine Rt.pure (zM sD ?_);rw [aI3 h];rfl
 ·have IH:=ih (m/10) (by omega) (by omega);rw [← bU5] at IH;have h1:((m:Int).tmod 10)=((m%10:Nat):Int):=ck7 m;have hsz:=at8 18 (m/10) (by omega);have one:(⟨#[UInt8.ofNat (48+(m:Int).tmod 10).toNat]⟩:ByteArray).size=1:=rfl
  repeat' first|refine sk15 ?_|intro b;conv=>whnf
  refine Sd.go ⟨by decide,by rw [bU5];constructor<;>omega⟩ ?_
  repeat' first|refine sk15 ?_|intro b;conv=>whnf
  refine Rt.pure (zM sD ?_);rw [aV3 h];rfl
theorem sk16 {A B:Prop} (k:B) (h:Hd7 B->A:=by intro q7;(first|refine sb14 ?_|refine sb1 ?_|(refine' cp7x ?hc ?_;(case hc=>exact HN)));exact q7.1):A:=h ⟨k⟩
theorem bD0 (n:Int) (h:-9223372036854775807<=n/\n<=9223372036854775807):APure prog 246 [iD n] (sD (decS n)):=by
 by_cases h0:n<0
 ·have HN:=bp4 (-n).toNat (by omega);rw [show (((-n).toNat:Nat):Int) = -n by omega] at HN;have hsz:=at8 18 (-n).toNat (by omega);have one:(⟨#[45]⟩:ByteArray).size=1:=rfl;refine eP7 func246 ntmps246 fun BB=>?_
  repeat' first|refine sk16 ?_|intro b;conv=>whnf
  refine Rt.pure (zM sD ?_);unfold decS;rw [if_pos h0]
 ·have:=bp4 n.toNat (by omega);rw [show ((n.toNat:Nat):Int)=n by omega] at this;unfold decS;rw [if_neg h0];exact this
theorem sk17 {A B:Prop} (k:B) (h:Hd7 B->A:=by intro q7;(first|refine sb14 ?_|refine sb1 ?_|(refine' cp7x ?hc ?_;(case hc=>exact bD0 _ (by assumption))));exact q7.1):A:=h ⟨k⟩
theorem aZ5 (s:ByteArray) (n:Int) (hs:s.size<=1000000000) (h:-9223372036854775807<=n/\n<=9223372036854775807):APure prog 214 [sD s,iD n] (sD (andS s n)):=by
 have h1:=bg2 h;have h2:=af5 n;have one:(⟨#[32]⟩:ByteArray).size=1:=rfl;have h3:(s++(⟨#[32]⟩:ByteArray)).size=s.size+1:=by rw [yU,one]
 refine eP7 func214 ntmps214 fun BB=>?_
 repeat' first|refine sk17 ?_|intro b;conv=>whnf
 exact Rt.pure rfl
theorem aE3 (s:ByteArray):APure prog 216 [sD s] (sD (aw1 s)):=by
 refine eP7 func216 ntmps216 fun BB=>?_
 repeat' first|refine sk17 ?_|intro b;conv=>whnf|with_reducible refine Br.d (fun hc=>?_) (fun hc=>?_)|with_reducible refine Br.b (fun hc=>?_) (fun hc=>?_)
 ·refine Rt.pure (zM sD ?_);unfold aw1;rw [← eqE,if_pos (by assumption)]
 ·refine Rt.pure (zM sD ?_);unfold aw1;rw [← eqE,hc];rfl
def av5:List ByteArray:=[⟨#[107,101,121]⟩,⟨#[114,101,102]⟩,⟨#[110,117,109]⟩,⟨#[112,105,99,107]⟩,⟨#[100,97,121]⟩,⟨#[115,116,101,112]⟩,⟨#[115,117,109]⟩,⟨#[115,104,97,114,101]⟩,⟨#[99,111,112,121]⟩]
theorem bd4:APure prog 247 [] (slS av5):=by
 refine eP7 func247 ntmps247 fun BB=>?_
 repeat' first|refine sk17 ?_|intro b;conv=>whnf
 exact Rt.pure rfl
end
section
open Go
structure aB5 (f:Fld):Prop where
 lo:-9223372036854775807<=f.lo/\f.lo<=9223372036854775807
 hi:-9223372036854775807<=f.hi/\f.hi<=9223372036854775807
 ws:∀ n∈f.wz,-9223372036854775807<=n/\n<=9223372036854775807
def sp:ByteArray:=⟨#[32]⟩
def aZ8 (out:ByteArray) (f:Fld):Nat->ByteArray
 | 0=>andS out f.words.length
 | q+1=>match f.words[q]?,f.wz[q]? with
  | some s,some n=>andS (aZ8 out f q++sp++s) n
  | _,_=>aZ8 out f q
def ar6 (f:Fld):ByteArray:=
 let o0:=(⟨#[10]⟩:ByteArray)++(av5[f.kind.toNat]?).getD ⟨#[]⟩++sp++f.name
 let o1:=if ae0 f.kind then o0++sp++f.up else o0
 let o2:=if ae1 f.kind then o1++sp++aw1 f.of else o1
 let o3:=if ae3 f.kind then andS o2 f.lo else o2
 let o4:=if ae2 f.kind then andS o3 f.hi else o3
 if ac5 f.kind then aZ8 o4 f f.words.length else o4
theorem sz1 (c:UInt8):(⟨#[c]⟩:ByteArray).size<=1:=zT 1
theorem sz0:(⟨#[]⟩:ByteArray).size<=0:=zT 0
theorem szA {a b:ByteArray} {m n:Nat} (h:a.size<=m) (k:b.size<=n):(a++b).size<=m+n:=by rw [yU];omega
theorem aN0 {s:ByteArray} {n:Int} {m:Nat} (h:s.size<=m) (k:-9223372036854775807<=n/\n<=9223372036854775807):(andS s n).size<=m+22:=by have:=ak6 (s:=s) k;have:=af5 n;omega
theorem szN {s:ByteArray} {m:Nat} (h:s.size<=m):(aw1 s).size<=m+1:=by have:=ax1 s;omega
theorem szLe {s:ByteArray} {m M:Nat} (h:s.size<=m) (k:m<=M):s.size<=M:=xH h k
theorem ck9 {a b:ByteArray} {m n M:Nat} (h:a.size<=m) (k:b.size<=n) (c:m+n<=M):a.size+b.size<=M:=by omega
theorem u8x {A B:Prop} (k:B) (h:Hd7 B->A:=by intro q7;(first|refine u3x ?_|((with_reducible refine' Br.eq ?h ?_);(case h=>(simp only [zL,zR,zI,List.length_cons,List.length_nil,zY,Nat.reduceAdd];exact rfl))));exact q7.1):A:=h ⟨k⟩
theorem sb18 {A B:Prop} (k:B) (h:Hd7 B->A:=by intro q7;(first|refine u8x ?_|((with_reducible refine Sd.go ?s ?_);(case s=>first|trivial|(constructor<;>omega)|omega|assumption|(refine' ck9 ?a ?b ?c;(case a=>repeat' (first|((show (_:Nat)<=_);assumption)|exact sz1 _|exact sz0|(refine' aN0 ?_ (by assumption))|refine' szN ?_|refine' szA ?_ ?_));(case b=>repeat' (first|((show (_:Nat)<=_);assumption)|exact sz1 _|exact sz0|(refine' aN0 ?_ (by assumption))|refine' szN ?_|refine' szA ?_ ?_));(case c=>first|decide|omega))))|refine u0x ?_);exact q7.1):A:=h ⟨k⟩
theorem sk19 {A B:Prop} (k:B) (h:Hd7 B->A:=by intro q7;(first|refine sb18 ?_|refine sb1 ?_|(refine' cp7x ?hc ?_;(case hc=>first|exact HU|exact bd4|exact aE3 _|(refine aZ5 _ _ ?hs ?hn;(case hn=>first|assumption|omega|(simp only [zL,zR,zI,List.length_cons,List.length_nil,zY,Nat.reduceAdd];omega));(case hs=>(refine' szLe ?a ?c;(case a=>repeat' (first|((show (_:Nat)<=_);assumption)|exact sz1 _|exact sz0|(refine' aN0 ?_ (by assumption))|refine' szN ?_|refine' szA ?_ ?_));(case c=>first|decide|omega)))))));exact q7.1):A:=h ⟨k⟩
theorem bv9 (f:Fld) (hk:f.kind=0) (hs:aB5 f) (hn1:f.name.size<=100000) (hn2:f.of.size<=100000) (hn3:f.up.size<=100000) (hws:∀ s∈f.words,s.size<=100000) (hwl:f.words.length<=12) (hp:ac5 f.kind=true->f.words.length=f.wz.length):APure prog 215 [fldD f] (sD (ar6 f)):=by
 have hlo:=hs.lo;have hhi:=hs.hi;have HU:APure prog 244 [iD f.kind] (.tup [bD false,bD false,bD true,bD false,bD false]):=by rw [hk];exact ah1 0
 have hy:av5[f.kind.toNat]?=some ⟨#[107,101,121]⟩:=by rw [hk];rfl
 have hw0:(⟨#[107,101,121]⟩:ByteArray).size<=9:=by decide
 refine eP7 func215 ntmps215 fun BB=>?_
 repeat' first|refine sk19 ?_|intro b;conv=>whnf
 refine Rt.pure (zM sD ?_);unfold ar6;rw [hy];simp [hk,ae0,ae1,ae3,ae2,ac5,sp]
theorem bv8 (f:Fld) (hk:f.kind=1) (hs:aB5 f) (hn1:f.name.size<=100000) (hn2:f.of.size<=100000) (hn3:f.up.size<=100000) (hws:∀ s∈f.words,s.size<=100000) (hwl:f.words.length<=12) (hp:ac5 f.kind=true->f.words.length=f.wz.length):APure prog 215 [fldD f] (sD (ar6 f)):=by
 have hlo:=hs.lo;have hhi:=hs.hi;have HU:APure prog 244 [iD f.kind] (.tup [bD true,bD false,bD true,bD true,bD false]):=by rw [hk];exact ah1 1
 have hy:av5[f.kind.toNat]?=some ⟨#[114,101,102]⟩:=by rw [hk];rfl
 have hw0:(⟨#[114,101,102]⟩:ByteArray).size<=9:=by decide
 refine eP7 func215 ntmps215 fun BB=>?_
 repeat' first|refine sk19 ?_|intro b;conv=>whnf
 refine Rt.pure (zM sD ?_);unfold ar6;rw [hy];simp [hk,ae0,ae1,ae3,ae2,ac5,sp]
theorem bv7 (f:Fld) (hk:f.kind=2) (hs:aB5 f) (hn1:f.name.size<=100000) (hn2:f.of.size<=100000) (hn3:f.up.size<=100000) (hws:∀ s∈f.words,s.size<=100000) (hwl:f.words.length<=12) (hp:ac5 f.kind=true->f.words.length=f.wz.length):APure prog 215 [fldD f] (sD (ar6 f)):=by
 have hlo:=hs.lo;have hhi:=hs.hi;have HU:APure prog 244 [iD f.kind] (.tup [bD false,bD false,bD true,bD true,bD false]):=by rw [hk];exact ah1 2
 have hy:av5[f.kind.toNat]?=some ⟨#[110,117,109]⟩:=by rw [hk];rfl
 have hw0:(⟨#[110,117,109]⟩:ByteArray).size<=9:=by decide
 refine eP7 func215 ntmps215 fun BB=>?_
 repeat' first|refine sk19 ?_|intro b;conv=>whnf
 refine Rt.pure (zM sD ?_);unfold ar6;rw [hy];simp [hk,ae0,ae1,ae3,ae2,ac5,sp]
theorem cl2 {p:Prop} (h:p:=by repeat (first|exact Chk.nil|refine Chk.cons rfl ?_)):p:=h
theorem bv6 (f:Fld) (hk:f.kind=3) (hs:aB5 f) (hn1:f.name.size<=100000) (hn2:f.of.size<=100000) (hn3:f.up.size<=100000) (hws:∀ s∈f.words,s.size<=100000) (hwl:f.words.length<=12) (hp:ac5 f.kind=true->f.words.length=f.wz.length):APure prog 215 [fldD f] (sD (ar6 f)):=by
 have hlo:=hs.lo;have hhi:=hs.hi;have HU:APure prog 244 [iD f.kind] (.tup [bD false,bD false,bD false,bD false,bD true]):=by rw [hk];exact ah1 3
 have hy:av5[f.kind.toNat]?=some ⟨#[112,105,99,107]⟩:=by rw [hk];rfl
 have hw0:(⟨#[112,105,99,107]⟩:ByteArray).size<=9:=by decide
 refine eP7 func215 ntmps215 fun BB=>?_
 repeat' first|refine sk19 ?_|intro b;conv=>whnf
 have hn4:-9223372036854775807<=(f.words.length:Int)/\(f.words.length:Int)<=9223372036854775807:=by omega
 have hwg:=hp (by rw [hk];rfl);obtain⟨o0,ho0⟩:∃ o0,o0=({ data:=#[10] } ++ { data:=#[112,105,99,107] } ++ { data:=#[32] } ++ f.name:ByteArray):=⟨_,rfl⟩
 have hz0:o0.size<=100100:=by rw [ho0];(refine' szLe ?a ?c;(case a=>repeat' (first|((show (_:Nat)<=_);assumption)|exact sz1 _|exact sz0|(refine' aN0 ?_ (by assumption))|refine' szN ?_|refine' szA ?_ ?_));(case c=>first|decide|omega))
 have hz1:(andS o0 f.words.length).size<=100122:=szLe (aN0 hz0 hn4) (by decide);simp only [zL,← ho0];refine ac6 mixed aa0 (γ:=Nat × ByteArray) (fun g=>[(8,sD g.2),(9,iD g.1)]) (fun _=>[]) (fun g=>g.1<=f.words.length/\g.2=aZ8 o0 f g.1/\g.2.size<=100122+100023*g.1) (fun g=>f.words.length-g.1) (0,andS o0 f.words.length) rfl rfl ⟨zW _,rfl,by simp only;omega⟩ ?_;rintro⟨q,t⟩ ⟨hq,ht,hz⟩;simp only at hq ht hz ⊢;by_cases hlt:q<f.words.length
 ·obtain⟨y,hy1⟩:∃ y,f.words[(q:Int).toNat]?=some y:=⟨_,zD hlt⟩
  obtain⟨z,hy2⟩:∃ z,f.wz[(q:Int).toNat]?=some z:=⟨_,zD (by simpa using (show q<f.wz.length by omega))⟩
  have hys:=hws y (zG hy1);have hzs:=hs.ws z (zG hy2);have hz':t.size<=1300398:=by omega
  repeat' first|refine sk19 ?_|intro b;conv=>whnf
  have hzn:(andS (t++{ data:=#[32] } ++ y) z).size<=t.size+1+y.size+22:=aN0 (szA (szA (zT _) (sz1 _)) (zT _)) hzs;refine⟨(q+1,andS (t++{ data:=#[32] } ++ y) z),(aa2 cl2),rfl,⟨by simp only;omega,?_,by simp only;omega⟩,by simp only;omega⟩;simp only [aZ8];rw [show f.words[q]?=some y from hy1,show f.wz[q]?=some z from hy2,← ht]
  rfl
 ·obtain rfl:q=f.words.length:=by omega
  repeat' first|refine sk19 ?_|intro b;conv=>whnf
  refine Rt.pure (zM sD ?_);unfold ar6;rw [hy,ht,ho0];simp [hk,ae0,ae1,ae3,ae2,ac5,sp]
theorem bv5 (f:Fld) (hk:f.kind=4) (hs:aB5 f) (hn1:f.name.size<=100000) (hn2:f.of.size<=100000) (hn3:f.up.size<=100000) (hws:∀ s∈f.words,s.size<=100000) (hwl:f.words.length<=12) (hp:ac5 f.kind=true->f.words.length=f.wz.length):APure prog 215 [fldD f] (sD (ar6 f)):=by
 have hlo:=hs.lo;have hhi:=hs.hi;have HU:APure prog 244 [iD f.kind] (.tup [bD true,bD false,bD true,bD true,bD false]):=by rw [hk];exact ah1 4
 have hy:av5[f.kind.toNat]?=some ⟨#[100,97,121]⟩:=by rw [hk];rfl
 have hw0:(⟨#[100,97,121]⟩:ByteArray).size<=9:=by decide
 refine eP7 func215 ntmps215 fun BB=>?_
 repeat' first|refine sk19 ?_|intro b;conv=>whnf
 refine Rt.pure (zM sD ?_);unfold ar6;rw [hy];simp [hk,ae0,ae1,ae3,ae2,ac5,sp]
theorem bv4 (f:Fld) (hk:f.kind=5) (hs:aB5 f) (hn1:f.name.size<=100000) (hn2:f.of.size<=100000) (hn3:f.up.size<=100000) (hws:∀ s∈f.words,s.size<=100000) (hwl:f.words.length<=12) (hp:ac5 f.kind=true->f.words.length=f.wz.length):APure prog 215 [fldD f] (sD (ar6 f)):=by
 have hlo:=hs.lo;have hhi:=hs.hi;have HU:APure prog 244 [iD f.kind] (.tup [bD true,bD false,bD true,bD true,bD false]):=by rw [hk];exact ah1 5
 have hy:av5[f.kind.toNat]?=some ⟨#[115,116,101,112]⟩:=by rw [hk];rfl
 have hw0:(⟨#[115,116,101,112]⟩:ByteArray).size<=9:=by decide
 refine eP7 func215 ntmps215 fun BB=>?_
 repeat' first|refine sk19 ?_|intro b;conv=>whnf
 refine Rt.pure (zM sD ?_);unfold ar6;rw [hy];simp [hk,ae0,ae1,ae3,ae2,ac5,sp]
theorem bv3 (f:Fld) (hk:f.kind=6) (hs:aB5 f) (hn1:f.name.size<=100000) (hn2:f.of.size<=100000) (hn3:f.up.size<=100000) (hws:∀ s∈f.words,s.size<=100000) (hwl:f.words.length<=12) (hp:ac5 f.kind=true->f.words.length=f.wz.length):APure prog 215 [fldD f] (sD (ar6 f)):=by
 have hlo:=hs.lo;have hhi:=hs.hi;have HU:APure prog 244 [iD f.kind] (.tup [bD true,bD false,bD false,bD false,bD false]):=by rw [hk];exact ah1 6
 have hy:av5[f.kind.toNat]?=some ⟨#[115,117,109]⟩:=by rw [hk];rfl
 have hw0:(⟨#[115,117,109]⟩:ByteArray).size<=9:=by decide
 refine eP7 func215 ntmps215 fun BB=>?_
 repeat' first|refine sk19 ?_|intro b;conv=>whnf
 refine Rt.pure (zM sD ?_);unfold ar6;rw [hy];simp [hk,ae0,ae1,ae3,ae2,ac5,sp]
theorem bv2 (f:Fld) (hk:f.kind=7) (hs:aB5 f) (hn1:f.name.size<=100000) (hn2:f.of.size<=100000) (hn3:f.up.size<=100000) (hws:∀ s∈f.words,s.size<=100000) (hwl:f.words.length<=12) (hp:ac5 f.kind=true->f.words.length=f.wz.length):APure prog 215 [fldD f] (sD (ar6 f)):=by
 have hlo:=hs.lo;have hhi:=hs.hi;have HU:APure prog 244 [iD f.kind] (.tup [bD true,bD true,bD true,bD true,bD false]):=by rw [hk];exact ah1 7
 have hy:av5[f.kind.toNat]?=some ⟨#[115,104,97,114,101]⟩:=by rw [hk];rfl
 have hw0:(⟨#[115,104,97,114,101]⟩:ByteArray).size<=9:=by decide
 refine eP7 func215 ntmps215 fun BB=>?_
 repeat' first|refine sk19 ?_|intro b;conv=>whnf
 refine Rt.pure (zM sD ?_);unfold ar6;rw [hy];simp [hk,ae0,ae1,ae3,ae2,ac5,sp]
theorem bv1 (f:Fld) (hk:f.kind=8) (hs:aB5 f) (hn1:f.name.size<=100000) (hn2:f.of.size<=100000) (hn3:f.up.size<=100000) (hws:∀ s∈f.words,s.size<=100000) (hwl:f.words.length<=12) (hp:ac5 f.kind=true->f.words.length=f.wz.length):APure prog 215 [fldD f] (sD (ar6 f)):=by
 have hlo:=hs.lo;have hhi:=hs.hi;have HU:APure prog 244 [iD f.kind] (.tup [bD true,bD true,bD false,bD false,bD false]):=by rw [hk];exact ah1 8
 have hy:av5[f.kind.toNat]?=some ⟨#[99,111,112,121]⟩:=by rw [hk];rfl
 have hw0:(⟨#[99,111,112,121]⟩:ByteArray).size<=9:=by decide
 refine eP7 func215 ntmps215 fun BB=>?_
 repeat' first|refine sk19 ?_|intro b;conv=>whnf
 refine Rt.pure (zM sD ?_);unfold ar6;rw [hy];simp [hk,ae0,ae1,ae3,ae2,ac5,sp]
theorem bM6 (f:Fld) (hk:0<=f.kind/\f.kind<=8) (hs:aB5 f) (hn1:f.name.size<=100000) (hn2:f.of.size<=100000) (hn3:f.up.size<=100000) (hws:∀ s∈f.words,s.size<=100000) (hwl:f.words.length<=12) (hp:ac5 f.kind=true->f.words.length=f.wz.length):APure prog 215 [fldD f] (sD (ar6 f)):=by
 have:f.kind=0\/f.kind=1\/f.kind=2\/f.kind=3\/f.kind=4\/f.kind=5\/f.kind=6\/f.kind=7\/f.kind=8:=by omega
 rcases this with h|h|h|h|h|h|h|h|h
 ·exact bv9 f h hs hn1 hn2 hn3 hws hwl hp
 ·exact bv8 f h hs hn1 hn2 hn3 hws hwl hp
 ·exact bv7 f h hs hn1 hn2 hn3 hws hwl hp
 ·exact bv6 f h hs hn1 hn2 hn3 hws hwl hp
 ·exact bv5 f h hs hn1 hn2 hn3 hws hwl hp
 ·exact bv4 f h hs hn1 hn2 hn3 hws hwl hp
 ·exact bv3 f h hs hn1 hn2 hn3 hws hwl hp
 ·exact bv2 f h hs hn1 hn2 hn3 hws hwl hp
 ·exact bv1 f h hs hn1 hn2 hn3 hws hwl hp
theorem bB1 (g:Int->Nat) (l:List Int) (q:Nat) (z:Int) (h:l[q]?=some z):((l.take (q+1)).map g).sum=((l.take q).map g).sum+g z:=by
 simp [xC,h,vO]
theorem bu2 (g:ByteArray->Nat) (l:List ByteArray) (q:Nat) (z:ByteArray) (h:l[q]?=some z):((l.take (q+1)).map g).sum=((l.take q).map g).sum+g z:=by
 simp [xC,h,vO]
theorem aU2 (o:ByteArray) (f:Fld) (hs:∀ n∈f.wz,-9223372036854775807<=n/\n<=9223372036854775807) (hl:f.words.length<=12):∀ q,q<=f.words.length->q<=f.wz.length->(aZ8 o f q).size<=o.size+1+intB f.words.length+((f.words.take q).map fun s=>1+s.size).sum+((f.wz.take q).map fun n=>1+intB n).sum
 | 0,_,_=>by
  have:=ak6 (s:=o) (n:=(f.words.length:Int)) (by omega)
  simpa [aZ8] using this
 | q+1,h1,h2=>by
  have ih:=aU2 o f hs hl q (by omega) (by omega);obtain⟨y,hy⟩:∃ y,f.words[q]?=some y:=⟨_,zD (by omega)⟩
  obtain⟨z,hz⟩:∃ z,f.wz[q]?=some z:=⟨_,zD (by omega)⟩
  rw [bB1 _ _ _ _ hz,bu2 _ _ _ _ hy];simp only [aZ8,hy,hz];have h3:=ak6 (s:=aZ8 o f q++sp++y) (n:=z) (hs z (zG hz));rw [yU,yU] at h3;have:sp.size=1:=rfl;omega
theorem bw9 (f:Fld) (hk:0<=f.kind/\f.kind<=8) (hs:aB5 f) (hwl:f.words.length<=12) (hp:ac5 f.kind=true->f.words.length=f.wz.length):(ar6 f).size<=ai6 f:=by
 have hsp:sp.size=1:=rfl;have h10:(⟨#[10]⟩:ByteArray).size=1:=rfl;have hw:((av5[f.kind.toNat]?).getD ⟨#[]⟩).size<=5:=by
  have:f.kind=0\/f.kind=1\/f.kind=2\/f.kind=3\/f.kind=4\/f.kind=5\/f.kind=6\/f.kind=7\/f.kind=8:=by omega
  rcases this with h|h|h|h|h|h|h|h|h<;>rw [h]<;>decide
 unfold ar6 ai6;generalize (av5[f.kind.toNat]?).getD ⟨#[]⟩=w0 at *;have e0:((⟨#[10]⟩:ByteArray)++w0++sp++f.name).size=2+w0.size+f.name.size:=by simp only [yU];omega
 generalize ((⟨#[10]⟩:ByteArray)++w0++sp++f.name)=o0 at *;simp only;have e1:(if ae0 f.kind=true then o0++sp++f.up else o0).size<=o0.size+1+f.up.size:=by
  split
  ·simp only [yU];omega
  ·omega
 generalize (if ae0 f.kind=true then o0++sp++f.up else o0)=o1 at *;have e2:(if ae1 f.kind=true then o1++sp++aw1 f.of else o1).size<=o1.size+2+f.of.size:=by
  have:=ax1 f.of;split
  ·simp only [yU];omega
  ·omega
 generalize (if ae1 f.kind=true then o1++sp++aw1 f.of else o1)=o2 at *;have e3:(if ae3 f.kind=true then andS o2 f.lo else o2).size<=o2.size+1+intB f.lo:=by
  split
  ·exact ak6 hs.lo
  ·omega
 generalize (if ae3 f.kind=true then andS o2 f.lo else o2)=o3 at *;have e4:(if ae2 f.kind=true then andS o3 f.hi else o3).size<=o3.size+1+intB f.hi:=by
  split
  ·exact ak6 hs.hi
  ·omega
 generalize (if ae2 f.kind=true then andS o3 f.hi else o3)=o4 at *;split
 ·rename_i hu;have:=aU2 o4 f hs.ws hwl f.words.length (zT _) (by have:=hp hu;omega);rw [yM,hp hu,yM,← hp hu] at this;omega
 ·omega
end
section
open Go
structure cv2 (f:Fld):Prop where
 kind:0<=f.kind/\f.kind<=8
 sane:aB5 f
 name:f.name.size<=100000
 of:f.of.size<=100000
 up:f.up.size<=100000
 ws:∀ s∈f.words,s.size<=100000
 wl:f.words.length<=12
 pw:ac5 f.kind=true->f.words.length=f.wz.length
structure cy6 (k:Knd):Prop where
 name:k.name.size<=100000
 lo:-9223372036854775807<=k.lo/\k.lo<=9223372036854775807
 hi:-9223372036854775807<=k.hi/\k.hi<=9223372036854775807
 fs:∀ f∈k.fields,cv2 f
 fl:k.fields.length<=1000000
structure cy5 (x:Lif):Prop where
 name:x.name.size<=100000
 ss:∀ s∈x.tz,s.size<=100000
 sl:x.tz.length<=1000000
 ms:∀ m∈x.mz,(-9223372036854775807<=m.1/\m.1<=9223372036854775807)/\(-9223372036854775807<=m.2/\m.2<=9223372036854775807)
 ml:x.mz.length<=1000000
structure cy4 (r:Rul):Prop where
 name:r.name.size<=100000
 kind:r.kind.size<=100000
 a:r.a.size<=100000
 b:r.b.size<=100000
 n:-9223372036854775807<=r.n/\r.n<=9223372036854775807
structure cu8 (x:Sch):Prop where
 ver:-9223372036854775807<=x.vz/\x.vz<=9223372036854775807
 kz:∀ k∈x.kz,cy6 k
 lz:∀ l∈x.lz,cy5 l
 rules:∀ r∈x.rules,cy4 r
 kl:x.kz.length<=1000000
 ll:x.lz.length<=1000000
 rl:x.rules.length<=1000000
 src:srcB x<=1000000
theorem sb20 {A B:Prop} (k:B) (h:Hd7 B->A:=by intro q7;(first|refine u8x ?_|((with_reducible refine Sd.go ?qs7 ?_);(case qs7=>first|trivial|(constructor<;>omega)|omega|assumption|(refine' ck9 ?a ?b ?c;(case a=>repeat' (first|((show (_:Nat)<=_);assumption)|exact sz1 _|exact sz0|(refine' aN0 ?_ (by assumption))|refine' szN ?_|refine' szA ?_ ?_));(case b=>repeat' (first|((show (_:Nat)<=_);assumption)|exact sz1 _|exact sz0|(refine' aN0 ?_ (by assumption))|refine' szN ?_|refine' szA ?_ ?_));(case c=>first|decide|omega))))|refine u0x ?_);exact q7.1):A:=h ⟨k⟩
theorem sk21 {A B:Prop} (k:B) (h:Hd7 B->A:=by intro q7;(first|refine sb20 ?_|refine sb1 ?_|(refine' cp7x ?hc ?_;(case hc=>first|exact aE3 _|exact HLN|(refine aZ5 _ _ ?hs ?hn;(case hn=>first|assumption|omega|(simp only [zL,zR,zI,List.length_cons,List.length_nil,zY,Nat.reduceAdd];omega));(case hs=>(refine' szLe ?a ?c;(case a=>repeat' (first|((show (_:Nat)<=_);assumption)|exact sz1 _|exact sz0|(refine' aN0 ?_ (by assumption))|refine' szN ?_|refine' szA ?_ ?_));(case c=>first|decide|omega)))))));exact q7.1):A:=h ⟨k⟩
def yV:=@List.nil_sublist
theorem cl3 {p:Prop} (h:p:=by repeat (first|exact xQ _|exact yV _|apply List.Sublist.cons)):p:=h
theorem bu9 (x:Sch) (hx:cu8 x):ASome prog 177 [schD x] (fun d=>∃ s:ByteArray,d=sD s/\s.size<=srcB x):=by
 have hver:=hx.ver;have hkl:=hx.kl;have hll:=hx.ll;have hrl:=hx.rl;have hsr:=hx.src;have l6:(⟨#[115,99,104,101,109,97]⟩:ByteArray).size<=6:=by decide
 have lk:(⟨#[10,107,105,110,100,32]⟩:ByteArray).size<=6:=by decide
 have ll6:(⟨#[10,108,105,102,101,32]⟩:ByteArray).size<=6:=by decide
 have lm:(⟨#[10,109,111,118,101]⟩:ByteArray).size<=5:=by decide
 have lr:(⟨#[10,114,117,108,101,32]⟩:ByteArray).size<=6:=by decide
 have hb0:=ak6 (s:=(⟨#[115,99,104,101,109,97]⟩:ByteArray)) hver;have hi0:=af5 x.vz;refine ASome.of_call ?_;refine eC7 func177 ntmps177 fun BB=>?_
 repeat' first|refine sk21 ?_|intro b;conv=>whnf
 refine ac2 mixed aa0 (γ:=Nat × ByteArray) (fun g=>[(3,sD g.2),(4,iD g.1)]) (fun _=>[]) (fun g=>g.1<=x.kz.length/\g.2.size<29+sumB kndB (x.kz.take g.1)) (fun g=>x.kz.length-g.1) (0,andS (⟨#[115,99,104,101,109,97]⟩:ByteArray) x.vz) (aa2 cl2) cl3 ⟨zW _,by simp only [List.take_zero,sumB,List.map_nil,List.sum_nil];omega⟩ ?_;rintro⟨q,t⟩ ⟨hq,hz⟩;simp only at hq hz ⊢;have hsk:=ak9 kndB x.kz q;have hsl:=ak9 lifB x.lz 0;by_cases hlt:q<x.kz.length
 ·obtain⟨k,hk0⟩:∃ k,x.kz[(q:Int).toNat]?=some k:=⟨_,zD hlt⟩
  have hkk:=hx.kz k (zG hk0);have hkn:=hkk.name;have hklo:=hkk.lo;have hkhi:=hkk.hi;have hkfl:=hkk.fl;have hzn:t.size<=1000000:=by unfold srcB at hsr;omega
  have hst:=al4 kndB x.kz q k hk0;have hsk':=ak9 kndB x.kz (q+1)
  repeat' first|refine sk21 ?_|intro b;conv=>whnf
  have hy1:=ak6 (s:=t++{ data:=#[10,107,105,110,100,32] } ++ k.name) hklo;have hy2:=ak6 (s:=andS (t++{ data:=#[10,107,105,110,100,32] } ++ k.name) k.lo) hkhi;simp only [yU] at hy1;have hd:kndB k=8+k.name.size+intB k.lo+intB k.hi+sumB ai6 k.fields:=rfl;refine ac2 mixed aa0 (γ:=Nat × ByteArray) (fun g=>[(3,sD g.2),(6,iD g.1)]) (fun _=>[(b,.cells 85 (kndC k))]) (fun g=>g.1<=k.fields.length/\g.2.size<29+sumB kndB (x.kz.take q)+(8+k.name.size+intB k.lo+intB k.hi)+sumB ai6 (k.fields.take g.1)) (fun g=>k.fields.length-g.1) (0,andS (andS (t++{ data:=#[10,107,105,110,100,32] } ++ k.name) k.lo) k.hi) (aa2 cl2) (xQ _) ⟨zW _,by simp only [List.take_zero,sumB,List.map_nil,List.sum_nil] at *;omega⟩ ?_;rintro⟨j,u⟩ ⟨hj,hu⟩;simp only at hj hu ⊢;have hfj:=ak9 ai6 k.fields j;by_cases hjl:j<k.fields.length
  ·obtain⟨f,hf0⟩:∃ f,k.fields[(j:Int).toNat]?=some f:=⟨_,zD hjl⟩
   have hf:=hkk.fs f (zG hf0);have HLN:=bM6 f hf.kind hf.sane hf.name hf.of hf.up hf.ws hf.wl hf.pw;have hfs:=bw9 f hf.kind hf.sane hf.wl hf.pw;have hft:=al4 ai6 k.fields j f hf0;have hft':=ak9 ai6 k.fields (j+1);have hun:u.size<=1000000:=by unfold srcB at hsr;omega
   have hln:(ar6 f).size<=1000000:=by unfold srcB at hsr;omega
   have hua:(u++ar6 f).size=u.size+(ar6 f).size:=yU
   repeat' first|refine sk21 ?_|intro b;conv=>whnf
   exact⟨(j+1,u++ar6 f),(aa2 cl2),(xQ _),⟨by simp only;omega,by simp only;omega⟩,by simp only;omega⟩
  ·obtain rfl:j=k.fields.length:=by omega
   rw [yM] at hu
   repeat' first|refine sk21 ?_|intro b;conv=>whnf
   exact⟨(q+1,u),(aa2 cl2),cl3,⟨by simp only;omega,by simp only;omega⟩,by simp only;omega⟩
 ·obtain rfl:q=x.kz.length:=by omega
  rw [yM] at hz
  repeat' first|refine sk21 ?_|intro b;conv=>whnf
  refine ac2 mixed aa0 (γ:=Nat × ByteArray) (fun g=>[(3,sD g.2),(7,iD g.1)]) (fun _=>[]) (fun g=>g.1<=x.lz.length/\g.2.size<29+sumB kndB x.kz+sumB lifB (x.lz.take g.1)) (fun g=>x.lz.length-g.1) (0,t) (aa2 cl2) cl3 ⟨zW _,by simp only [List.take_zero,sumB,List.map_nil,List.sum_nil] at *;omega⟩ ?_;clear hz hlt hq hsk hsl;rintro⟨q,t⟩ ⟨hq,hz⟩;simp only at hq hz ⊢;have hsk:=ak9 lifB x.lz q;by_cases hlt:q<x.lz.length
  ·obtain⟨k,hk0⟩:∃ k,x.lz[(q:Int).toNat]?=some k:=⟨_,zD hlt⟩
   have hkk:=hx.lz k (zG hk0);have hkn:=hkk.name;have hsl:=hkk.sl;have hml:=hkk.ml;have hln:-9223372036854775807<=(k.tz.length:Int)/\(k.tz.length:Int)<=9223372036854775807:=by omega
   have hzn:t.size<=1000000:=by unfold srcB at hsr;omega
   have hst:=al4 lifB x.lz q k hk0;have hsk':=ak9 lifB x.lz (q+1);have hy1:=ak6 (s:=t++{ data:=#[10,108,105,102,101,32] } ++ k.name) hln;simp only [yU] at hy1;have hd:lifB k=7+k.name.size+intB k.tz.length+sumB (fun s=>1+s.size) k.tz+sumB movB k.mz:=rfl
   repeat' first|refine sk21 ?_|intro b;conv=>whnf
   simp only [zL];refine ac2 mixed aa0 (γ:=Nat × ByteArray) (fun g=>[(3,sD g.2),(9,iD g.1)]) (fun _=>[(b,.cells 89 (lifC k))]) (fun g=>g.1<=k.tz.length/\g.2.size<29+sumB kndB x.kz+sumB lifB (x.lz.take q)+(7+k.name.size+intB k.tz.length)+sumB (fun s=>1+s.size) (k.tz.take g.1)) (fun g=>k.tz.length-g.1) (0,andS (t++{ data:=#[10,108,105,102,101,32] } ++ k.name) k.tz.length) (aa2 cl2) (xQ _) ⟨zW _,by simp only [List.take_zero,sumB,List.map_nil,List.sum_nil] at *;omega⟩ ?_;rintro⟨j,u⟩ ⟨hj,hu⟩;simp only at hj hu ⊢;have hfj:=ak9 (fun s:ByteArray=>1+s.size) k.tz j;by_cases hjl:j<k.tz.length
   ·obtain⟨f,hf0⟩:∃ f,k.tz[(j:Int).toNat]?=some f:=⟨_,zD hjl⟩
    have hf:=hkk.ss f (zG hf0);have hft:=al4 (fun s:ByteArray=>1+s.size) k.tz j f hf0;have hft':=ak9 (fun s:ByteArray=>1+s.size) k.tz (j+1);have hun:u.size<=1000000:=by unfold srcB at hsr;omega
    have hua:(u++{ data:=#[32] } ++ f).size=u.size+1+f.size:=by rw [yU,yU];rfl
    repeat' first|refine sk21 ?_|intro b;conv=>whnf
    exact⟨(j+1,u++{ data:=#[32] } ++ f),(aa2 cl2),(xQ _),⟨by simp only;omega,by simp only;omega⟩,by simp only;omega⟩
   ·obtain rfl:j=k.tz.length:=by omega
    rw [yM] at hu
    repeat' first|refine sk21 ?_|intro b;conv=>whnf
    refine ac2 mixed aa0 (γ:=Nat × ByteArray) (fun g=>[(3,sD g.2),(10,iD g.1)]) (fun _=>[(b,.cells 89 (lifC k))]) (fun g=>g.1<=k.mz.length/\g.2.size<29+sumB kndB x.kz+sumB lifB (x.lz.take q)+(7+k.name.size+intB k.tz.length)+sumB (fun s=>1+s.size) k.tz+sumB movB (k.mz.take g.1)) (fun g=>k.mz.length-g.1) (0,u) (aa2 cl2) (xQ _) ⟨zW _,by simp only [List.take_zero,sumB,List.map_nil,List.sum_nil] at *;omega⟩ ?_;clear hj hu hfj hjl;rintro⟨j,u⟩ ⟨hj,hu⟩;simp only at hj hu ⊢;have hfj:=ak9 movB k.mz j;by_cases hjl:j<k.mz.length
    ·obtain⟨f,hf0⟩:∃ f,k.mz[(j:Int).toNat]?=some f:=⟨_,zD hjl⟩
     have hf:=hkk.ms f (zG hf0);have hf1:=hf.1;have hf2:=hf.2;have hft:=al4 movB k.mz j f hf0;have hft':=ak9 movB k.mz (j+1);have hun:u.size<=1000000:=by unfold srcB at hsr;omega
     have hd2:movB f=7+intB f.1+intB f.2:=rfl
     repeat' first|refine sk21 ?_|intro b;conv=>whnf
     have hy3:=ak6 (s:=u++{ data:=#[10,109,111,118,101] }) hf1;have hy4:=ak6 (s:=andS (u++{ data:=#[10,109,111,118,101] }) f.1) hf2;simp only [yU] at hy3;exact⟨(j+1,andS (andS (u++{ data:=#[10,109,111,118,101] }) f.1) f.2),(aa2 cl2),(xQ _),⟨by simp only;omega,by simp only;omega⟩,by simp only;omega⟩
    ·obtain rfl:j=k.mz.length:=by omega
     rw [yM] at hu
     repeat' first|refine sk21 ?_|intro b;conv=>whnf
     exact⟨(q+1,u),(aa2 cl2),cl3,⟨by simp only;omega,by simp only;omega⟩,by simp only;omega⟩
  ·obtain rfl:q=x.lz.length:=by omega
   rw [yM] at hz
   repeat' first|refine sk21 ?_|intro b;conv=>whnf
   refine ac2 mixed aa0 (γ:=Nat × ByteArray) (fun g=>[(3,sD g.2),(11,iD g.1)]) (fun _=>[]) (fun g=>g.1<=x.rules.length/\g.2.size<29+sumB kndB x.kz+sumB lifB x.lz+sumB rulB (x.rules.take g.1)) (fun g=>x.rules.length-g.1) (0,t) (aa2 cl2) cl3 ⟨zW _,by simp only [List.take_zero,sumB,List.map_nil,List.sum_nil] at *;omega⟩ ?_;clear hz hlt hq hsk;rintro⟨q,t⟩ ⟨hq,hz⟩;simp only at hq hz ⊢;have hsk:=ak9 rulB x.rules q;by_cases hlt:q<x.rules.length
   ·obtain⟨k,hk0⟩:∃ k,x.rules[(q:Int).toNat]?=some k:=⟨_,zD hlt⟩
    have hkk:=hx.rules k (zG hk0);have hk1:=hkk.name;have hk2:=hkk.kind;have hk3:=hkk.a;have hk4:=hkk.b;have hk5:=hkk.n;have hzn:t.size<=1000000:=by unfold srcB at hsr;omega
    have hst:=al4 rulB x.rules q k hk0;have hsk':=ak9 rulB x.rules (q+1);have hd:rulB k=12+k.name.size+k.kind.size+k.a.size+k.b.size+intB k.n:=rfl;have hn1:=ax1 k.a;have hn2:=ax1 k.b;have s1:(⟨#[32]⟩:ByteArray).size=1:=rfl;have hy1:=ak6 (s:=t++{ data:=#[10,114,117,108,101,32] } ++ k.name++{ data:=#[32] } ++ k.kind++{ data:=#[32] } ++ aw1 k.a++{ data:=#[32] } ++ aw1 k.b) hk5;simp only [yU] at hy1
    repeat' first|refine sk21 ?_|intro b;conv=>whnf
    exact⟨(q+1,andS (t++{ data:=#[10,114,117,108,101,32] } ++ k.name++{ data:=#[32] } ++ k.kind++{ data:=#[32] } ++ aw1 k.a++{ data:=#[32] } ++ aw1 k.b) k.n),(aa2 cl2),cl3,⟨by simp only;omega,by simp only;omega⟩,by simp only;omega⟩
   ·obtain rfl:q=x.rules.length:=by omega
    rw [yM] at hz;have hzn:t.size<=1000000:=by unfold srcB at hsr;omega
    have hl:(t++{ data:=#[10] }).size=t.size+1:=by rw [yU];rfl
    repeat' first|refine sk21 ?_|intro b;conv=>whnf
    exact Rt.same ⟨_,rfl,by rw [hl];unfold srcB;omega⟩
end
end Go.Proofs.YtlcfiilejnnlnaaGreatDoor
