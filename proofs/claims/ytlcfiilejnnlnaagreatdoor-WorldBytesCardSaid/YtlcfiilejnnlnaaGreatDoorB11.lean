/- A part of the proof: R10d R10e Ta Tb Tc Td Te Ml R10f Tf Jq Xd. -/
import Derived.Test.YtlcfiilejnnlnaaGreatDoorB10
set_option maxRecDepth 100000
set_option maxHeartbeats 20000000
set_option linter.unusedVariables false
set_option linter.unusedSimpArgs false
namespace Go.Proofs.YtlcfiilejnnlnaaGreatDoor
section
open Go
theorem sk52 {A B:Prop} (k:B) (h:Hd7 B→A:=by intro hk7q;(first|refine sb0 ?_|refine sb1 ?_|((with_reducible refine' Cp.by ?hc ?_);(case hc=>first|exact aj9 _ _ (by assumption)|exact aX0 _ _ _ _ (by assumption) (by assumption) (by assumption)))|((with_reducible refine' CE.pure ?hc ?_);(case hc=>first|exact aj9 _ _ (by assumption)|exact aX0 _ _ _ _ (by assumption) (by assumption) (by assumption))));exact hk7q.run):A:=h ⟨k⟩
theorem aW9 (x:Sch) (i j up:Int) (f:Fld) (hl:x.kinds.length≤1000000) (hf:∀ k∈x.kinds,k.fields.length≤1000000) (hfa:fieldAt x i j=some f):APure Tryz.prog 179 [schD x,iD i,iD j,iD up] (iD (bb9 x i j f up)):=by
 refine eP7 Tryz.func179 Tryz.ntmps179 fun BB=>?_
 obtain ⟨h0,h1,k,hk,hkf⟩:=ah3 hfa
 repeat' first|refine sk52 ?_|(intro b;conv=>whnf)|(with_reducible refine Br.d (fun hc=>?_) (fun hc=>?_))|(with_reducible refine Br.b (fun hc=>?_) (fun hc=>?_))
 all_goals (refine Rt.pure (congrArg iD ?_);unfold bb9;(repeat' split) <;> first|rfl|omega)
theorem eqE (s:ByteArray):(s.toList == (⟨#[]⟩:ByteArray).toList)=isE s:=by
 unfold isE
 have:(⟨#[]⟩:ByteArray).toList=[]:=by rw [ByteArray.toList_eq]
 rw [this]
 cases s.toList <;> rfl
theorem sk53 {A B:Prop} (k:B) (h:Hd7 B→A:=by intro hk7q;(first|refine sb0 ?_|refine sb1 ?_|((with_reducible refine' Cp.by ?hc ?_);(case hc=>first|exact ah5 _ _ (by assumption)|exact aJ5 _ _ _ (by assumption) (by assumption)|exact bj7 _ _ _ _ (by assumption) (by assumption) (by assumption)|exact aW9 _ _ _ _ _ (by assumption) (by assumption) (by assumption)))|((with_reducible refine' CE.pure ?hc ?_);(case hc=>first|exact ah5 _ _ (by assumption)|exact aJ5 _ _ _ (by assumption) (by assumption)|exact bj7 _ _ _ _ (by assumption) (by assumption) (by assumption)|exact aW9 _ _ _ _ _ (by assumption) (by assumption) (by assumption))));exact hk7q.run):A:=h ⟨k⟩
theorem aW7 (x:Sch) (i j:Int) (f:Fld) (hl:x.kinds.length≤1000000) (hf:∀ k∈x.kinds,k.fields.length≤1000000) (hll:x.lives.length≤1000000) (hfa:fieldAt x i j=some f):APure Tryz.prog 130 [schD x,iD i,iD j] (iD (af1 x i j f)):=by
 refine eP7 Tryz.func130 Tryz.ntmps130 fun BB=>?_
 obtain ⟨h0,h1,k,hk,hkf⟩:=ah3 hfa
 have hfk:=hf k (List.mem_of_getElem? hk)
 have hka:af3 x i=some k:=by simp [af3,h0,hk]
 have hfl:=ap7 k f.of
 repeat' first|refine sk53 ?_|(intro b;conv=>whnf)|refine IxM.mk fun y hy=>?_|(with_reducible refine Br.d (fun hc=>?_) (fun hc=>?_))|(with_reducible refine Br.b (fun hc=>?_) (fun hc=>?_))
 all_goals try
  (refine Rt.pure (congrArg iD ?_);(try simp only [eqE,List.length_map,List.length_take,List.length_append,List.length_cons,List.length_nil,List.length_replicate,Nat.reduceAdd] at *);unfold af1;(repeat' split) <;> first|rfl|omega|(unfold dayE;rw [hka];(repeat' split) <;> first|rfl|omega|(simp_all;done)|(simp_all;omega)))
 have hU:af1 x i j f=if x.lives.any (fun l=>seq l.name f.of) then 0 else 12:=by
  unfold af1;rw [if_neg (by omega),if_neg (by omega),if_neg (by omega),if_neg (by omega),if_pos (by omega)]
 rw [hU]
 refine ad5 mixed aa0 (γ:=Nat) (fun q=>[(10,iD q)]) (fun _=>[(b,.cells 97 (fldC f))]) (fun q=>q≤x.lives.length∧∀ m y,m<q→x.lives[m]?=some y→seq y.name f.of=false) (fun q=>x.lives.length - q) 0 rfl rfl ⟨by omega,by omega⟩ ?_
 rintro q ⟨hq,hno⟩
 repeat' first|refine sk53 ?_|(intro b;conv=>whnf)|refine IxM.mk fun y hy=>?_|(with_reducible refine Br.d (fun hc=>?_) (fun hc=>?_))|(with_reducible refine Br.b (fun hc=>?_) (fun hc=>?_))
 ·refine Rt.pure (congrArg iD ?_)
  rw [if_pos (List.any_eq_true.2 ⟨y,List.mem_of_getElem? hy,by assumption⟩)]
 ·exact ⟨q+1,rfl,rfl,⟨by omega,fun m z hm hz=>by
   by_cases e:m=q
   ·subst e;rw [show ((m:Int)).toNat=m from rfl,hz] at hy;cases hy;assumption
   ·exact hno m z (by omega) hz⟩,by omega⟩
 ·refine Rt.pure (congrArg iD ?_)
  rw [if_neg]
  rw [List.any_eq_true]
  rintro ⟨y,hy,hs⟩
  obtain ⟨m,hm⟩:=List.getElem?_of_mem hy
  have:=hno m y (by have:=(List.getElem?_eq_some_iff.1 hm).1;omega) hm
  rw [this] at hs;cases hs
end
section
open Go
theorem sk54 {A B:Prop} (k:B) (h:Hd7 B→A:=by intro hk7q;(first|refine sb0 ?_|refine sb1 ?_|((with_reducible refine' Cp.by ?hc ?_);(case hc=>first|exact aj9 _ _ (by assumption)|exact ah5 _ _ (by assumption)))|((with_reducible refine' CE.pure ?hc ?_);(case hc=>first|exact aj9 _ _ (by assumption)|exact ah5 _ _ (by assumption))));exact hk7q.run):A:=h ⟨k⟩
theorem aW8 (fs:List Fld):APure Tryz.prog 129 [slF fs] (bD (aY7 fs)):=by
 refine eP7 Tryz.func129 Tryz.ntmps129 fun BB=>?_
 cases fs with
 | nil=>
  repeat' first|refine sk54 ?_|(intro b;conv=>whnf)|(with_reducible refine Br.d (fun hc=>?_) (fun hc=>?_))|(with_reducible refine Br.b (fun hc=>?_) (fun hc=>?_))
  refine Rt.pure (congrArg bD ?_);rfl
 | cons f r=>
  repeat' first|refine sk54 ?_|(intro b;conv=>whnf)|(with_reducible refine Br.d (fun hc=>?_) (fun hc=>?_))|(with_reducible refine Br.b (fun hc=>?_) (fun hc=>?_))
  all_goals (refine Rt.pure (congrArg bD ?_);simp_all [aY7])
def prbC (p:Prb):List D:=[iD p.1,iD p.2.1,iD p.2.2.1,iD p.2.2.2]
theorem aQ9 {x:Sch} {i m:Nat} {r s:Rul} (hm:m<i) (hs:x.rules[m]?=some s) (h:seq s.name r.name=true):ag5 x i r=true:=by
 unfold ag5
 rw [List.any_eq_true]
 exact ⟨s,List.mem_of_getElem? (i:=m) (by rw [List.getElem?_take,if_pos hm];exact hs),h⟩
theorem aF0 {x:Sch} {i:Nat} {r:Rul} (h:∀ (m:Nat) y,m<i→x.rules[m]?=some y→seq y.name r.name=false):ag5 x i r=false:=by
 unfold ag5
 rw [List.any_eq_false]
 intro s hs
 obtain ⟨m,hm⟩:=List.getElem?_of_mem hs
 rw [List.getElem?_take] at hm
 split at hm
 ·rename_i hlt;simp [h m s hlt hm]
 ·cases hm
theorem bd6 {x:Sch} {i:Nat} {r:Rul} (h:ag5 x i r=true):ay1 x i r=7:=by
 unfold ay1
 split <;> rw [h] <;> rfl
theorem aW2 {x:Sch} {i:Nat} {r:Rul} (h:ag5 x i r=false) (hk:af3 x (ab6 x r.kind)=none):ay1 x i r=12:=by
 simp only [ay1,hk,h];rfl
theorem bm7 {x:Sch} {i:Nat} {r:Rul} {k:Knd} (h:ag5 x i r=false) (hk:af3 x (ab6 x r.kind)=some k) :
  ay1 x i r=if ag9 x k (ab6 x r.kind) r.a=true∨ag9 x k (ab6 x r.kind) r.b=true then 12 else if ae3 x k (ab6 x r.kind) r.a=true∨ae3 x k (ab6 x r.kind) r.b=true then 13 else if seq r.a r.b=true then 1 else 0:=by
 simp only [ay1,hk,h]
 cases ag9 x k (ab6 x r.kind) r.a <;> cases ag9 x k (ab6 x r.kind) r.b <;> cases ae3 x k (ab6 x r.kind) r.a <;> cases ae3 x k (ab6 x r.kind) r.b <;> cases seq r.a r.b <;> rfl
theorem aV1 {x:Sch} {i j:Int} {k:Knd} {g:Fld} (h0:0≤i) (hk:x.kinds[i.toNat]?=some k) (hj:0≤j) (hg:k.fields[j.toNat]?=some g):atR x i j=(g,true):=by
 unfold atR;rw [ah2 h0 hj hk,hg]
theorem bl8 {x:Sch} {i j:Int} (hj:j<0):atR x i j=(aI1,false):=by
 unfold atR;rw [aj3 (by omega)]
theorem nm_E (x:Sch) (k:Knd) (o:Int) {n:ByteArray} (h:(n.toList == ({ data:=#[] }:ByteArray).toList)=true):ag9 x k o n=false∧ae3 x k o n=false:=by rw [eqE] at h;simp [ag9,ae3,h]
theorem cg9 (x:Sch) (k:Knd) (o:Int) {n:ByteArray} (h:(n.toList == ({ data:=#[] }:ByteArray).toList)=false) (hi:ac2 k n<0):ag9 x k o n=true:=by rw [eqE] at h;simp [ag9,h,bl8 hi]
theorem cg8 {x:Sch} {k:Knd} {o:Int} {n:ByteArray} {g:Fld} (h:(n.toList == ({ data:=#[] }:ByteArray).toList)=false) (h0:0≤o) (hk:x.kinds[o.toNat]?=some k) (hj:0≤ac2 k n) (hg:k.fields[(ac2 k n).toNat]?=some g) :
  ag9 x k o n=false∧ae3 x k o n=(!decide (g.kind=2) && !decide (g.kind=4)):=by
 rw [eqE] at h
 simp only [ag9,ae3,h,aV1 h0 hk hj hg]
 refine ⟨rfl,?_⟩
 by_cases h2:g.kind=2 <;> by_cases h4:g.kind=4 <;> simp [h2,h4]
def twoI (x:Sch) (k:Knd) (o:Int) (r:Rul) (g:Nat × Bool):Prop:=(g.1=0∧g.2=false)∨(g.1=1∧ag9 x k o r.a=false∧g.2=ae3 x k o r.a)∨(g.1=2∧ag9 x k o r.a=false∧ag9 x k o r.b=false∧g.2=(ae3 x k o r.a || ae3 x k o r.b))
theorem aW6 (x:Sch) (i:Nat) (r:Rul) (hl:x.kinds.length≤1000000) (hf:∀ k∈x.kinds,k.fields.length≤1000000) (hrl:x.rules.length≤1000000) (hr:x.rules[i]?=some r):APure Tryz.prog 131 [schD x,iD i] (iD (ay1 x i r)):=by
 refine eP7 Tryz.func131 Tryz.ntmps131 fun BB=>?_
 repeat' first|refine sk54 ?_|(intro b;conv=>whnf)|refine IxM.mk fun y hy=>?_|(with_reducible refine Br.d (fun hc=>?_) (fun hc=>?_))|(with_reducible refine Br.b (fun hc=>?_) (fun hc=>?_))
 refine ad5 mixed aa0 (γ:=Nat) (fun q=>[(6,iD q)]) (fun _=>[(b,.cells 92 (rulC r))]) (fun q=>q≤i∧∀ (m:Nat) y,m<q→x.rules[m]?=some y→seq y.name r.name=false) (fun q=>i - q) 0 rfl rfl ⟨by omega,fun m y hm=>by omega⟩ ?_
 rintro q ⟨hq,hno⟩
 have hil:=(List.getElem?_eq_some_iff.1 hr).1
 have hkl:=aK8 x r.kind
 repeat' first|refine sk54 ?_|(intro b;conv=>whnf)|refine IxM.mk fun y hy=>?_|(with_reducible refine Br.d (fun hc=>?_) (fun hc=>?_))|(with_reducible refine Br.b (fun hc=>?_) (fun hc=>?_))
 ·refine Rt.pure (congrArg iD ?_)
  exact (bd6 (aQ9 (m:=q) (by omega) hy (by assumption))).symm
 ·exact ⟨q+1,rfl,rfl,⟨by omega,fun m z hm hz=>by
   by_cases e:m=q
   ·subst e;rw [show ((m:Int)).toNat=m from rfl,hz] at hy;cases hy;assumption
   ·exact hno m z (by omega) hz⟩,by omega⟩
 ·obtain rfl:q=i:=by omega
  refine Rt.pure (congrArg iD ?_)
  exact (aW2 (aF0 hno) (by unfold af3;rw [if_neg (by omega)])).symm
 ·obtain rfl:q=i:=by omega
  obtain ⟨k,hk⟩:∃ k,x.kinds[(ab6 x r.kind).toNat]?=some k:=⟨_,List.getElem?_eq_getElem (by omega)⟩
  have hka:af3 x (ab6 x r.kind)=some k:=by unfold af3;rw [if_pos (by omega)];exact hk
  have hE:=bm7 (aF0 hno) hka
  have hfk:=hf k (List.mem_of_getElem? hk)
  have hfa:=ap7 k r.a
  have hfb:=ap7 k r.b
  refine ad5 mixed aa0 (γ:=Nat × Bool) (fun g=>[(9,bD g.2),(10,iD g.1)]) (fun _=>[(b,.cells 92 (rulC r))]) (twoI x k (ab6 x r.kind) r) (fun g=>2 - g.1) (0,false) rfl rfl (.inl ⟨rfl,rfl⟩) ?_
  rintro ⟨j,w⟩ (⟨rfl,rfl⟩|⟨rfl,ha,rfl⟩|⟨rfl,ha,hb,rfl⟩)
  ·repeat' first|refine sk54 ?_|(intro b;conv=>whnf)|refine IxM.mk fun y hy=>?_|(with_reducible refine Br.d (fun hc=>?_) (fun hc=>?_))|(with_reducible refine Br.b (fun hc=>?_) (fun hc=>?_))
   ·exact ⟨(1,false),rfl,rfl,.inr (.inl ⟨rfl,(nm_E x k _ ‹_›).1,(nm_E x k _ ‹_›).2.symm⟩),by simp⟩
   ·refine Rt.pure (congrArg iD ?_)
    rw [hE,if_pos (.inl (cg9 x k _ ‹_› (by omega)))]
   all_goals
    have hh:=cg8 (x:=x) (k:=k) (o:=ab6 x r.kind) (n:=r.a) ‹_› (by omega) hk (by omega) hy
    first
    | exact ⟨(1,!decide (y.kind=4)),rfl,rfl,.inr (.inl ⟨rfl,hh.1,by rw [hh.2];simp [*]⟩),by simp⟩
    | exact ⟨(1,false),rfl,rfl,.inr (.inl ⟨rfl,hh.1,by rw [hh.2];simp [*]⟩),by simp⟩
  ·generalize hw:ae3 x k (ab6 x r.kind) r.a=w
   repeat' first|refine sk54 ?_|(intro b;conv=>whnf)|refine IxM.mk fun y hy=>?_|(with_reducible refine Br.d (fun hc=>?_) (fun hc=>?_))|(with_reducible refine Br.b (fun hc=>?_) (fun hc=>?_))
   ·exact ⟨(2,w),rfl,rfl,.inr (.inr ⟨rfl,ha,(nm_E x k _ ‹_›).1,by rw [(nm_E x k _ (n:=r.b) ‹_›).2,hw];simp⟩),by simp⟩
   ·refine Rt.pure (congrArg iD ?_)
    rw [hE,if_pos (.inr (cg9 x k _ ‹_› (by omega)))]
   all_goals
    have hh:=cg8 (x:=x) (k:=k) (o:=ab6 x r.kind) (n:=r.b) ‹_› (by omega) hk (by omega) hy
    first
    | exact ⟨(2,true),rfl,rfl,.inr (.inr ⟨rfl,ha,hh.1,by rw [hh.2,hw];simp [*]⟩),by simp⟩
    | exact ⟨(2,!decide (y.kind=4)),rfl,rfl,.inr (.inr ⟨rfl,ha,hh.1,by rw [hh.2,hw];simp [*]⟩),by simp⟩
    | exact ⟨(2,false),rfl,rfl,.inr (.inr ⟨rfl,ha,hh.1,by rw [hh.2,hw];simp [*]⟩),by simp⟩
  ·generalize hw:(ae3 x k (ab6 x r.kind) r.a || ae3 x k (ab6 x r.kind) r.b)=w
   rw [if_neg (by simp [ha,hb])] at hE
   simp only [← Bool.or_eq_true,hw] at hE
   repeat' first|refine sk54 ?_|(intro b;conv=>whnf)|refine IxM.mk fun y hy=>?_|(with_reducible refine Br.d (fun hc=>?_) (fun hc=>?_))|(with_reducible refine Br.b (fun hc=>?_) (fun hc=>?_))
   all_goals (refine Rt.pure (congrArg iD ?_);rw [hE];simp [*,seq])
end
section
open Go
theorem bi1 (y:Knd) (nm:ByteArray):APure Tryz.prog 109 [kndD y,.ro [sD nm]] (bD (seq y.name nm)):=by
 refine eP7 Tryz.func109 Tryz.ntmps109 fun BB=>?_
 repeat' first|refine sk2 ?_|(intro b;conv=>whnf)
 refine Rt.pure (congrArg bD ?_);rfl
theorem aV6 (y:Fld) (nm:ByteArray):APure Tryz.prog 166 [fldD y,.ro [sD nm]] (bD (seq y.name nm)):=by
 refine eP7 Tryz.func166 Tryz.ntmps166 fun BB=>?_
 repeat' first|refine sk2 ?_|(intro b;conv=>whnf)
 refine Rt.pure (congrArg bD ?_);rfl
theorem sk55 {A B:Prop} (k:B) (h:Hd7 B→A:=by intro hk7q;(first|refine sb0 ?_|refine sb1 ?_|((with_reducible refine' Cp.by ?hc ?_);(case hc=>exact bk7 x.kinds (fun y=>seq y.name nm) hl (fun y _=>bi1 y nm)))|((with_reducible refine' CE.pure ?hc ?_);(case hc=>exact bk7 x.kinds (fun y=>seq y.name nm) hl (fun y _=>bi1 y nm))));exact hk7q.run):A:=h ⟨k⟩
theorem al4 (x:Sch) (nm:ByteArray) (hl:x.kinds.length≤1000000):APure Tryz.prog 60 [schD x,sD nm] (iD (ab6 x nm)):=by
 refine eP7 Tryz.func60 Tryz.ntmps60 fun BB=>?_
 repeat' first|refine sk55 ?_|(intro b;conv=>whnf)
 refine Rt.pure (congrArg iD ?_);rfl
theorem sk56 {A B:Prop} (k:B) (h:Hd7 B→A:=by intro hk7q;(first|refine sb0 ?_|refine sb1 ?_|((with_reducible refine' Cp.by ?hc ?_);(case hc=>exact bO0 k.fields (fun y=>seq y.name nm) hl (fun y _=>aV6 y nm)))|((with_reducible refine' CE.pure ?hc ?_);(case hc=>exact bO0 k.fields (fun y=>seq y.name nm) hl (fun y _=>aV6 y nm))));exact hk7q.run):A:=h ⟨k⟩
theorem aj8 (k:Knd) (nm:ByteArray) (hl:k.fields.length≤1000000):APure Tryz.prog 119 [kndD k,sD nm] (iD (ac2 k nm)):=by
 refine eP7 Tryz.func119 Tryz.ntmps119 fun BB=>?_
 repeat' first|refine sk56 ?_|(intro b;conv=>whnf)
 refine Rt.pure (congrArg iD ?_);rfl
theorem bc8 (x:Sch) (i j:Int):APure Tryz.prog 150 [schD x,iD i,iD j] (.tup [fldD (atR x i j).1,bD (atR x i j).2]):=by
 refine eP7 Tryz.func150 Tryz.ntmps150 fun BB=>?_
 repeat' first|refine sk2 ?_|(intro b;conv=>whnf)|refine IxM.mk fun y hy=>?_|(with_reducible refine Br.d (fun hc=>?_) (fun hc=>?_))|(with_reducible refine Br.b (fun hc=>?_) (fun hc=>?_))
 all_goals first
  | (have hr:atR x i j=(aI1,false):=(by unfold atR;rw [aj3 (by omega)]);rw [hr];exact Rt.vs (Vs.tup (VsL.cons ((Vs.le aB7).trans (Vs.drop (List.nil_sublist _))) (VsL.cons (Vs.refl _ _) (VsL.nil _)))))
  | (have hr:atR x i j=(aI1,false):=(by unfold atR;rw [ah2 (by omega) (by omega) hy,List.getElem?_eq_none (by omega)]);rw [hr];exact Rt.vs (Vs.tup (VsL.cons ((Vs.le aB7).trans (Vs.drop (List.nil_sublist _))) (VsL.cons (Vs.refl _ _) (VsL.nil _)))))
  | (have hr:=aV1 (x:=x) (i:=i) (j:=j) (by omega) ‹x.kinds[i.toNat]?=some _› (by omega) hy;rw [hr];exact Rt.vs (Vs.refl _ _))
theorem bB1 {x:Sch} {i j:Int} {f:Fld} (h:fieldAt x i j=some f):atR x i j=(f,true):=by unfold atR;rw [h]
theorem bO7 {x:Sch} {i j:Int} (h:fieldAt x i j=none):atR x i j=(aI1,false):=by unfold atR;rw [h]
theorem sk57 {A B:Prop} (k:B) (h:Hd7 B→A:=by intro hk7q;(first|refine sb0 ?_|refine sb1 ?_|((with_reducible refine' Cp.by ?hc ?_);(case hc=>first|exact HA|exact al4 _ _ (by assumption)|exact aj8 _ _ (by assumption)))|((with_reducible refine' CE.pure ?hc ?_);(case hc=>first|exact HA|exact al4 _ _ (by assumption)|exact aj8 _ _ (by assumption))));exact hk7q.run):A:=h ⟨k⟩
theorem cd0 (x:Sch) (i j:Int) (f:Fld) (hl:x.kinds.length≤1000000) (hfa:fieldAt x i j=some f) (hk:f.kind=1):APure Tryz.prog 98 [schD x,iD i,iD j] (iD (au3 x i f)):=by
 have HA:=bc8 x i j
 rw [bB1 hfa] at HA
 refine eP7 Tryz.func98 Tryz.ntmps98 fun BB=>?_
 repeat' first|refine sk57 ?_|(intro b;conv=>whnf)|(with_reducible refine Br.d (fun hc=>?_) (fun hc=>?_))|(with_reducible refine Br.b (fun hc=>?_) (fun hc=>?_))
 all_goals (refine Rt.pure (congrArg iD ?_);unfold au3;first|rw [if_pos (by assumption)]|rw [if_neg (by assumption)])
theorem sk58 {A B:Prop} (k:B) (h:Hd7 B→A:=by intro hk7q;(first|refine sb0 ?_|refine sb1 ?_|((with_reducible refine' Cp.by ?hc ?_);(case hc=>first|exact HA|exact HB|exact HU|exact al4 _ _ (by assumption)|exact aj8 _ _ (by assumption)))|((with_reducible refine' CE.pure ?hc ?_);(case hc=>first|exact HA|exact HB|exact HU|exact al4 _ _ (by assumption)|exact aj8 _ _ (by assumption))));exact hk7q.run):A:=h ⟨k⟩
theorem aM4 (x:Sch) (i j:Int) (hl:x.kinds.length≤1000000) (hf:∀ k∈x.kinds,k.fields.length≤1000000):APure Tryz.prog 98 [schD x,iD i,iD j] (iD (upIx x i j)):=by
 have HA:=bc8 x i j
 cases hfa:fieldAt x i j with
 | none=>
  rw [bO7 hfa] at HA
  refine eP7 Tryz.func98 Tryz.ntmps98 fun BB=>?_
  repeat' first|refine sk58 ?_|(intro b;conv=>whnf)|(with_reducible refine Br.d (fun hc=>?_) (fun hc=>?_))|(with_reducible refine Br.b (fun hc=>?_) (fun hc=>?_))
  refine Rt.pure (congrArg iD ?_);simp [upIx,hfa]
 | some f=>
  rw [bB1 hfa] at HA
  obtain ⟨h0,h1,k,hk,hkf⟩:=ah3 hfa
  have hfk:=hf k (List.mem_of_getElem? hk)
  have hka:af3 x i=some k:=by simp [af3,h0,hk]
  have hkl:=(List.getElem?_eq_some_iff.1 hk).1
  have hU:=br3 hfa hka
  have HB:=bc8 x i (ac2 k f.up)
  cases hg:fieldAt x i (ac2 k f.up) with
  | none=>
   rw [bO7 hg] at HB
   simp only [hg,aO1,aB0] at hU
   refine eP7 Tryz.func98 Tryz.ntmps98 fun BB=>?_
   repeat' first|refine sk58 ?_|(intro b;conv=>whnf)|(with_reducible refine Br.d (fun hc=>?_) (fun hc=>?_))|(with_reducible refine Br.b (fun hc=>?_) (fun hc=>?_))
   all_goals (refine Rt.pure (congrArg iD ?_);rw [hU];unfold au3;(repeat' split) <;> first|rfl|omega)
  | some g=>
   rw [bB1 hg] at HB
   simp only [hg,aO1] at hU
   by_cases hg1:g.kind=1
   ·have HU:=cd0 x i (ac2 k f.up) g hl hg hg1
    refine eP7 Tryz.func98 Tryz.ntmps98 fun BB=>?_
    repeat' first|refine sk58 ?_|(intro b;conv=>whnf)|(with_reducible refine Br.d (fun hc=>?_) (fun hc=>?_))|(with_reducible refine Br.b (fun hc=>?_) (fun hc=>?_))
    all_goals (refine Rt.pure (congrArg iD ?_);rw [hU];(repeat' split) <;> first|rfl|omega|(unfold au3;(repeat' split) <;> first|rfl|omega)|(unfold aB0;simp only;unfold au3;(repeat' split) <;> first|rfl|omega))
   ·refine eP7 Tryz.func98 Tryz.ntmps98 fun BB=>?_
    repeat' first|refine sk58 ?_|(intro b;conv=>whnf)|(with_reducible refine Br.d (fun hc=>?_) (fun hc=>?_))|(with_reducible refine Br.b (fun hc=>?_) (fun hc=>?_))
    all_goals (refine Rt.pure (congrArg iD ?_);rw [hU];(repeat' split) <;> first|rfl|omega|(unfold au3;(repeat' split) <;> first|rfl|omega)|(unfold aB0;simp only;unfold au3;(repeat' split) <;> first|rfl|omega))
end
section
open Go
theorem sk59 {A B:Prop} (k:B) (h:Hd7 B→A:=by intro hk7q;(first|refine sb0 ?_|refine sb1 ?_|((with_reducible refine' Cp.by ?hc ?_);(case hc=>first|exact al4 _ _ (by assumption)|exact aM4 _ _ _ (by assumption) (by assumption)))|((with_reducible refine' CE.pure ?hc ?_);(case hc=>first|exact al4 _ _ (by assumption)|exact aM4 _ _ _ (by assumption) (by assumption))));exact hk7q.run):A:=h ⟨k⟩
theorem aN4 (x:Sch) (i:Int) (f:Fld) (hi:0≤i) (hl:x.kinds.length≤1000000) (hf:∀ k∈x.kinds,k.fields.length≤1000000):APure Tryz.prog 209 [schD x,iD i,fldD f] (.tup [iD (as5 x i f).1,slI (as5 x i f).2]):=by
 refine eP7 Tryz.func209 Tryz.ntmps209 fun BB=>?_
 have hkl:=aK8 x f.of
 have hno:f.kind≠6∨ab6 x f.of≤i→as5 x i f=(-1,[]):=fun h=>by unfold as5;rw [aE8 h];rfl
 repeat' first|refine sk59 ?_|(intro b;conv=>whnf)|refine IxM.mk fun y hy=>?_|(with_reducible refine Br.d (fun hc=>?_) (fun hc=>?_))|(with_reducible refine Br.b (fun hc=>?_) (fun hc=>?_))
 ·rw [hno (by omega)]
  exact Rt.vs (Vs.tup (VsL.cons (Vs.refl _ _) (VsL.cons (bh3 _ _) (VsL.nil _))))
 ·obtain ⟨ko,rfl⟩:∃ ko,ko=y:=⟨_,rfl⟩
  have hko:=hy
  clear hy
  have h6:f.kind=6:=by omega
  have hno':=aE9 (x:=x) (i:=i) h6 (by omega)
  obtain ⟨o,ho⟩:=Int.eq_ofNat_of_zero_le (show 0≤ab6 x f.of by omega)
  rw [ho] at hko
  have hko:x.kinds[o]?=some ko:=hko
  have hS:as5 x i f=((o:Int),ai1 x o i f ko.fields ko.fields.length):=by
   unfold as5;rw [hno',aJ1 x i f o ko ho hko,ho];rfl
  have hfk:=hf ko (List.mem_of_getElem? hko)
  rw [ho]
  refine ai2 mixed aa0 (γ:=Nat × Value × aa1) (fun g=>[(9,.v g.2.1),(31,iD g.1)]) (fun g=>g.2.2) (fun g=>g.1≤ko.fields.length∧RowIs 3 1 (slN (ai1 x o i f ko.fields g.1)) g.2.1 g.2.2) (fun g=>ko.fields.length - g.1) (0,.slice none 0 0,[]) rfl cl16 ⟨Nat.zero_le _,RowIs.nil _ _⟩ ?_
  rintro ⟨q,v,s⟩ ⟨hq,hrow⟩
  simp only at hq hrow ⊢
  repeat' first|refine sk59 ?_|(intro b;conv=>whnf)|refine IxM.mk fun y hy=>?_|(with_reducible refine Br.d (fun hc=>?_) (fun hc=>?_))|(with_reducible refine Br.b (fun hc=>?_) (fun hc=>?_))
  ·have hsh:aq2 x o i f y q=true:=by simp [aq2,seq, *]
   have Hs:=ap4 x o i f ko.fields q y hy
   rw [hsh,if_pos rfl] at Hs
   have hlen:=aE7 x o i f ko.fields (q+1)
   refine Ap.go rfl rfl rfl rfl hrow (bd9 _ _) rfl (zs:=slN (ai1 x o i f ko.fields (q+1))) (by rw [Hs];simp only [slN,List.map_append];rfl) (by simp [slN];omega) (by simp [slN];omega) (fun s'=>_ :: s') (aO2 _) (fun a c s' hr=>?_)
   repeat' first|refine sk59 ?_|(intro b;conv=>whnf)|refine IxM.mk fun y hy=>?_
   exact ⟨(q+1,_,s'),rfl,List.Sublist.cons _ (List.Sublist.refl _),⟨by simp only;omega,hr⟩,by simp only;omega⟩
  iterate 3
   have hsh:aq2 x o i f y q=false:=by simp [aq2,seq, *]
   have Hs:=ap4 x o i f ko.fields q y hy
   rw [hsh,if_neg (by simp),List.append_nil] at Hs
   exact ⟨(q+1,v,s),rfl,List.Sublist.cons _ (List.Sublist.refl _),⟨by simp only;omega,by simp only;rw [Hs];exact hrow⟩,by simp only;omega⟩
  ·obtain rfl:q=ko.fields.length:=by omega
   rw [hS]
   exact Rt.vs (Vs.tup (VsL.cons (Vs.refl _ _) (VsL.cons (Vs.row hrow (ai4 _)) (VsL.nil _))))
 ·rw [hno (by omega)]
  exact Rt.vs (Vs.tup (VsL.cons (Vs.refl _ _) (VsL.cons (bh3 _ _) (VsL.nil _))))
theorem HS1 {x:Sch} {i j:Int} {f:Fld} {o:Int} {l:List Int} (hfa:fieldAt x i j=some f) (hs:as5 x i f=(o,l)):aD3 x i j=cf0 o l:=by
 simp only [aD3,hfa,hs]
theorem sk60 {A B:Prop} (k:B) (h:Hd7 B→A:=by intro hk7q;(first|refine sb0 ?_|refine sb1 ?_|((with_reducible refine' Cp.by ?hc ?_);(case hc=>first|exact HA|exact HS))|((with_reducible refine' CE.pure ?hc ?_);(case hc=>first|exact HA|exact HS)));exact hk7q.run):A:=h ⟨k⟩
end
section
open Go
theorem aQ4 (fs:List (Bool × Int)) (hl:fs.length≤1000):APure Tryz.prog 147 [.sl 2 (fs.map fun p=>[bD p.1,iD p.2])] (iD (am9 fs)):=by
 refine eP7 Tryz.func147 Tryz.ntmps147 fun BB=>?_
 repeat' first|refine sk2 ?_|(intro b;conv=>whnf)|refine IxM.mk fun y hy=>?_
 refine ai2 mixed aa0 (γ:=Nat) (fun q=>[(7,iD q)]) (fun _=>[]) (fun q=>q≤fs.length∧∀ (m:Nat) y,m<q→fs[m]?=some y→y.1=false) (fun q=>fs.length - q) 0 rfl cl16 ⟨by omega,fun m y hm=>by omega⟩ ?_
 rintro q ⟨hq,hno⟩
 repeat' first|refine sk2 ?_|(intro b;conv=>whnf)|refine IxM.mk fun y hy=>?_|(with_reducible refine Br.d (fun hc=>?_) (fun hc=>?_))|(with_reducible refine Br.b (fun hc=>?_) (fun hc=>?_))
 ·refine Rt.pure (congrArg iD ?_);exact (by6 hno hy (by assumption)).symm
 ·exact ⟨q+1,rfl,cl16,⟨by omega,fun m z hm hz=>by
   by_cases e:m=q
   ·subst e;rw [show ((m:Int)).toNat=m from rfl,hz] at hy;cases hy;assumption
   ·exact hno m z (by omega) hz⟩,by omega⟩
 ·refine Rt.pure (congrArg iD ?_);exact (bf5 (fun m y hy=>hno m y (by have:=(List.getElem?_eq_some_iff.1 hy).1;omega) hy)).symm
theorem ad3 (b:Bool) (c:Int):APure Tryz.prog 147 [.sl 2 [[bD b,iD c]]] (iD (am9 [(b,c)])):=aQ4 [(b,c)] (by simp)
theorem ad2 (b:Bool) (c:Int) (b':Bool) (c':Int):APure Tryz.prog 147 [.sl 2 [[bD b,iD c],[bD b',iD c']]] (iD (am9 [(b,c),(b',c')])):=aQ4 [(b,c),(b',c')] (by simp)
theorem an7 (b1 b2 b3 b4:Bool) (c1 c2 c3 c4:Int):APure Tryz.prog 147 [.sl 2 [[bD b1,iD c1],[bD b2,iD c2],[bD b3,iD c3],[bD b4,iD c4]]] (iD (am9 [(b1,c1),(b2,c2),(b3,c3),(b4,c4)])):=aQ4 [(b1,c1),(b2,c2),(b3,c3),(b4,c4)] (by simp)
def cd7 (x:Sch) (i j:Int) (f:Fld):List D:=[iD x.version,slK x.kinds,slL x.lives,slR x.rules,iD i,iD j,sD f.name,sD f.of,sD f.up,iD f.kind,iD f.lo,iD f.hi,slS f.words,slI f.weights]
abbrev aQ7 (x:Sch) (i j:Int) (f:Fld):D:=.agg (cd7 x i j f)
theorem sk61 {A B:Prop} (k:B) (h:Hd7 B→A:=by intro hk7q;(first|refine sb0 ?_|refine sb1 ?_|((with_reducible refine' Cp.by ?hc ?_);(case hc=>exact aM4 x _ _ hl hf))|((with_reducible refine' CE.pure ?hc ?_);(case hc=>exact aM4 x _ _ hl hf)));exact hk7q.run):A:=h ⟨k⟩
theorem aQ3 (x:Sch) (i j:Int) (f:Fld) (hl:x.kinds.length≤1000000) (hf:∀ k∈x.kinds,k.fields.length≤1000000):APure Tryz.prog 294 [aQ7 x i j f] (bD (decide (upIx x i j<0))):=by
 refine eP7 Tryz.func294 Tryz.ntmps294 fun BB=>?_
 repeat' first|refine sk61 ?_|(intro b;conv=>whnf)
 refine Rt.pure (congrArg bD ?_);rfl
theorem sk62 {A B:Prop} (k:B) (h:Hd7 B→A:=by intro hk7q;(first|refine sb0 ?_|refine sb1 ?_|((with_reducible refine' Cp.by ?hc ?_);(case hc=>first|exact aM4 x _ _ hl hf|exact HA|exact aj8 _ _ (by assumption)))|((with_reducible refine' CE.pure ?hc ?_);(case hc=>first|exact aM4 x _ _ hl hf|exact HA|exact aj8 _ _ (by assumption))));exact hk7q.run):A:=h ⟨k⟩
theorem bM0 (x:Sch) (i j:Int) (f:Fld) (hl:x.kinds.length≤1000000) (hf:∀ k∈x.kinds,k.fields.length≤1000000):APure Tryz.prog 304 [aQ7 x i j f] (.tup [fldD (topR x i j f).1,bD (topR x i j f).2]):=by
 have hul:=br4 x i j
 refine eP7 Tryz.func304 Tryz.ntmps304 fun BB=>?_
 by_cases hu:upIx x i j<0
 ·have ht:topR x i j f=(aI1,false):=by unfold topR;rw [bs4 hu]
  repeat' first|refine sk62 ?_|(intro b;conv=>whnf)|(with_reducible refine Br.d (fun hc=>?_) (fun hc=>?_))|(with_reducible refine Br.b (fun hc=>?_) (fun hc=>?_))
  rw [ht]
  exact Rt.vs (Vs.tup (VsL.cons (Vs.le aB7) (VsL.cons (Vs.refl _ _) (VsL.nil _))))
 ·obtain ⟨ko,hko⟩:∃ ko,x.kinds[(upIx x i j).toNat]?=some ko:=⟨_,List.getElem?_eq_getElem (by omega)⟩
  have hfk:=hf ko (List.mem_of_getElem? hko)
  have htf:=bs5 (f:=f) hu hko
  have HA:=bc8 x (upIx x i j) (ac2 ko f.of)
  have ht:topR x i j f=atR x (upIx x i j) (ac2 ko f.of):=by unfold topR atR;rw [htf]
  repeat' first|refine sk62 ?_|(intro b;conv=>whnf)|(with_reducible refine Br.d (fun hc=>?_) (fun hc=>?_))|(with_reducible refine Br.b (fun hc=>?_) (fun hc=>?_))
  rw [ht]
  exact Rt.vs (Vs.refl _ _)
end
section
open Go
theorem ao7 (b:Bool) (c:Int):am9 [(b,c)]=if b=true then c else 0:=by cases b <;> rfl
theorem aq4 (b b':Bool) (c c':Int):am9 [(b,c),(b',c')]=if b=true then c else if b'=true then c' else 0:=by cases b <;> cases b' <;> rfl
theorem ci7 {x:Sch} {i j:Int} {f:Fld} (hk:f.kind=0):af1 x i j f=if 0<j then 13 else 0:=by
 unfold af1;by_cases h:0<j <;> simp [hk,h]
theorem ci6 {x:Sch} {i j:Int} {f:Fld} (hk:f.kind=1):af1 x i j f=if upIx x i j<0 then 12 else 0:=by simp [af1,hk]
theorem ci5 {x:Sch} {i j:Int} {f:Fld} (hk:f.kind=4):af1 x i j f=dayE x i j f:=by simp [af1,hk]
theorem ci4 {x:Sch} {i j:Int} {f:Fld} (hk:f.kind=5):af1 x i j f=if x.lives.any (fun l=>seq l.name f.of) then 0 else 12:=by simp only [af1,hk];simp
theorem ci3 {x:Sch} {i j:Int} {f:Fld} (hk:f.kind=6):af1 x i j f=if (as5 x i f).1<0 then 12 else if (as5 x i f).2.length=1 then 0 else 11:=by simp [af1,hk]
theorem ci2 {x:Sch} {i j:Int} {f:Fld} (hk:f.kind=7):af1 x i j f=if upIx x i j<0 then 12 else if (abvR x i j f).1=6∧ab6 x (abvR x i j f).2.of=i then 0 else 13:=by simp [af1,bb9,hk]
theorem ci1 {x:Sch} {i j:Int} {f:Fld} (hk:f.kind=8):af1 x i j f=if upIx x i j<0 then 12 else if (abvR x i j f).1<0∨(abvR x i j f).1=0∨(abvR x i j f).1=1∨(abvR x i j f).1=6∨(abvR x i j f).1=7 then 13 else 0:=by simp [af1,bb9,hk]
theorem sk63 {A B:Prop} (k:B) (h:Hd7 B→A:=by intro hk7q;(first|refine sb0 ?_|refine sb1 ?_|((with_reducible refine' Cp.by ?hc ?_);(case hc=>first|exact ad3 _ _|exact ad2 _ _ _ _))|((with_reducible refine' CE.pure ?hc ?_);(case hc=>first|exact ad3 _ _|exact ad2 _ _ _ _)));exact hk7q.run):A:=h ⟨k⟩
theorem bs3 (x:Sch) (i j:Int) (f:Fld) (hk:f.kind=0):APure Tryz.prog 297 [aQ7 x i j f] (iD (af1 x i j f)):=by
 refine eP7 Tryz.func297 Tryz.ntmps297 fun BB=>?_
 repeat' first|refine sk63 ?_|(intro b;conv=>whnf)
 refine Rt.pure (congrArg iD ?_)
 rw [ao7,ci7 hk]
 simp
theorem sk64 {A B:Prop} (k:B) (h:Hd7 B→A:=by intro hk7q;(first|refine sb0 ?_|refine sb1 ?_|((with_reducible refine' Cp.by ?hc ?_);(case hc=>first|exact ad3 _ _|exact ad2 _ _ _ _|exact aQ3 x i j f hl hf))|((with_reducible refine' CE.pure ?hc ?_);(case hc=>first|exact ad3 _ _|exact ad2 _ _ _ _|exact aQ3 x i j f hl hf)));exact hk7q.run):A:=h ⟨k⟩
theorem bs2 (x:Sch) (i j:Int) (f:Fld) (hl:x.kinds.length≤1000000) (hf:∀ k∈x.kinds,k.fields.length≤1000000) (hk:f.kind=1):APure Tryz.prog 298 [aQ7 x i j f] (iD (af1 x i j f)):=by
 refine eP7 Tryz.func298 Tryz.ntmps298 fun BB=>?_
 repeat' first|refine sk64 ?_|(intro b;conv=>whnf)
 refine Rt.pure (congrArg iD ?_)
 rw [ao7,ci6 hk]
 simp
theorem sk65 {A B:Prop} (k:B) (h:Hd7 B→A:=by intro hk7q;(first|refine sb0 ?_|refine sb1 ?_|((with_reducible refine' Cp.by ?hc ?_);(case hc=>first|exact ad3 _ _|exact ad2 _ _ _ _|exact HA|exact aj8 _ _ (by assumption)))|((with_reducible refine' CE.pure ?hc ?_);(case hc=>first|exact ad3 _ _|exact ad2 _ _ _ _|exact HA|exact aj8 _ _ (by assumption))));exact hk7q.run):A:=h ⟨k⟩
theorem bs1 (x:Sch) (i j:Int) (f:Fld) (hl:x.kinds.length≤1000000) (hf:∀ k∈x.kinds,k.fields.length≤1000000) (hfa:fieldAt x i j=some f) (hk:f.kind=4):APure Tryz.prog 299 [aQ7 x i j f] (iD (af1 x i j f)):=by
 obtain ⟨h0,h1,k,hk0,hkf⟩:=ah3 hfa
 have hfk:=hf k (List.mem_of_getElem? hk0)
 have hka:af3 x i=some k:=by simp [af3,h0,hk0]
 have hfl:=ap7 k f.of
 rw [ci5 hk]
 simp only [dayE,hka]
 have HA:=bc8 x i (ac2 k f.of)
 by_cases hn:ac2 k f.of<0
 ·rw [bl8 hn] at HA
  refine eP7 Tryz.func299 Tryz.ntmps299 fun BB=>?_
  repeat' first|refine sk65 ?_|(intro b;conv=>whnf)|(with_reducible refine Br.d (fun hc=>?_) (fun hc=>?_))|(with_reducible refine Br.b (fun hc=>?_) (fun hc=>?_))
  all_goals (refine Rt.pure (congrArg iD ?_);rw [ao7,← eqE];generalize (f.of.toList == ({ data:=#[] }:ByteArray).toList)=e at *;simp [*])
 ·obtain ⟨g,hg⟩:∃ g,k.fields[(ac2 k f.of).toNat]?=some g:=⟨_,List.getElem?_eq_getElem (by omega)⟩
  rw [aV1 h0 hk0 (by omega) hg] at HA
  rw [hg]
  refine eP7 Tryz.func299 Tryz.ntmps299 fun BB=>?_
  repeat' first|refine sk65 ?_|(intro b;conv=>whnf)|(with_reducible refine Br.d (fun hc=>?_) (fun hc=>?_))|(with_reducible refine Br.b (fun hc=>?_) (fun hc=>?_))
  all_goals (refine Rt.pure (congrArg iD ?_);rw [ao7,← eqE];generalize (f.of.toList == ({ data:=#[] }:ByteArray).toList)=e at *;simp [*])
theorem aN5 (x:Sch) (i j:Int) (f:Fld) (y:Lif):APure Tryz.prog 301 [lifD y,.ro (cd7 x i j f)] (bD (seq y.name f.of)):=by
 refine eP7 Tryz.func301 Tryz.ntmps301 fun BB=>?_
 repeat' first|refine sk2 ?_|(intro b;conv=>whnf)
 refine Rt.pure (congrArg bD ?_);rfl
theorem sk66 {A B:Prop} (k:B) (h:Hd7 B→A:=by intro hk7q;(first|refine sb0 ?_|refine sb1 ?_|((with_reducible refine' Cp.by ?hc ?_);(case hc=>first|exact ad3 _ _|exact ad2 _ _ _ _|exact bg3 x.lives (fun y=>seq y.name f.of) hll (fun y _=>aN5 x i j f y)))|((with_reducible refine' CE.pure ?hc ?_);(case hc=>first|exact ad3 _ _|exact ad2 _ _ _ _|exact bg3 x.lives (fun y=>seq y.name f.of) hll (fun y _=>aN5 x i j f y))));exact hk7q.run):A:=h ⟨k⟩
theorem br9 (x:Sch) (i j:Int) (f:Fld) (hll:x.lives.length≤1000000) (hk:f.kind=5):APure Tryz.prog 300 [aQ7 x i j f] (iD (af1 x i j f)):=by
 refine eP7 Tryz.func300 Tryz.ntmps300 fun BB=>?_
 repeat' first|refine sk66 ?_|(intro b;conv=>whnf)
 refine Rt.pure (congrArg iD ?_)
 rw [ao7,ci4 hk]
 cases x.lives.any (fun l=>seq l.name f.of) <;> rfl
theorem sk67 {A B:Prop} (k:B) (h:Hd7 B→A:=by intro hk7q;(first|refine sb0 ?_|refine sb1 ?_|((with_reducible refine' Cp.by ?hc ?_);(case hc=>first|exact ad3 _ _|exact ad2 _ _ _ _|exact aN4 x i f h0 hl hf))|((with_reducible refine' CE.pure ?hc ?_);(case hc=>first|exact ad3 _ _|exact ad2 _ _ _ _|exact aN4 x i f h0 hl hf)));exact hk7q.run):A:=h ⟨k⟩
theorem br8 (x:Sch) (i j:Int) (f:Fld) (h0:0≤i) (hl:x.kinds.length≤1000000) (hf:∀ k∈x.kinds,k.fields.length≤1000000) (hk:f.kind=6):APure Tryz.prog 302 [aQ7 x i j f] (iD (af1 x i j f)):=by
 refine eP7 Tryz.func302 Tryz.ntmps302 fun BB=>?_
 repeat' first|refine sk67 ?_|(intro b;conv=>whnf)
 refine Rt.pure (congrArg iD ?_)
 rw [aq4,ci3 hk]
 simp only [List.length_map]
 by_cases h1:(as5 x i f).1<0 <;> by_cases h2:(as5 x i f).2.length=1 <;> simp [h1,h2] <;> omega
theorem bg4 {x:Sch} {i j:Int} {f:Fld}:(abvR x i j f).1=(if (topR x i j f).2=true then (topR x i j f).1.kind else -1)∧(abvR x i j f).2=(topR x i j f).1:=by
 unfold abvR topR;cases topF x i j f <;> simp
theorem bZ2 {k u:Int} (B:Bool) (p:Bool) (h:0≤k∧k≤8) (hB:B=true↔(k=0∨k=1∨k=6∨k=7)) {_hp:p=decide (u<0)} :
  (if p=true then (12:Int) else if B=true then 13 else 0)=if u<0 then 12 else if (if true=true then k else -1)<0∨(if true=true then k else -1)=0∨(if true=true then k else -1)=1∨(if true=true then k else -1)=6∨(if true=true then k else -1)=7 then 13 else 0:=by
 subst _hp
 simp only [if_true,decide_eq_true_eq]
 by_cases hu:u<0
 ·rw [if_pos hu,if_pos hu]
 ·rw [if_neg hu,if_neg hu]
  by_cases hb:B=true
  ·rw [if_pos hb,if_pos (by have:=hB.1 hb;omega)]
  ·rw [if_neg hb,if_neg (by intro h';exact hb (hB.2 (by omega)))]
theorem sk68 {A B:Prop} (k:B) (h:Hd7 B→A:=by intro hk7q;(first|refine sb0 ?_|refine sb1 ?_|((with_reducible refine' Cp.by ?hc ?_);(case hc=>first|exact ad3 _ _|exact ad2 _ _ _ _|exact aQ3 x i j f hl hf|exact HT|exact al4 _ _ (by assumption)))|((with_reducible refine' CE.pure ?hc ?_);(case hc=>first|exact ad3 _ _|exact ad2 _ _ _ _|exact aQ3 x i j f hl hf|exact HT|exact al4 _ _ (by assumption))));exact hk7q.run):A:=h ⟨k⟩
theorem br7 (x:Sch) (i j:Int) (f:Fld) (hl:x.kinds.length≤1000000) (hf:∀ k∈x.kinds,k.fields.length≤1000000) (hk:f.kind=7):APure Tryz.prog 303 [aQ7 x i j f] (iD (af1 x i j f)):=by
 rw [ci2 hk,bg4.1,bg4.2]
 have HT:=bM0 x i j f hl hf
 rcases ht:topR x i j f with ⟨g,b⟩
 rw [ht] at HT
 simp only at HT ⊢
 refine eP7 Tryz.func303 Tryz.ntmps303 fun BB=>?_
 cases b
 ·repeat' first|refine sk68 ?_|(intro b;conv=>whnf)|(with_reducible refine Br.d (fun hc=>?_) (fun hc=>?_))|(with_reducible refine Br.b (fun hc=>?_) (fun hc=>?_))
  all_goals (refine Rt.pure (congrArg iD ?_);rw [aq4];simp [*])
 ·repeat' first|refine sk68 ?_|(intro b;conv=>whnf)|(with_reducible refine Br.d (fun hc=>?_) (fun hc=>?_))|(with_reducible refine Br.b (fun hc=>?_) (fun hc=>?_))
  all_goals (refine Rt.pure (congrArg iD ?_);rw [aq4];simp [*])
theorem br6 (x:Sch) (i j:Int) (f:Fld) (hl:x.kinds.length≤1000000) (hf:∀ k∈x.kinds,k.fields.length≤1000000) (hg:∀ k∈x.kinds,∀ g∈k.fields,0≤g.kind∧g.kind≤8) (hk:f.kind=8):APure Tryz.prog 305 [aQ7 x i j f] (iD (af1 x i j f)):=by
 rw [ci1 hk,bg4.1]
 have HT:=bM0 x i j f hl hf
 have hgk:(topR x i j f).2=true→0≤(topR x i j f).1.kind∧(topR x i j f).1.kind≤8:=by
  unfold topR
  cases ht:topF x i j f with
  | none=>intro h;cases h
  | some g=>
   intro _
   unfold topF at ht
   split at ht
   ·cases ht
   ·split at ht
    ·obtain ⟨_,_,k',hk',hkf⟩:=ah3 ht
     exact hg k' (List.mem_of_getElem? hk') g (List.mem_of_getElem? hkf)
    ·cases ht
 rcases ht:topR x i j f with ⟨g,b⟩
 rw [ht] at HT hgk
 simp only at HT hgk ⊢
 refine eP7 Tryz.func305 Tryz.ntmps305 fun BB=>?_
 cases b
 ·repeat' first|refine sk68 ?_|(intro b;conv=>whnf)|(with_reducible refine Br.d (fun hc=>?_) (fun hc=>?_))|(with_reducible refine Br.b (fun hc=>?_) (fun hc=>?_))
  all_goals (refine Rt.pure (congrArg iD ?_);rw [aq4];simp [*])
 ·have hgk:=hgk rfl
  repeat' first|refine sk68 ?_|(intro b;conv=>whnf)|(with_reducible refine Br.d (fun hc=>?_) (fun hc=>?_))|(with_reducible refine Br.b (fun hc=>?_) (fun hc=>?_))
  all_goals (clear HT;refine Rt.pure (congrArg iD ?_);rw [aq4];refine bZ2 _ _ hgk ?_ (_hp:=rfl);first|(simp;omega)|(simp only [Bool.false_eq_true,false_iff];omega)|(simp only [true_iff];omega))
end
section
open Go
theorem sk69 {A B:Prop} (k:B) (h:Hd7 B→A:=by intro hk7q;(first|refine sb0 ?_|refine sb1 ?_|((with_reducible refine' Cp.by ?hc ?_);(case hc=>first|exact ad3 _ _|exact ad2 _ _ _ _|exact an7 _ _ _ _ _ _ _ _|exact al4 _ _ (by assumption)))|((with_reducible refine' CE.pure ?hc ?_);(case hc=>first|exact ad3 _ _|exact ad2 _ _ _ _|exact an7 _ _ _ _ _ _ _ _|exact al4 _ _ (by assumption))));exact hk7q.run):A:=h ⟨k⟩
theorem bi0 (x:Sch) (i:Nat) (k:Knd) (hl:x.kinds.length≤1000000) (hk:x.kinds[i]?=some k):APure Tryz.prog 148 [schD x,iD i] (iD (ao3 x i k)):=by
 have hk:x.kinds[((i:Nat):Int).toNat]?=some k:=hk
 have hil:=(List.getElem?_eq_some_iff.1 hk).1
 refine eP7 Tryz.func148 Tryz.ntmps148 fun BB=>?_
 rcases hfs:k.fields with _|⟨g,r⟩
 ·have h0:k.fields.length=0:=by rw [hfs];rfl
  repeat' first|refine sk69 ?_|(intro b;conv=>whnf)|(with_reducible refine Br.d (fun hc=>?_) (fun hc=>?_))|(with_reducible refine Br.b (fun hc=>?_) (fun hc=>?_))
  all_goals (refine Rt.pure (congrArg iD ?_);rw [aq4];unfold ao3 aY7;rw [hfs];simp [*])
 ·have hg:k.fields[(0:Int).toNat]?=some g:=by rw [hfs];rfl
  have h0:0<k.fields.length:=by rw [hfs];simp
  repeat' first|refine sk69 ?_|(intro b;conv=>whnf)|(with_reducible refine Br.d (fun hc=>?_) (fun hc=>?_))|(with_reducible refine Br.b (fun hc=>?_) (fun hc=>?_))
  all_goals (refine Rt.pure (congrArg iD ?_);rw [aq4];unfold ao3 aY7;rw [hfs];simp [*])
theorem bh9 (y r:Rul):APure Tryz.prog 199 [rulD y,.ro (rulC r)] (bD (seq y.name r.name)):=by
 refine eP7 Tryz.func199 Tryz.ntmps199 fun BB=>?_
 repeat' first|refine sk2 ?_|(intro b;conv=>whnf)
 refine Rt.pure (congrArg bD ?_);rfl
def ruI (x:Sch) (k:Knd) (o:Int) (r:Rul) (g:Nat × Bool × Bool):Prop:=(g.1=0∧g.2.1=false∧g.2.2=false)∨(g.1=1∧g.2.1=ag9 x k o r.a∧g.2.2=ae3 x k o r.a)∨(g.1=2∧g.2.1=(ag9 x k o r.a || ag9 x k o r.b)∧g.2.2=(ae3 x k o r.a || ae3 x k o r.b))
theorem sk70 {A B:Prop} (k:B) (h:Hd7 B→A:=by intro hk7q;(first|refine sb0 ?_|refine sb1 ?_|((with_reducible refine' Cp.by ?hc ?_);(case hc=>first|exact ad3 _ _|exact ad2 _ _ _ _|exact an7 _ _ _ _ _ _ _ _|exact HR|exact HF|exact HAT|exact al4 _ _ (by assumption)))|((with_reducible refine' CE.pure ?hc ?_);(case hc=>first|exact ad3 _ _|exact ad2 _ _ _ _|exact an7 _ _ _ _ _ _ _ _|exact HR|exact HF|exact HAT|exact al4 _ _ (by assumption))));exact hk7q.run):A:=h ⟨k⟩
theorem bm2 (x:Sch) (i:Nat) (r:Rul) (hl:x.kinds.length≤1000000) (hrl:x.rules.length≤1000000) (hr:x.rules[i]?=some r) (hk:ab6 x r.kind<0):APure Tryz.prog 149 [schD x,iD i] (iD (ay1 x i r)):=by
 have hr:x.rules[((i:Nat):Int).toNat]?=some r:=hr
 have hil:=(List.getElem?_eq_some_iff.1 hr).1
 have HR:APure Tryz.prog 198 [.sl 5 ((x.rules.map rulC).take i),.clo 199 [.ro (rulC r)]] (bD (ag5 x i r)):=by
  rw [← List.map_take];exact bB6 (x.rules.take i) (fun s=>seq s.name r.name) (by simp;omega) (fun y _=>bh9 y r)
 have hE:ay1 x i r=am9 [(ag5 x i r,7),(true,12),(false,13),(seq r.a r.b,1)]:=by
  have:af3 x (ab6 x r.kind)=none:=by unfold af3;rw [if_neg (by omega)]
  simp only [ay1,this]
 refine eP7 Tryz.func149 Tryz.ntmps149 fun BB=>?_
 repeat' first|refine sk70 ?_|(intro b;conv=>whnf)
 refine CE.pk (APk.peek (.cons (Pk.same _) (.cons (Pk.clo (.cons (Pk.ptr (j:=0) rfl (PkL.refl _)) .nil)) .nil)) HR rfl) ?_
 repeat' first|refine sk70 ?_|(intro b;conv=>whnf)
 refine ai2 mixed aa0 (γ:=Nat) (fun j=>[(37,iD j),(8,bD (decide (ab6 x r.kind<0))),(9,bD false)]) (fun _=>[(b,.cells 92 (rulC r))]) (fun j=>j≤2) (fun j=>2 - j) 0 (aa2 cl7) cl16 (by omega) ?_
 rintro j hj
 obtain rfl|rfl|rfl:j=0∨j=1∨j=2:=by omega
 ·repeat' first|refine sk70 ?_|(intro b;conv=>whnf)|(with_reducible refine Br.d (fun hc=>?_) (fun hc=>?_))|(with_reducible refine Br.b (fun hc=>?_) (fun hc=>?_))
  all_goals exact ⟨1,(aa2 cl7),cl16,by omega,by omega⟩
 ·repeat' first|refine sk70 ?_|(intro b;conv=>whnf)|(with_reducible refine Br.d (fun hc=>?_) (fun hc=>?_))|(with_reducible refine Br.b (fun hc=>?_) (fun hc=>?_))
  all_goals exact ⟨2,(aa2 cl7),cl16,by omega,by omega⟩
 ·repeat' first|refine sk70 ?_|(intro b;conv=>whnf)|(with_reducible refine Br.d (fun hc=>?_) (fun hc=>?_))|(with_reducible refine Br.b (fun hc=>?_) (fun hc=>?_))
  refine Rt.pure (congrArg iD ?_)
  rw [hE,decide_eq_true hk];rfl
theorem sk71 {A B:Prop} (k:B) (h:Hd7 B→A:=by intro hk7q;(first|refine sb0 ?_|refine sb1 ?_|((with_reducible refine' Cp.by ?hc ?_);(case hc=>first|exact ad3 _ _|exact ad2 _ _ _ _|exact an7 _ _ _ _ _ _ _ _|exact HR|exact bc8 _ _ _|exact al4 _ _ (by assumption)|exact aj8 _ _ (by assumption)))|((with_reducible refine' CE.pure ?hc ?_);(case hc=>first|exact ad3 _ _|exact ad2 _ _ _ _|exact an7 _ _ _ _ _ _ _ _|exact HR|exact bc8 _ _ _|exact al4 _ _ (by assumption)|exact aj8 _ _ (by assumption))));exact hk7q.run):A:=h ⟨k⟩
theorem bc7 (x:Sch) (i:Nat) (r:Rul) (k:Knd) (hl:x.kinds.length≤1000000) (hf:∀ k∈x.kinds,k.fields.length≤1000000) (hrl:x.rules.length≤1000000) (hr:x.rules[i]?=some r) (h0:0≤ab6 x r.kind) (hk:x.kinds[(ab6 x r.kind).toNat]?=some k):APure Tryz.prog 149 [schD x,iD i] (iD (ay1 x i r)):=by
 have hr:x.rules[((i:Nat):Int).toNat]?=some r:=hr
 have hil:=(List.getElem?_eq_some_iff.1 hr).1
 have hfk:=hf k (List.mem_of_getElem? hk)
 have HR:APure Tryz.prog 198 [.sl 5 ((x.rules.map rulC).take i),.clo 199 [.ro (rulC r)]] (bD (ag5 x i r)):=by
  rw [← List.map_take];exact bB6 (x.rules.take i) (fun s=>seq s.name r.name) (by simp;omega) (fun y _=>bh9 y r)
 have hE:ay1 x i r=am9 [(ag5 x i r,7),(ag9 x k (ab6 x r.kind) r.a || ag9 x k (ab6 x r.kind) r.b,12),(ae3 x k (ab6 x r.kind) r.a || ae3 x k (ab6 x r.kind) r.b,13),(seq r.a r.b,1)]:=by
  have:af3 x (ab6 x r.kind)=some k:=by unfold af3;rw [if_pos h0];exact hk
  simp only [ay1,this]
 refine eP7 Tryz.func149 Tryz.ntmps149 fun BB=>?_
 repeat' first|refine sk71 ?_|(intro b;conv=>whnf)
 refine CE.pk (APk.peek (.cons (Pk.same _) (.cons (Pk.clo (.cons (Pk.ptr (j:=0) rfl (PkL.refl _)) .nil)) .nil)) HR rfl) ?_
 clear HR
 repeat' first|refine sk71 ?_|(intro b;conv=>whnf)
 refine ai2 mixed aa0 (γ:=Nat × Bool × Bool) (fun g=>[(37,iD g.1),(8,bD g.2.1),(9,bD g.2.2)]) (fun _=>[(b,.cells 92 (rulC r))]) (ruI x k (ab6 x r.kind) r) (fun g=>2 - g.1) (0,decide (ab6 x r.kind<0),false) (aa2 cl7) cl16 (.inl ⟨rfl,by simp;omega,rfl⟩) ?_
 rintro ⟨j,m,w⟩ (⟨rfl,rfl,rfl⟩|⟨rfl,rfl,rfl⟩|⟨rfl,rfl,rfl⟩)
 ·repeat' first|refine sk71 ?_|(intro b;conv=>whnf)|(with_reducible refine Br.d (fun hc=>?_) (fun hc=>?_))|(with_reducible refine Br.b (fun hc=>?_) (fun hc=>?_))
  all_goals (refine ⟨(1,ag9 x k (ab6 x r.kind) r.a,ae3 x k (ab6 x r.kind) r.a),aa2 (.cons rfl (.cons ?_ (.cons ?_ cl7))),cl16,.inr (.inl ⟨rfl,rfl,rfl⟩),by simp only;omega⟩ <;> (refine congrArg (fun b=>some (bD b)) ?_;clear hE;simp only [ag9,ae3,← eqE];generalize (r.a.toList == ({ data:=#[] }:ByteArray).toList)=ea at *;generalize (atR x (ab6 x r.kind) (ac2 k r.a)).1.kind=K at *;first|(simp [*];done)|(by_cases h4:K=4 <;> by_cases h2:K=2 <;> simp_all)))
 ·repeat' first|refine sk71 ?_|(intro b;conv=>whnf)|(with_reducible refine Br.d (fun hc=>?_) (fun hc=>?_))|(with_reducible refine Br.b (fun hc=>?_) (fun hc=>?_))
  all_goals (refine ⟨(2,ag9 x k (ab6 x r.kind) r.a || ag9 x k (ab6 x r.kind) r.b,ae3 x k (ab6 x r.kind) r.a || ae3 x k (ab6 x r.kind) r.b),aa2 (.cons rfl (.cons ?_ (.cons ?_ cl7))),cl16,.inr (.inr ⟨rfl,rfl,rfl⟩),by simp only;omega⟩ <;> (refine congrArg (fun b=>some (bD b)) ?_;clear hE;generalize ag9 x k (ab6 x r.kind) r.a=na at *;generalize ae3 x k (ab6 x r.kind) r.a=nb at *;simp only [ag9,ae3,← eqE];generalize (r.b.toList == ({ data:=#[] }:ByteArray).toList)=eb at *;generalize (atR x (ab6 x r.kind) (ac2 k r.b)).1.kind=K at *;first|(simp [*];done)|(by_cases h4:K=4 <;> by_cases h2:K=2 <;> simp_all)))
 ·repeat' first|refine sk71 ?_|(intro b;conv=>whnf)|(with_reducible refine Br.d (fun hc=>?_) (fun hc=>?_))|(with_reducible refine Br.b (fun hc=>?_) (fun hc=>?_))
  refine Rt.pure (congrArg iD ?_)
  rw [hE];rfl
theorem bh8 (x:Sch) (i:Nat) (r:Rul) (hl:x.kinds.length≤1000000) (hf:∀ k∈x.kinds,k.fields.length≤1000000) (hrl:x.rules.length≤1000000) (hr:x.rules[i]?=some r):APure Tryz.prog 149 [schD x,iD i] (iD (ay1 x i r)):=by
 by_cases h0:ab6 x r.kind<0
 ·exact bm2 x i r hl hrl hr h0
 ·have hlt:ab6 x r.kind<x.kinds.length:=aO6 _ _
  exact bc7 x i r _ hl hf hrl hr (by omega) (List.getElem?_eq_getElem (by omega))
end
section
open Go Go.Maps Go.MapKept
theorem ae0 {ρ:Operand→D} {σ:aa1} {o:Oper} (ho:o.op = .load 246 (.global 0)) (hρ:ρ (.global 0) = .v (.pointer (some ⟨0,0,none⟩))) :
  Yd Tryz.prog o ρ σ (.gl 0):=by
 intro w X η hη hst
 obtain ⟨dst,op,ty,pos,aft,g⟩:=o
 simp only at ho
 subst ho
 have hp:=(hη (.global 0) (by simp [Op.operands])).val hρ
 obtain ⟨r,h1,h2,h3⟩:=hst.gok.checks
 obtain ⟨g1,g2⟩:=aE6 (aa0 246 _ rfl) w
 refine ac8 (s:=Instr.loadAt 246 (η (.global 0))) (u:=.map (some r)) ?_ (Ex.refl w) (.gl _ _ (hst.gok.no _ (by decide)) (Nat.lt_of_lt_of_le (by decide) hst.gok.sz) h1)
 rw [hp]
 exact an8 g1 h1
def chkB (n:Int):Bool:=(aggF chkM (.int .i64 n)).isSome
def chkD (n:Int):D:=.agg [.v (((chkM (.int .i64 n))).getD .nilFunc)]
theorem bP2 {ρ:Operand→D} {σ:aa1} {o:Oper} {x i:Operand} {n:Int} (ho:o.op = .lookup 246 x i true) (hx:ρ x = .gl 0) (hi:ρ i = .v (.int .i64 n)) (hn:0≤n∧n≤8) :
  Yd Tryz.prog o ρ σ (.tup [chkD n,.v (.bool (chkB n))]):=by
 intro w X η hη hst
 obtain ⟨dst,op,ty,pos,aft,g⟩:=o
 simp only at ho
 subst ho
 have h0:=hη x (by simp [Op.operands])
 rw [hx] at h0
 have hv:=(hη i (by simp [Op.operands])).val hi
 obtain ⟨r,h1,h2,h3⟩:=hst.gok.checks
 have hxv:η x = .map (some r):=by
  generalize hq:D.gl 0=q at h0
  generalize η x=u at h0
  cases h0 <;> cases hq
  rename_i q' _ _ hc
  rw [h1] at hc;cases hc;rfl
 have hwf:(Lit.int .i64 n).wf=true:=by
  have:n=0∨n=1∨n=2∨n=3∨n=4∨n=5∨n=6∨n=7∨n=8:=by omega
  rcases this with rfl|rfl|rfl|rfl|rfl|rfl|rfl|rfl|rfl <;> rfl
 have hz:(zeroValue 244).run Tryz.prog w = .ok (.agg #[.nilFunc]) w:=by
  have:(Tryz.prog.info? 244).map (fun i=>i.zero)=some (some (.agg #[.nilFunc])):=by kernel_rfl
  cases hi:Tryz.prog.info? 244 with
  | none=>rw [hi] at this;cases this
  | some inf=>
   rw [hi] at this
   simp only [Option.map_some,Option.some.injEq] at this
   simp [zeroValue,typeInfo,program,Sem.run,hi,this]
 have hrun:=h3.look_ok (int_keyed Tryz.underlying3) Tryz.underlying246 hz (keyOf_int_mk Tryz.underlying3 hwf)
 refine ac8 (s:=Instr.lookup 246 (η x) (η i) true) (by rw [hxv,hv];exact hrun) (Ex.refl w) ?_
 have e:(aggF chkM (.int .i64 n)).getD (.agg #[.nilFunc]) = .agg #[(chkM (.int .i64 n)).getD .nilFunc]:=by
  unfold aggF;cases chkM (.int .i64 n) <;> rfl
 rw [e]
 have h5:=RdL.cons (w:=w) (O:=Own σ X) (Rd.agg [.v ((chkM (.int .i64 n)).getD .nilFunc)] [(chkM (.int .i64 n)).getD .nilFunc] rfl (RdL.vals [(chkM (.int .i64 n)).getD .nilFunc]).at_) (RdL.cons (Rd.v (.bool (chkB n))) RdL.nil)
 exact Rd.tup [chkD n,.v (.bool (chkB n))] _ h5.len h5.at_
end
section
open Go
theorem sk72 {A B:Prop} (k:B) (h:Hd7 B→A:=by intro hk7q;(first|refine sb0 ?_|refine sb1 ?_|((with_reducible refine' Cp.by ?hc ?_);(case hc=>first|exact HV|exact aW8 _|exact aj9 _ _ (by assumption)|exact ah5 _ _ (by assumption)|exact aW7 _ _ _ _ (by assumption) (by assumption) (by assumption) (by assumption)|exact aW6 _ _ _ (by assumption) (by assumption) (by assumption) (by assumption)))|((with_reducible refine' CE.pure ?hc ?_);(case hc=>first|exact HV|exact aW8 _|exact aj9 _ _ (by assumption)|exact ah5 _ _ (by assumption)|exact aW7 _ _ _ _ (by assumption) (by assumption) (by assumption) (by assumption)|exact aW6 _ _ _ (by assumption) (by assumption) (by assumption) (by assumption))));exact hk7q.run):A:=h ⟨k⟩
end
section
open Go
theorem aj5 (b:Nat) (l:List Prb) (v:Value) (s:aa1) (k f r e:Int) (hr:RowIs 191 4 (l.map prbC) v s) (hl:l.length≤1000000) :
  ACall Tryz.prog 144 [iD k,iD f,iD r,iD e,.v (.pointer (some ⟨b,0,none⟩))] ((b,.cells 189 [.v v]) :: s)
   (fun d σ'=>∃ v' s',d = .v (.tuple #[])∧σ'=(b,.cells 189 [.v v']) :: s'∧RowIs 191 4 ((l ++ one k f r e).map prbC) v' s'):=by
 obtain ⟨a,c,rfl⟩:=hr.slice
 refine eC7 Tryz.func144 Tryz.ntmps144 fun BB=>?_
 repeat' first|refine sk2 ?_|(intro b;conv=>whnf)|(with_reducible refine Br.d (fun hc=>?_) (fun hc=>?_))|(with_reducible refine Br.b (fun hc=>?_) (fun hc=>?_))
 ·refine Rt.same ⟨_,s,rfl,rfl,?_⟩
  unfold one;rw [if_pos (by omega)];simpa using hr
 ·refine Ap.go rfl rfl rfl rfl hr (bd9 _ _) rfl (zs:=(l ++ one k f r e).map prbC) (by unfold one;rw [if_neg (by omega)];simp [prbC]) (by simp [one];split <;> simp <;> omega) (by simp [one];split <;> simp <;> omega) (fun s'=>_ :: s') (aO2 _) (fun a' c' s' hr'=>?_)
  repeat' first|refine sk2 ?_|(intro b;conv=>whnf)
  exact Rt.same ⟨_,s',rfl,rfl,hr'⟩
theorem bm3 (y l:Lif):APure Tryz.prog 146 [lifD y,.ro (lifC l)] (bD (seq y.name l.name)):=by
 refine eP7 Tryz.func146 Tryz.ntmps146 fun BB=>?_
 repeat' first|refine sk2 ?_|(intro b;conv=>whnf)
 refine Rt.pure (congrArg bD ?_);rfl
theorem af5 {ρ:Operand→D} {σ:aa1} {o:Oper} {x i:Operand} {m n:Int} (ho:o.op = .lookup 246 x i true) (hx:ρ x = .gl 0) (hi:ρ i = .v (.int .i64 m)) (hm:m=n) (hn:0≤n∧n≤8) :
  Yd Tryz.prog o ρ σ (.tup [chkD n,.v (.bool (chkB n))]):=by subst hm;exact bP2 ho hx hi hn
theorem cj0 {x:Sch} (hV:Vld x) {k:Knd} {f:Fld} (hk:k∈x.kinds) (hf:f∈k.fields):0≤f.kind∧f.kind≤8:=by
 have h1:=hV.kinds k hk
 simp only [al8,Bool.and_eq_true,List.all_eq_true] at h1
 have h2:=h1.2 f hf
 simp only [ac3,Bool.and_eq_true] at h2
 have h3:=h2.2
 unfold aw6 at h3
 repeat (split at h3;omega)
 cases h3
theorem au5 (x y z:Nat × Blk) (s:aa1):(x :: y :: z :: s).Perm (s ++ [x,y,z]):=List.perm_append_comm (l₁:=[x,y,z]) (l₂:=s)
theorem am7 (x y z:Nat × Blk) (s:aa1):(s ++ [x,y,z]).Perm (x :: y :: z :: s):=(au5 x y z s).symm
theorem sk73 {A B:Prop} (k:B) (h:Hd7 B→A:=by intro hk7q;(first|refine sb0 ?_|refine sb1 ?_|((with_reducible refine' Cp.by ?hc ?_);(case hc=>first|exact ad3 _ _|exact ad2 _ _ _ _|exact an7 _ _ _ _ _ _ _ _|exact HV|exact bi0 _ _ _ (by assumption) (by assumption)|exact aj8 _ _ (by assumption)|exact HC|exact bh8 _ _ _ (by assumption) (by assumption) (by assumption) (by assumption)))|((with_reducible refine' CE.pure ?hc ?_);(case hc=>first|exact ad3 _ _|exact ad2 _ _ _ _|exact an7 _ _ _ _ _ _ _ _|exact HV|exact bi0 _ _ _ (by assumption) (by assumption)|exact aj8 _ _ (by assumption)|exact HC|exact bh8 _ _ _ (by assumption) (by assumption) (by assumption) (by assumption))));exact hk7q.run):A:=h ⟨k⟩
theorem bD5 (x:Sch) (HV:APure Tryz.prog 143 [schD x] (iD (ak7 x))):APure Tryz.prog 97 [schD x] (.sl 4 ((aA9 x).map prbC)):=by
 refine eP7 Tryz.func97 Tryz.ntmps97 fun BB=>?_
 repeat' first|refine sk73 ?_|(intro b;conv=>whnf)|refine IxM.mk fun y hy=>?_
 by_cases hv:ak7 x=0
 ·have hV:=bq8 hv
  have hl:x.kinds.length≤1000000:=by have:=hV.nk;omega
  have hf:∀ k∈x.kinds,k.fields.length≤1000000:=fun k hk=>by have:=hV.nf k hk;omega
  have hll:x.lives.length≤1000000:=by have:=hV.nl;omega
  have hrl:x.rules.length≤1000000:=by have:=hV.nr;omega
  have hP:aA9 x=upTo x.lives.length (aM9 x) ++ upTo x.kinds.length (al3 x) ++ upTo x.rules.length (aR0 x):=by unfold aA9;rw [if_pos hv]
  have hnk:=hV.nk
  have hnl:=hV.nl
  have hnr:=hV.nr
  have hnf:=hV.nf
  clear HV
  repeat' first|refine sk73 ?_|(intro b;conv=>whnf)|refine IxM.mk fun y hy=>?_
  generalize b=b4
  refine ai2 mixed aa0 (γ:=Nat × Value × aa1) (fun g=>[(28,iD g.1)]) (fun g=>(b4,.cells 189 [.v g.2.1]) :: g.2.2) (fun g=>g.1≤x.lives.length∧RowIs 191 4 ((upTo g.1 (aM9 x)).map prbC) g.2.1 g.2.2) (fun g=>x.lives.length - g.1) (0,.slice none 0 0,[]) (aa2 cl7) cl16 ⟨Nat.zero_le _,RowIs.nil _ _⟩ ?_
  rintro ⟨q,v,s⟩ ⟨hq,hrow⟩
  simp only at hq hrow ⊢
  repeat' first|refine sk73 ?_|(intro b;conv=>whnf)|refine IxM.mk fun y hy=>?_|(with_reducible refine Br.d (fun hc=>?_) (fun hc=>?_))|(with_reducible refine Br.b (fun hc=>?_) (fun hc=>?_))
  ·have hy:x.lives[q]?=some y:=hy
   have hS:=ag4 q (aM9 x)
   have hlen:=ad9 (aY2 x) q
   rw [show aM9 x q=one (-1) q (-1) (if aK5 x q y then 7 else 0) by simp only [aM9,hy]] at hS
   have HR:APure Tryz.prog 145 [.sl 3 ((x.lives.map lifC).take q),.clo 146 [.ro (lifC y)]] (bD (aK5 x q y)):=by
    rw [← List.map_take];exact bg3 (x.lives.take q) (fun s=>seq s.name y.name) (by simp;omega) (fun z _=>bm3 z y)
   refine CE.pk (APk.peek (.cons (Pk.same _) (.cons (Pk.clo (.cons (Pk.ptr (j:=0) rfl (PkL.refl _)) .nil)) .nil)) HR rfl) ?_
   clear HR
   repeat' first|refine sk73 ?_|(intro b;conv=>whnf)|refine IxM.mk fun y hy=>?_
   refine CE.own (aj5 _ (upTo q (aM9 x)) _ _ _ _ _ _ (by assumption) (by (try simp only [List.length_append]);omega)) (bd9 _ _) (fun s'=>_ :: s') (aO2 _) ?_;rintro _ _ ⟨v',s',rfl,rfl,hr'⟩
   rw [ao7,← hS] at hr'
   repeat' first|refine sk73 ?_|(intro b;conv=>whnf)|refine IxM.mk fun y hy=>?_
   exact ⟨(q+1,v',s'),(aa2 cl7),cl16,⟨by simp only;omega,hr'⟩,by simp only;omega⟩
  ·obtain rfl:q=x.lives.length:=by omega
   have hlen1:=ad9 (aY2 x) x.lives.length
   generalize hL:upTo x.lives.length (aM9 x)=L at *
   refine ai2 mixed aa0 (γ:=Nat × Value × aa1) (fun g=>[(50,iD g.1)]) (fun g=>(b4,.cells 189 [.v g.2.1]) :: g.2.2) (fun g=>g.1≤x.kinds.length∧RowIs 191 4 ((L ++ upTo g.1 (al3 x)).map prbC) g.2.1 g.2.2) (fun g=>x.kinds.length - g.1) (0,v,s) (aa2 cl7) cl16 ⟨Nat.zero_le _,by simpa [upTo] using hrow⟩ ?_
   rintro ⟨q,v,s⟩ ⟨hq,hrow⟩
   simp only at hq hrow ⊢
   have hlen2:=ad9 (fun i=>bw6 x i hnf) q
   repeat' first|refine sk73 ?_|(intro b;conv=>whnf)|refine IxM.mk fun y hy=>?_|(with_reducible refine Br.d (fun hc=>?_) (fun hc=>?_))|(with_reducible refine Br.b (fun hc=>?_) (fun hc=>?_))
   ·have hy:x.kinds[q]?=some y:=hy
    have hyf:=hnf y (List.mem_of_getElem? hy)
    have hyl:y.fields.length≤1000000:=by omega
    have ho1:=aw4 q (-1) (-1) (ao3 x q y)
    have hSK:=ag4 q (al3 x)
    rw [show al3 x q=one q (-1) (-1) (ao3 x q y) ++ upTo y.fields.length (ag8 x q y) by simp only [al3,hy]] at hSK
    refine CE.own (aj5 _ (L ++ upTo q (al3 x)) _ _ _ _ _ _ (by assumption) (by (try simp only [List.length_append]);omega)) (bd9 _ _) (fun s'=>_ :: s') (aO2 _) ?_;rintro _ _ ⟨v',s',rfl,rfl,hr'⟩
    repeat' first|refine sk73 ?_|(intro b;conv=>whnf)|refine IxM.mk fun y hy=>?_
    refine ai2 mixed aa0 (γ:=Nat × Value × aa1) (fun g=>[(64,iD g.1)]) (fun g=>(b,.cells 85 (kndC y)) :: (b4,.cells 189 [.v g.2.1]) :: g.2.2) (fun g=>g.1≤y.fields.length∧RowIs 191 4 ((L ++ upTo q (al3 x) ++ one q (-1) (-1) (ao3 x q y) ++ upTo g.1 (ag8 x q y)).map prbC) g.2.1 g.2.2) (fun g=>y.fields.length - g.1) (0,v',s') (aa2 cl7) cl16 ⟨Nat.zero_le _,by simpa [upTo] using hr'⟩ ?_
    generalize b=b10
    rintro ⟨j,v,s⟩ ⟨hj,hrow2⟩
    simp only at hj hrow2 ⊢
    have hlen3:=ad9 (aP0 x q y) j
    have hSF:=ag4 j (ag8 x q y)
    by_cases hjl:j<y.fields.length
    ·obtain ⟨f,hf0⟩:∃ f,y.fields[j]?=some f:=⟨_,List.getElem?_eq_getElem hjl⟩
     have hfa:fieldAt x q j=some f:=by rw [ah2 (by omega) (by omega) hy];exact hf0
     rw [show ag8 x q y j=one q j (-1) (aL3 x q y j f) by simp only [ag8,hf0]] at hSF
     have hk8:=cj0 hV (List.mem_of_getElem? hy) (List.mem_of_getElem? hf0)
     have hg8:∀ k∈x.kinds,∀ g∈k.fields,0≤g.kind∧g.kind≤8:=fun k hk g hg=>cj0 hV hk hg
     have hyf0:y.fields[((j:Nat):Int).toNat]?=some f:=hf0
     have hk9:f.kind=0∨f.kind=1∨f.kind=2∨f.kind=3∨f.kind=4∨f.kind=5∨f.kind=6∨f.kind=7∨f.kind=8:=by omega
     by_cases hfx:ac2 y f.name<(j:Int)
     ·have he:am9 [(decide (ac2 y f.name<(j:Int)),7)]=7:=by rw [ao7,if_pos (decide_eq_true hfx)]
      have hFE:aL3 x q y j f=7:=by unfold aL3;rw [if_pos hfx]
      rw [hFE] at hSF
      rcases hk9 with hk9|hk9|hk9|hk9|hk9|hk9|hk9|hk9|hk9
      ·have hcb:chkB 0=true:=by rfl
       repeat' first|refine sk73 ?_|(intro b;conv=>whnf)|refine IxM.mk fun y hy=>?_
       refine Ld.yd (ae0 rfl rfl) ?_
       repeat' first|refine sk73 ?_|(intro b;conv=>whnf)|refine IxM.mk fun y hy=>?_
       refine OtE.yd rfl (af5 (n:=0) rfl rfl rfl hk9 (by omega)) ?_
       repeat' first|refine sk73 ?_|(intro b;conv=>whnf)|refine IxM.mk fun y hy=>?_
       refine CE.own (aj5 _ (L ++ upTo q (al3 x) ++ one q (-1) (-1) (ao3 x q y) ++ upTo j (ag8 x q y)) _ _ _ _ _ _ (by assumption) (by (try simp only [List.length_append]);omega)) (au5 _ _ _ _) (fun s'=>_ :: _ :: _ :: s') (am7 _ _ _) ?_
       rintro _ _ ⟨v',s',rfl,rfl,hr'⟩
       repeat' first|refine sk73 ?_|(intro b;conv=>whnf)|refine IxM.mk fun y hy=>?_
       exact ⟨(j+1,v',s'),(aa2 cl7),cl16,⟨by simp only;omega,by simp only;rw [hSF,← List.append_assoc];first|exact hr' | (rw [he] at hr';exact hr')|(rw [hFL];exact hr')⟩,by simp only;omega⟩
      ·have hcb:chkB 1=true:=by rfl
       repeat' first|refine sk73 ?_|(intro b;conv=>whnf)|refine IxM.mk fun y hy=>?_
       refine Ld.yd (ae0 rfl rfl) ?_
       repeat' first|refine sk73 ?_|(intro b;conv=>whnf)|refine IxM.mk fun y hy=>?_
       refine OtE.yd rfl (af5 (n:=1) rfl rfl rfl hk9 (by omega)) ?_
       repeat' first|refine sk73 ?_|(intro b;conv=>whnf)|refine IxM.mk fun y hy=>?_
       refine CE.own (aj5 _ (L ++ upTo q (al3 x) ++ one q (-1) (-1) (ao3 x q y) ++ upTo j (ag8 x q y)) _ _ _ _ _ _ (by assumption) (by (try simp only [List.length_append]);omega)) (au5 _ _ _ _) (fun s'=>_ :: _ :: _ :: s') (am7 _ _ _) ?_
       rintro _ _ ⟨v',s',rfl,rfl,hr'⟩
       repeat' first|refine sk73 ?_|(intro b;conv=>whnf)|refine IxM.mk fun y hy=>?_
       exact ⟨(j+1,v',s'),(aa2 cl7),cl16,⟨by simp only;omega,by simp only;rw [hSF,← List.append_assoc];first|exact hr' | (rw [he] at hr';exact hr')|(rw [hFL];exact hr')⟩,by simp only;omega⟩
      ·have hcb:chkB 2=false:=by rfl
       repeat' first|refine sk73 ?_|(intro b;conv=>whnf)|refine IxM.mk fun y hy=>?_
       refine Ld.yd (ae0 rfl rfl) ?_
       repeat' first|refine sk73 ?_|(intro b;conv=>whnf)|refine IxM.mk fun y hy=>?_
       refine OtE.yd rfl (af5 (n:=2) rfl rfl rfl hk9 (by omega)) ?_
       repeat' first|refine sk73 ?_|(intro b;conv=>whnf)|refine IxM.mk fun y hy=>?_
       refine CE.own (aj5 _ (L ++ upTo q (al3 x) ++ one q (-1) (-1) (ao3 x q y) ++ upTo j (ag8 x q y)) _ _ _ _ _ _ (by assumption) (by (try simp only [List.length_append]);omega)) (au5 _ _ _ _) (fun s'=>_ :: _ :: _ :: s') (am7 _ _ _) ?_
       rintro _ _ ⟨v',s',rfl,rfl,hr'⟩
       repeat' first|refine sk73 ?_|(intro b;conv=>whnf)|refine IxM.mk fun y hy=>?_
       exact ⟨(j+1,v',s'),(aa2 cl7),cl16,⟨by simp only;omega,by simp only;rw [hSF,← List.append_assoc];first|exact hr' | (rw [he] at hr';exact hr')|(rw [hFL];exact hr')⟩,by simp only;omega⟩
      ·have hcb:chkB 3=false:=by rfl
       repeat' first|refine sk73 ?_|(intro b;conv=>whnf)|refine IxM.mk fun y hy=>?_
       refine Ld.yd (ae0 rfl rfl) ?_
       repeat' first|refine sk73 ?_|(intro b;conv=>whnf)|refine IxM.mk fun y hy=>?_
       refine OtE.yd rfl (af5 (n:=3) rfl rfl rfl hk9 (by omega)) ?_
       repeat' first|refine sk73 ?_|(intro b;conv=>whnf)|refine IxM.mk fun y hy=>?_
       refine CE.own (aj5 _ (L ++ upTo q (al3 x) ++ one q (-1) (-1) (ao3 x q y) ++ upTo j (ag8 x q y)) _ _ _ _ _ _ (by assumption) (by (try simp only [List.length_append]);omega)) (au5 _ _ _ _) (fun s'=>_ :: _ :: _ :: s') (am7 _ _ _) ?_
       rintro _ _ ⟨v',s',rfl,rfl,hr'⟩
       repeat' first|refine sk73 ?_|(intro b;conv=>whnf)|refine IxM.mk fun y hy=>?_
       exact ⟨(j+1,v',s'),(aa2 cl7),cl16,⟨by simp only;omega,by simp only;rw [hSF,← List.append_assoc];first|exact hr' | (rw [he] at hr';exact hr')|(rw [hFL];exact hr')⟩,by simp only;omega⟩
      ·have hcb:chkB 4=true:=by rfl
       repeat' first|refine sk73 ?_|(intro b;conv=>whnf)|refine IxM.mk fun y hy=>?_
       refine Ld.yd (ae0 rfl rfl) ?_
       repeat' first|refine sk73 ?_|(intro b;conv=>whnf)|refine IxM.mk fun y hy=>?_
       refine OtE.yd rfl (af5 (n:=4) rfl rfl rfl hk9 (by omega)) ?_
       repeat' first|refine sk73 ?_|(intro b;conv=>whnf)|refine IxM.mk fun y hy=>?_
       refine CE.own (aj5 _ (L ++ upTo q (al3 x) ++ one q (-1) (-1) (ao3 x q y) ++ upTo j (ag8 x q y)) _ _ _ _ _ _ (by assumption) (by (try simp only [List.length_append]);omega)) (au5 _ _ _ _) (fun s'=>_ :: _ :: _ :: s') (am7 _ _ _) ?_
       rintro _ _ ⟨v',s',rfl,rfl,hr'⟩
       repeat' first|refine sk73 ?_|(intro b;conv=>whnf)|refine IxM.mk fun y hy=>?_
       exact ⟨(j+1,v',s'),(aa2 cl7),cl16,⟨by simp only;omega,by simp only;rw [hSF,← List.append_assoc];first|exact hr' | (rw [he] at hr';exact hr')|(rw [hFL];exact hr')⟩,by simp only;omega⟩
      ·have hcb:chkB 5=true:=by rfl
       repeat' first|refine sk73 ?_|(intro b;conv=>whnf)|refine IxM.mk fun y hy=>?_
       refine Ld.yd (ae0 rfl rfl) ?_
       repeat' first|refine sk73 ?_|(intro b;conv=>whnf)|refine IxM.mk fun y hy=>?_
       refine OtE.yd rfl (af5 (n:=5) rfl rfl rfl hk9 (by omega)) ?_
       repeat' first|refine sk73 ?_|(intro b;conv=>whnf)|refine IxM.mk fun y hy=>?_
       refine CE.own (aj5 _ (L ++ upTo q (al3 x) ++ one q (-1) (-1) (ao3 x q y) ++ upTo j (ag8 x q y)) _ _ _ _ _ _ (by assumption) (by (try simp only [List.length_append]);omega)) (au5 _ _ _ _) (fun s'=>_ :: _ :: _ :: s') (am7 _ _ _) ?_
       rintro _ _ ⟨v',s',rfl,rfl,hr'⟩
       repeat' first|refine sk73 ?_|(intro b;conv=>whnf)|refine IxM.mk fun y hy=>?_
       exact ⟨(j+1,v',s'),(aa2 cl7),cl16,⟨by simp only;omega,by simp only;rw [hSF,← List.append_assoc];first|exact hr' | (rw [he] at hr';exact hr')|(rw [hFL];exact hr')⟩,by simp only;omega⟩
      ·have hcb:chkB 6=true:=by rfl
       repeat' first|refine sk73 ?_|(intro b;conv=>whnf)|refine IxM.mk fun y hy=>?_
       refine Ld.yd (ae0 rfl rfl) ?_
       repeat' first|refine sk73 ?_|(intro b;conv=>whnf)|refine IxM.mk fun y hy=>?_
       refine OtE.yd rfl (af5 (n:=6) rfl rfl rfl hk9 (by omega)) ?_
       repeat' first|refine sk73 ?_|(intro b;conv=>whnf)|refine IxM.mk fun y hy=>?_
       refine CE.own (aj5 _ (L ++ upTo q (al3 x) ++ one q (-1) (-1) (ao3 x q y) ++ upTo j (ag8 x q y)) _ _ _ _ _ _ (by assumption) (by (try simp only [List.length_append]);omega)) (au5 _ _ _ _) (fun s'=>_ :: _ :: _ :: s') (am7 _ _ _) ?_
       rintro _ _ ⟨v',s',rfl,rfl,hr'⟩
       repeat' first|refine sk73 ?_|(intro b;conv=>whnf)|refine IxM.mk fun y hy=>?_
       exact ⟨(j+1,v',s'),(aa2 cl7),cl16,⟨by simp only;omega,by simp only;rw [hSF,← List.append_assoc];first|exact hr' | (rw [he] at hr';exact hr')|(rw [hFL];exact hr')⟩,by simp only;omega⟩
      ·have hcb:chkB 7=true:=by rfl
       repeat' first|refine sk73 ?_|(intro b;conv=>whnf)|refine IxM.mk fun y hy=>?_
       refine Ld.yd (ae0 rfl rfl) ?_
       repeat' first|refine sk73 ?_|(intro b;conv=>whnf)|refine IxM.mk fun y hy=>?_
       refine OtE.yd rfl (af5 (n:=7) rfl rfl rfl hk9 (by omega)) ?_
       repeat' first|refine sk73 ?_|(intro b;conv=>whnf)|refine IxM.mk fun y hy=>?_
       refine CE.own (aj5 _ (L ++ upTo q (al3 x) ++ one q (-1) (-1) (ao3 x q y) ++ upTo j (ag8 x q y)) _ _ _ _ _ _ (by assumption) (by (try simp only [List.length_append]);omega)) (au5 _ _ _ _) (fun s'=>_ :: _ :: _ :: s') (am7 _ _ _) ?_
       rintro _ _ ⟨v',s',rfl,rfl,hr'⟩
       repeat' first|refine sk73 ?_|(intro b;conv=>whnf)|refine IxM.mk fun y hy=>?_
       exact ⟨(j+1,v',s'),(aa2 cl7),cl16,⟨by simp only;omega,by simp only;rw [hSF,← List.append_assoc];first|exact hr' | (rw [he] at hr';exact hr')|(rw [hFL];exact hr')⟩,by simp only;omega⟩
      ·have hcb:chkB 8=true:=by rfl
       repeat' first|refine sk73 ?_|(intro b;conv=>whnf)|refine IxM.mk fun y hy=>?_
       refine Ld.yd (ae0 rfl rfl) ?_
       repeat' first|refine sk73 ?_|(intro b;conv=>whnf)|refine IxM.mk fun y hy=>?_
       refine OtE.yd rfl (af5 (n:=8) rfl rfl rfl hk9 (by omega)) ?_
       repeat' first|refine sk73 ?_|(intro b;conv=>whnf)|refine IxM.mk fun y hy=>?_
       refine CE.own (aj5 _ (L ++ upTo q (al3 x) ++ one q (-1) (-1) (ao3 x q y) ++ upTo j (ag8 x q y)) _ _ _ _ _ _ (by assumption) (by (try simp only [List.length_append]);omega)) (au5 _ _ _ _) (fun s'=>_ :: _ :: _ :: s') (am7 _ _ _) ?_
       rintro _ _ ⟨v',s',rfl,rfl,hr'⟩
       repeat' first|refine sk73 ?_|(intro b;conv=>whnf)|refine IxM.mk fun y hy=>?_
       exact ⟨(j+1,v',s'),(aa2 cl7),cl16,⟨by simp only;omega,by simp only;rw [hSF,← List.append_assoc];first|exact hr' | (rw [he] at hr';exact hr')|(rw [hFL];exact hr')⟩,by simp only;omega⟩
     ·have he:am9 [(decide (ac2 y f.name<(j:Int)),7)]=0:=by rw [ao7,if_neg (by simp;omega)]
      have hFL:aL3 x q y j f=af1 x q j f:=by unfold aL3;rw [if_neg hfx]
      rcases hk9 with hk9|hk9|hk9|hk9|hk9|hk9|hk9|hk9|hk9
      ·have HC:=bs3 x q j f hk9
       have hcb:chkB 0=true:=by rfl
       repeat' first|refine sk73 ?_|(intro b;conv=>whnf)|refine IxM.mk fun y hy=>?_
       refine Ld.yd (ae0 rfl rfl) ?_
       repeat' first|refine sk73 ?_|(intro b;conv=>whnf)|refine IxM.mk fun y hy=>?_
       refine OtE.yd rfl (af5 (n:=0) rfl rfl rfl hk9 (by omega)) ?_
       repeat' first|refine sk73 ?_|(intro b;conv=>whnf)|refine IxM.mk fun y hy=>?_
       refine CE.own (aj5 _ (L ++ upTo q (al3 x) ++ one q (-1) (-1) (ao3 x q y) ++ upTo j (ag8 x q y)) _ _ _ _ _ _ (by assumption) (by (try simp only [List.length_append]);omega)) (au5 _ _ _ _) (fun s'=>_ :: _ :: _ :: s') (am7 _ _ _) ?_
       rintro _ _ ⟨v',s',rfl,rfl,hr'⟩
       repeat' first|refine sk73 ?_|(intro b;conv=>whnf)|refine IxM.mk fun y hy=>?_
       exact ⟨(j+1,v',s'),(aa2 cl7),cl16,⟨by simp only;omega,by simp only;rw [hSF,← List.append_assoc];first|exact hr' | (rw [he] at hr';exact hr')|(rw [hFL];exact hr')⟩,by simp only;omega⟩
      ·have HC:=bs2 x q j f hl hf hk9
       have hcb:chkB 1=true:=by rfl
       repeat' first|refine sk73 ?_|(intro b;conv=>whnf)|refine IxM.mk fun y hy=>?_
       refine Ld.yd (ae0 rfl rfl) ?_
       repeat' first|refine sk73 ?_|(intro b;conv=>whnf)|refine IxM.mk fun y hy=>?_
       refine OtE.yd rfl (af5 (n:=1) rfl rfl rfl hk9 (by omega)) ?_
       repeat' first|refine sk73 ?_|(intro b;conv=>whnf)|refine IxM.mk fun y hy=>?_
       refine CE.own (aj5 _ (L ++ upTo q (al3 x) ++ one q (-1) (-1) (ao3 x q y) ++ upTo j (ag8 x q y)) _ _ _ _ _ _ (by assumption) (by (try simp only [List.length_append]);omega)) (au5 _ _ _ _) (fun s'=>_ :: _ :: _ :: s') (am7 _ _ _) ?_
       rintro _ _ ⟨v',s',rfl,rfl,hr'⟩
       repeat' first|refine sk73 ?_|(intro b;conv=>whnf)|refine IxM.mk fun y hy=>?_
       exact ⟨(j+1,v',s'),(aa2 cl7),cl16,⟨by simp only;omega,by simp only;rw [hSF,← List.append_assoc];first|exact hr' | (rw [he] at hr';exact hr')|(rw [hFL];exact hr')⟩,by simp only;omega⟩
      ·have HC:af1 x q j f=0:=by unfold af1;simp [hk9]
       rw [hFL,HC] at hSF
       clear hFL HC
       have hcb:chkB 2=false:=by rfl
       repeat' first|refine sk73 ?_|(intro b;conv=>whnf)|refine IxM.mk fun y hy=>?_
       refine Ld.yd (ae0 rfl rfl) ?_
       repeat' first|refine sk73 ?_|(intro b;conv=>whnf)|refine IxM.mk fun y hy=>?_
       refine OtE.yd rfl (af5 (n:=2) rfl rfl rfl hk9 (by omega)) ?_
       repeat' first|refine sk73 ?_|(intro b;conv=>whnf)|refine IxM.mk fun y hy=>?_
       refine CE.own (aj5 _ (L ++ upTo q (al3 x) ++ one q (-1) (-1) (ao3 x q y) ++ upTo j (ag8 x q y)) _ _ _ _ _ _ (by assumption) (by (try simp only [List.length_append]);omega)) (au5 _ _ _ _) (fun s'=>_ :: _ :: _ :: s') (am7 _ _ _) ?_
       rintro _ _ ⟨v',s',rfl,rfl,hr'⟩
       repeat' first|refine sk73 ?_|(intro b;conv=>whnf)|refine IxM.mk fun y hy=>?_
       exact ⟨(j+1,v',s'),(aa2 cl7),cl16,⟨by simp only;omega,by simp only;rw [hSF,← List.append_assoc];first|exact hr' | (rw [he] at hr';exact hr')|(rw [hFL];exact hr')⟩,by simp only;omega⟩
      ·have HC:af1 x q j f=0:=by unfold af1;simp [hk9]
       rw [hFL,HC] at hSF
       clear hFL HC
       have hcb:chkB 3=false:=by rfl
       repeat' first|refine sk73 ?_|(intro b;conv=>whnf)|refine IxM.mk fun y hy=>?_
       refine Ld.yd (ae0 rfl rfl) ?_
       repeat' first|refine sk73 ?_|(intro b;conv=>whnf)|refine IxM.mk fun y hy=>?_
       refine OtE.yd rfl (af5 (n:=3) rfl rfl rfl hk9 (by omega)) ?_
       repeat' first|refine sk73 ?_|(intro b;conv=>whnf)|refine IxM.mk fun y hy=>?_
       refine CE.own (aj5 _ (L ++ upTo q (al3 x) ++ one q (-1) (-1) (ao3 x q y) ++ upTo j (ag8 x q y)) _ _ _ _ _ _ (by assumption) (by (try simp only [List.length_append]);omega)) (au5 _ _ _ _) (fun s'=>_ :: _ :: _ :: s') (am7 _ _ _) ?_
       rintro _ _ ⟨v',s',rfl,rfl,hr'⟩
       repeat' first|refine sk73 ?_|(intro b;conv=>whnf)|refine IxM.mk fun y hy=>?_
       exact ⟨(j+1,v',s'),(aa2 cl7),cl16,⟨by simp only;omega,by simp only;rw [hSF,← List.append_assoc];first|exact hr' | (rw [he] at hr';exact hr')|(rw [hFL];exact hr')⟩,by simp only;omega⟩
      ·have HC:=bs1 x q j f hl hf hfa hk9
       have hcb:chkB 4=true:=by rfl
       repeat' first|refine sk73 ?_|(intro b;conv=>whnf)|refine IxM.mk fun y hy=>?_
       refine Ld.yd (ae0 rfl rfl) ?_
       repeat' first|refine sk73 ?_|(intro b;conv=>whnf)|refine IxM.mk fun y hy=>?_
       refine OtE.yd rfl (af5 (n:=4) rfl rfl rfl hk9 (by omega)) ?_
       repeat' first|refine sk73 ?_|(intro b;conv=>whnf)|refine IxM.mk fun y hy=>?_
       refine CE.own (aj5 _ (L ++ upTo q (al3 x) ++ one q (-1) (-1) (ao3 x q y) ++ upTo j (ag8 x q y)) _ _ _ _ _ _ (by assumption) (by (try simp only [List.length_append]);omega)) (au5 _ _ _ _) (fun s'=>_ :: _ :: _ :: s') (am7 _ _ _) ?_
       rintro _ _ ⟨v',s',rfl,rfl,hr'⟩
       repeat' first|refine sk73 ?_|(intro b;conv=>whnf)|refine IxM.mk fun y hy=>?_
       exact ⟨(j+1,v',s'),(aa2 cl7),cl16,⟨by simp only;omega,by simp only;rw [hSF,← List.append_assoc];first|exact hr' | (rw [he] at hr';exact hr')|(rw [hFL];exact hr')⟩,by simp only;omega⟩
      ·have HC:=br9 x q j f hll hk9
       have hcb:chkB 5=true:=by rfl
       repeat' first|refine sk73 ?_|(intro b;conv=>whnf)|refine IxM.mk fun y hy=>?_
       refine Ld.yd (ae0 rfl rfl) ?_
       repeat' first|refine sk73 ?_|(intro b;conv=>whnf)|refine IxM.mk fun y hy=>?_
       refine OtE.yd rfl (af5 (n:=5) rfl rfl rfl hk9 (by omega)) ?_
       repeat' first|refine sk73 ?_|(intro b;conv=>whnf)|refine IxM.mk fun y hy=>?_
       refine CE.own (aj5 _ (L ++ upTo q (al3 x) ++ one q (-1) (-1) (ao3 x q y) ++ upTo j (ag8 x q y)) _ _ _ _ _ _ (by assumption) (by (try simp only [List.length_append]);omega)) (au5 _ _ _ _) (fun s'=>_ :: _ :: _ :: s') (am7 _ _ _) ?_
       rintro _ _ ⟨v',s',rfl,rfl,hr'⟩
       repeat' first|refine sk73 ?_|(intro b;conv=>whnf)|refine IxM.mk fun y hy=>?_
       exact ⟨(j+1,v',s'),(aa2 cl7),cl16,⟨by simp only;omega,by simp only;rw [hSF,← List.append_assoc];first|exact hr' | (rw [he] at hr';exact hr')|(rw [hFL];exact hr')⟩,by simp only;omega⟩
      ·have HC:=br8 x q j f (by omega) hl hf hk9
       have hcb:chkB 6=true:=by rfl
       repeat' first|refine sk73 ?_|(intro b;conv=>whnf)|refine IxM.mk fun y hy=>?_
       refine Ld.yd (ae0 rfl rfl) ?_
       repeat' first|refine sk73 ?_|(intro b;conv=>whnf)|refine IxM.mk fun y hy=>?_
       refine OtE.yd rfl (af5 (n:=6) rfl rfl rfl hk9 (by omega)) ?_
       repeat' first|refine sk73 ?_|(intro b;conv=>whnf)|refine IxM.mk fun y hy=>?_
       refine CE.own (aj5 _ (L ++ upTo q (al3 x) ++ one q (-1) (-1) (ao3 x q y) ++ upTo j (ag8 x q y)) _ _ _ _ _ _ (by assumption) (by (try simp only [List.length_append]);omega)) (au5 _ _ _ _) (fun s'=>_ :: _ :: _ :: s') (am7 _ _ _) ?_
       rintro _ _ ⟨v',s',rfl,rfl,hr'⟩
       repeat' first|refine sk73 ?_|(intro b;conv=>whnf)|refine IxM.mk fun y hy=>?_
       exact ⟨(j+1,v',s'),(aa2 cl7),cl16,⟨by simp only;omega,by simp only;rw [hSF,← List.append_assoc];first|exact hr' | (rw [he] at hr';exact hr')|(rw [hFL];exact hr')⟩,by simp only;omega⟩
      ·have HC:=br7 x q j f hl hf hk9
       have hcb:chkB 7=true:=by rfl
       repeat' first|refine sk73 ?_|(intro b;conv=>whnf)|refine IxM.mk fun y hy=>?_
       refine Ld.yd (ae0 rfl rfl) ?_
       repeat' first|refine sk73 ?_|(intro b;conv=>whnf)|refine IxM.mk fun y hy=>?_
       refine OtE.yd rfl (af5 (n:=7) rfl rfl rfl hk9 (by omega)) ?_
       repeat' first|refine sk73 ?_|(intro b;conv=>whnf)|refine IxM.mk fun y hy=>?_
       refine CE.own (aj5 _ (L ++ upTo q (al3 x) ++ one q (-1) (-1) (ao3 x q y) ++ upTo j (ag8 x q y)) _ _ _ _ _ _ (by assumption) (by (try simp only [List.length_append]);omega)) (au5 _ _ _ _) (fun s'=>_ :: _ :: _ :: s') (am7 _ _ _) ?_
       rintro _ _ ⟨v',s',rfl,rfl,hr'⟩
       repeat' first|refine sk73 ?_|(intro b;conv=>whnf)|refine IxM.mk fun y hy=>?_
       exact ⟨(j+1,v',s'),(aa2 cl7),cl16,⟨by simp only;omega,by simp only;rw [hSF,← List.append_assoc];first|exact hr' | (rw [he] at hr';exact hr')|(rw [hFL];exact hr')⟩,by simp only;omega⟩
      ·have HC:=br6 x q j f hl hf hg8 hk9
       have hcb:chkB 8=true:=by rfl
       repeat' first|refine sk73 ?_|(intro b;conv=>whnf)|refine IxM.mk fun y hy=>?_
       refine Ld.yd (ae0 rfl rfl) ?_
       repeat' first|refine sk73 ?_|(intro b;conv=>whnf)|refine IxM.mk fun y hy=>?_
       refine OtE.yd rfl (af5 (n:=8) rfl rfl rfl hk9 (by omega)) ?_
       repeat' first|refine sk73 ?_|(intro b;conv=>whnf)|refine IxM.mk fun y hy=>?_
       refine CE.own (aj5 _ (L ++ upTo q (al3 x) ++ one q (-1) (-1) (ao3 x q y) ++ upTo j (ag8 x q y)) _ _ _ _ _ _ (by assumption) (by (try simp only [List.length_append]);omega)) (au5 _ _ _ _) (fun s'=>_ :: _ :: _ :: s') (am7 _ _ _) ?_
       rintro _ _ ⟨v',s',rfl,rfl,hr'⟩
       repeat' first|refine sk73 ?_|(intro b;conv=>whnf)|refine IxM.mk fun y hy=>?_
       exact ⟨(j+1,v',s'),(aa2 cl7),cl16,⟨by simp only;omega,by simp only;rw [hSF,← List.append_assoc];first|exact hr' | (rw [he] at hr';exact hr')|(rw [hFL];exact hr')⟩,by simp only;omega⟩
    ·obtain rfl:j=y.fields.length:=by omega
     repeat' first|refine sk73 ?_|(intro b;conv=>whnf)|refine IxM.mk fun y hy=>?_|(with_reducible refine Br.d (fun hc=>?_) (fun hc=>?_))|(with_reducible refine Br.b (fun hc=>?_) (fun hc=>?_))
     exact ⟨(q+1,v,s),(aa2 cl7),cl16,⟨by simp only;omega,by simp only;rw [hSK];simp only [List.append_assoc] at hrow2 ⊢;exact hrow2⟩,by simp only;omega⟩
   ·obtain rfl:q=x.kinds.length:=by omega
    generalize hM:upTo x.kinds.length (al3 x)=M at *
    refine ai2 mixed aa0 (γ:=Nat × Value × aa1) (fun g=>[(108,iD g.1)]) (fun g=>(b4,.cells 189 [.v g.2.1]) :: g.2.2) (fun g=>g.1≤x.rules.length∧RowIs 191 4 ((L ++ M ++ upTo g.1 (aR0 x)).map prbC) g.2.1 g.2.2) (fun g=>x.rules.length - g.1) (0,v,s) (aa2 cl7) cl16 ⟨Nat.zero_le _,by simpa [upTo] using hrow⟩ ?_
    rintro ⟨q,v,s⟩ ⟨hq,hrow2⟩
    simp only at hq hrow2 ⊢
    have hlen3:=ad9 (bt8 x) q
    have hS:=ag4 q (aR0 x)
    by_cases hql:q<x.rules.length
    ·obtain ⟨r,hr0⟩:∃ r,x.rules[q]?=some r:=⟨_,List.getElem?_eq_getElem hql⟩
     rw [show aR0 x q=one (-1) (-1) q (ay1 x q r) by simp only [aR0,hr0]] at hS
     repeat' first|refine sk73 ?_|(intro b;conv=>whnf)|refine IxM.mk fun y hy=>?_
     refine CE.own (aj5 _ (L ++ M ++ upTo q (aR0 x)) _ _ _ _ _ _ (by assumption) (by (try simp only [List.length_append]);omega)) (ai4 _) (fun s'=>s') ao0 ?_;rintro _ _ ⟨v',s',rfl,rfl,hr'⟩
     repeat' first|refine sk73 ?_|(intro b;conv=>whnf)|refine IxM.mk fun y hy=>?_
     exact ⟨(q+1,v',s'),(aa2 cl7),cl16,⟨by simp only;omega,by simp only;rw [hS,← List.append_assoc];exact hr'⟩,by simp only;omega⟩
    ·obtain rfl:q=x.rules.length:=by omega
     rw [hP]
     repeat' first|refine sk73 ?_|(intro b;conv=>whnf)|refine IxM.mk fun y hy=>?_|(with_reducible refine Br.d (fun hc=>?_) (fun hc=>?_))|(with_reducible refine Br.b (fun hc=>?_) (fun hc=>?_))
     exact Rt.by (Vs.trans (Vs.drop (List.sublist_cons_self _ _)) (Vs.row hrow2 (ai4 _))) rfl
 ·have hP:aA9 x=[(-1,-1,-1,ak7 x)]:=by unfold aA9;rw [if_neg hv]
  rw [hP]
  repeat' first|refine sk73 ?_|(intro b;conv=>whnf)|refine IxM.mk fun y hy=>?_|(with_reducible refine Br.d (fun hc=>?_) (fun hc=>?_))|(with_reducible refine Br.b (fun hc=>?_) (fun hc=>?_))
  exact Rt.same rfl
end
section
open Go Go.RowKit Go.Shelf
theorem bD9 {cs x:List D} {off m:Nat} {d:D} (h:∀ j,j<x.length→cs[off+j]?=x[j]?) (hm:m<x.length):spl cs off (x.set m d)=cs.set (off+m) d:=by
 have hl:off+x.length≤cs.length:=by
  have:=h (x.length - 1) (by omega)
  rw [List.getElem?_eq_getElem (by omega:x.length - 1<x.length)] at this
  have:=(List.getElem?_eq_some_iff.1 this).1
  omega
 unfold spl
 apply List.ext_getElem?
 intro i
 rw [List.getElem?_set,List.length_set]
 rcases Nat.lt_or_ge i off with h1|h1
 ·rw [List.append_assoc,List.getElem?_append_left (by rw [List.length_take];omega),List.getElem?_take,if_pos h1,if_neg (by omega)]
 ·rcases Nat.lt_or_ge i (off+x.length) with h2|h2
  ·rw [List.append_assoc,List.getElem?_append_right (by rw [List.length_take];omega),List.length_take,Nat.min_eq_left (by omega),List.getElem?_append_left (by rw [List.length_set];omega),List.getElem?_set]
   by_cases e:off+m=i
   ·rw [if_pos e,if_pos (by omega),if_pos (by omega),if_pos (by omega)]
   ·rw [if_neg e,if_neg (by omega),← h (i - off) (by omega),show off+(i - off)=i by omega]
  ·rw [List.getElem?_append_right (by rw [List.length_append,List.length_take,List.length_set];omega),List.length_append,List.length_take,List.length_set,Nat.min_eq_left (by omega),List.getElem?_drop,if_neg (by omega),show off+x.length+(i - (off+x.length))=i by omega]
theorem RowIs.put1 {e:TypeId} {k:Nat} {xs:List (List D)} {b n cap:Nat} {cs:List D} (h:RowIs e k xs (.slice (some ⟨b,0,none⟩) n cap) [(b,.cells e cs)]) {i m:Nat} {x:List D} {d:D} (hx:xs[i]?=some x) (hm:m<k):RowIs e k (xs.set i (x.set m d)) (.slice (some ⟨b,0,none⟩) n cap) [(b,.cells e (cs.set (i*k+m) d))]:=by
 have hil:=(List.getElem?_eq_some_iff.1 hx).1
 have hxk:=h.len x (List.mem_of_getElem? hx)
 obtain ⟨b',cap',cs',e1,e2,h3⟩:=h.get hx
 cases e1
 have e3:cs'=cs:=by
  have:=List.cons.inj e2
  simpa using this.1.symm
 subst e3
 have:=h.put hil (x':=x.set m d) (by rw [List.length_set];exact hxk)
 rw [bD9 (by rw [hxk];exact h3) (by omega)] at this
 exact this
end
section
open Go Go.Maps Go.MapKept
theorem as9 (b:Bool) (e:Int):APure Tryz.prog 67 [bD b,iD e] (iD (if b=true then e else 0)):=by
 refine eP7 Tryz.func67 Tryz.ntmps67 fun BB=>?_
 cases b
 ·repeat' first|refine sk2 ?_|(intro b;conv=>whnf)
  refine Rt.pure (congrArg iD ?_);rfl
 ·repeat' first|refine sk2 ?_|(intro b;conv=>whnf)
  refine Rt.pure (congrArg iD ?_);rfl
def ckC (x:Sch) (w:Wd) (L:List Rf) (rm lm:Nat) (v:Value):List D:=[iD x.version,slK x.kinds,slL x.lives,slR x.rules,slW w,slLn L,.v (.map (some rm)),.v (.map (some lm)),.v v]
theorem aL6 (x:Sch) (w:Wd) (L:List Rf) (rm lm c:Nat) (l:List Prb) (v:Value) (s:aa1) (k i f e:Int) (hr:RowIs 135 4 (l.map prbC) v s) (hl:l.length≤100000000) :
  ACall Tryz.prog 66 [.v (.pointer (some ⟨c,0,none⟩)),iD k,iD i,iD f,.sl 1 [[iD e]]] ((c,.cells 145 (ckC x w L rm lm v)) :: s)
   (fun d σ'=>∃ v' s',d = .v (.tuple #[])∧σ'=(c,.cells 145 (ckC x w L rm lm v')) :: s'∧RowIs 135 4 ((l ++ one k i f e).map prbC) v' s'):=by
 obtain ⟨a,cp,rfl⟩:=hr.slice
 refine eC7 Tryz.func66 Tryz.ntmps66 fun BB=>?_
 repeat' first|refine sk2 ?_|(intro b;conv=>whnf)
 refine aa5 mixed aa0 (γ:=Nat × Value × aa1) (fun g=>[(14,iD g.1)]) (fun g=>(c,.cells 145 (ckC x w L rm lm g.2.1)) :: g.2.2) (fun g=>g.1≤1∧RowIs 135 4 ((l ++ (if g.1=0 then [] else one k i f e)).map prbC) g.2.1 g.2.2) (fun g=>1 - g.1) (0,.slice a (l.map prbC).length cp,s) (aa2 cl7) (Sc.refl _) ⟨by simp,by simpa using hr⟩ ?_
 rintro ⟨q,v,s⟩ ⟨hq,hrow⟩
 simp only at hq hrow ⊢
 by_cases h0:q=0
 ·subst h0
  simp only [if_true,List.append_nil] at hrow
  repeat' first|refine sk2 ?_|(intro b;conv=>whnf)|(with_reducible refine Br.d (fun hc=>?_) (fun hc=>?_))|(with_reducible refine Br.b (fun hc=>?_) (fun hc=>?_))
  ·exact ⟨(1,v,s),(aa2 cl7),Sc.refl _,⟨by simp,by
    simp only [show (1:Nat)≠0 by decide,if_false]
    unfold one;rw [if_pos (by omega)];simpa using hrow⟩,by simp only;omega⟩
  ·refine Ap.go rfl rfl rfl rfl hrow (bd9 _ _) rfl (zs:=(l ++ one k i f e).map prbC) (by unfold one;rw [if_neg (by omega)];simp [prbC]) (by simp [one];split <;> simp <;> omega) (by simp [one];split <;> simp <;> omega) (fun s'=>_ :: s') (aO2 _) (fun a' c' s' hr'=>?_)
   repeat' first|refine sk2 ?_|(intro b;conv=>whnf)
   exact ⟨(1,_,s'),(aa2 cl7),Sc.refl _,⟨by simp,by simpa using hr'⟩,by simp only;omega⟩
 ·obtain rfl:q=1:=by omega
  repeat' first|refine sk2 ?_|(intro b;conv=>whnf)
  exact Rt.same ⟨v,s,rfl,rfl,by simpa using hrow⟩
noncomputable def KF (ks:List Int):Value→Option Value
 | .int .i64 n=>if n∈ks then some (.bool true) else none
 | _=>none
theorem cm3:KF []=fun _=>none:=by
 funext v
 unfold KF
 split <;> simp
theorem cb1 (ks:List Int) (n:Int):updF (KF ks) (.int .i64 n) (.bool true)=KF (n :: ks):=by
 funext v
 unfold updF
 split
 ·rename_i h;subst h;simp [KF]
 ·rename_i h
  unfold KF
  split
  ·rename_i m
   have:m≠n:=fun e=>h (by rw [e])
   simp [this]
  ·rfl
theorem cm4 (ks:List Int) (n:Int):((KF ks) (.int .i64 n)).getD (.bool false) = .bool (decide (n∈ks)):=by
 unfold KF
 by_cases h:n∈ks <;> simp [h]
theorem bp4 (w:World):(zeroValue 4).run Tryz.prog w = .ok (.bool false) w:=by kernel_rfl
theorem sk74 {A B:Prop} (k:B) (h:Hd7 B→A:=by intro hk7q;(first|refine sb0 ?_|refine sb1 ?_|((with_reducible refine' Cp.by ?hc ?_);(case hc=>exact as9 _ _))|((with_reducible refine' CE.pure ?hc ?_);(case hc=>exact as9 _ _)));exact hk7q.run):A:=h ⟨k⟩
theorem ck5 (n:Int) (d:Fld):APure Tryz.prog 120 [iD n,.ro (fldC d)] (iD (outE n d.lo d.hi)):=by
 refine eP7 Tryz.func120 Tryz.ntmps120 fun BB=>?_
 unfold outE
 by_cases h1:n<d.lo
 ·rw [if_pos (.inl h1)]
  repeat' first|refine sk74 ?_|(intro b;conv=>whnf)
  refine Rt.pure (congrArg iD ?_);rfl
 ·by_cases h2:d.hi<n
  ·rw [if_pos (.inr h2)]
   repeat' first|refine sk74 ?_|(intro b;conv=>whnf)
   refine Rt.pure (congrArg iD ?_);simp [h2]
  ·rw [if_neg (by omega)]
   repeat' first|refine sk74 ?_|(intro b;conv=>whnf)
   refine Rt.pure (congrArg iD ?_);simp [h2]
theorem sb75 {A B:Prop} (k:B) (h:Hd7 B→A:=by intro hk7q;(first|(with_reducible refine Bc.l ?_)|(with_reducible refine Bx.l ?_)|fail|((with_reducible refine Dm.l ?h ?_);(case h=>decide +kernel))|((with_reducible refine Cb.go ?h ?_);(case h=>decide +kernel)));exact hk7q.run):A:=h ⟨k⟩
theorem sk76 {A B:Prop} (k:B) (h:Hd7 B→A:=by intro hk7q;(first|refine sb0 ?_|refine sb75 ?_|((with_reducible refine' Cp.by ?hc ?_);(case hc=>first|exact as9 _ _|exact HC))|((with_reducible refine' CE.pure ?hc ?_);(case hc=>first|exact as9 _ _|exact HC)));exact hk7q.run):A:=h ⟨k⟩
theorem sk77 {A B:Prop} (k:B) (h:Hd7 B→A:=by intro hk7q;(first|refine sb0 ?_|refine sb1 ?_|((with_reducible refine' Cp.by ?hc ?_);(case hc=>first|exact as9 _ _|exact HC))|((with_reducible refine' CE.pure ?hc ?_);(case hc=>first|exact as9 _ _|exact HC)));exact hk7q.run):A:=h ⟨k⟩
theorem bJ1 {x:Sch} {w:Wd} {k i f:Nat} {kd:Knd} {d:Fld} {l:List (List Int)} {r:List Int} {n:Int} (L:List Rf) (bk rm lm:Nat) (v:Value) (ks:List Int) (hk:x.kinds[k]?=some kd) (hf:kd.fields[f]?=some d) (hl:w[k]?=some l) (hr:l[i]?=some r) (hv:r[f]?=some n) (hn:InR n) (h3:d.kind=0∨d.kind=1∨d.kind=2)
  (b1:x.kinds.length≤1000000) (b2:kd.fields.length≤1000000) (b3:w.length≤1000000) (b4:l.length≤1000000) (b5:r.length≤1000000) :
  ACall Tryz.prog 68 [.ro (ckC x w L rm lm v),iD k,iD i,iD f,.v (.map (some bk))] [(bk,.obj (MapO Tryz.prog 3 (KF ks)))]
   (fun dd σ'=>dd=iD (bz7 x w k kd r i f d ks)∧σ'=[(bk,.obj (MapO Tryz.prog 3 (KF (keyF r f d ks))))]):=by
 have hk':x.kinds[((k:Nat):Int).toNat]?=some kd:=hk
 have hf':kd.fields[((f:Nat):Int).toNat]?=some d:=hf
 have hl':w[((k:Nat):Int).toNat]?=some l:=hl
 have hr':l[((i:Nat):Int).toNat]?=some r:=hr
 have hv':r[((f:Nat):Int).toNat]?=some n:=hv
 have q1:=(List.getElem?_eq_some_iff.1 hk).1
 have q2:=(List.getElem?_eq_some_iff.1 hf).1
 have q3:=(List.getElem?_eq_some_iff.1 hl).1
 have q4:=(List.getElem?_eq_some_iff.1 hr).1
 have q5:=(List.getElem?_eq_some_iff.1 hv).1
 have hn1:=hn.lo
 have hn2:=hn.hi
 refine eC7 Tryz.func68 Tryz.ntmps68 fun BB=>?_
 repeat' first|refine sk76 ?_|(intro b;conv=>whnf)
 refine Dr.r ?_
 repeat' first|refine sk76 ?_|(intro b;conv=>whnf)
 refine dr7 ?_
 refine aB6 (i:=11) (d:=.v (.pointer (some ⟨b,0,none⟩))) (d':=.ro (kndC kd)) (τ:=[(bk,.obj (MapO Tryz.prog 3 (KF ks)))]) rfl (fun h=>by cases h) (Vs.ptr (tb:=85) (List.Perm.refl _)) ?_
 refine bU6 mixed aa0 ?_
 repeat' first|refine sk77 ?_|(intro b;conv=>whnf)
 unfold bz7 keyF
 rw [ae8 hv]
 rcases h3 with h|h|h
 ·rw [if_pos h]
  by_cases hlo:n<d.lo
  ·rw [if_pos hlo,if_neg (by omega)]
   repeat' first|refine sk77 ?_|(intro b;conv=>whnf)
   exact Rt.by (Vs.drop (List.sublist_cons_self _ _)) ⟨rfl,rfl⟩
  ·rw [if_neg hlo,if_pos (And.intro h hlo)]
   repeat' first|refine sk77 ?_|(intro b;conv=>whnf)
   (refine OtE.yd rfl (aN3 (kv:=.int .i64 n) (u:=.bool (decide (n∈ks))) rfl rfl (KeyD.v _) (List.mem_cons_of_mem _ (List.mem_cons_self)) (fun _ h=>h) aO5 Tryz.underlying138 bp4 (bx7 (wf64 hn1 hn2)) (cm4 _ _)) ?_)
   repeat' first|refine sk77 ?_|(intro b;conv=>whnf)
   refine OtE.mapUpdate (b:=bk) (F:=KF ks) (k:=3) (e:=4) (kv:=.int .i64 n) (τ:=[(b,.cells 97 (fldC d))]) rfl rfl (KeyD.v _) rfl (List.Perm.swap _ _ _) aO5 Tryz.underlying138 (bx7 (wf64 hn1 hn2)) ?_
   rw [cb1]
   repeat' first|refine sk77 ?_|(intro b;conv=>whnf)
   exact Rt.by (Vs.drop (List.Sublist.cons_cons _ (List.nil_sublist _))) ⟨by simp,rfl⟩
 ·rw [if_neg (by omega),if_neg (by omega),if_neg (by omega),if_neg (by omega),if_neg (by omega),if_neg (by omega),if_neg (by omega),if_neg (by omega)]
  repeat' first|refine sk77 ?_|(intro b;conv=>whnf)
  exact Rt.by (Vs.drop (List.sublist_cons_self _ _)) ⟨rfl,rfl⟩
 ·have HC:=ck5 n d
  rw [if_neg (by omega),if_pos (by omega),if_neg (by omega)]
  repeat' first|refine sk77 ?_|(intro b;conv=>whnf)
  refine CE.pk (APk.peek (.cons (Pk.same _) (.cons (Pk.ptr (j:=0) rfl (PkL.refl _)) .nil)) HC rfl) ?_
  repeat' first|refine sk77 ?_|(intro b;conv=>whnf)
  exact Rt.by (Vs.drop (List.sublist_cons_self _ _)) ⟨rfl,rfl⟩
end
end Go.Proofs.YtlcfiilejnnlnaaGreatDoor
