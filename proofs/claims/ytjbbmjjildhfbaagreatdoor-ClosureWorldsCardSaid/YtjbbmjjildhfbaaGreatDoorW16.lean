/- A part of the proof: Ix R10e Ta Ka Kb Kc Kd Tb Tc. -/
import Derived.Test.YtjbbmjjildhfbaaGreatDoorW15
set_option maxRecDepth 100000
set_option maxHeartbeats 4000000
set_option linter.unusedVariables false
set_option linter.unusedSimpArgs false
namespace Go.Proofs.YtjbbmjjildhfbaaGreatDoor
section
open Go
theorem sk41 {A B:Prop} (k:B) (h:Hd7 B→A:=by intro hk7q;(first|refine sb0 ?_|refine sb1 ?_|((with_reducible refine' Cp.by ?hc ?_);(case hc=>exact hp _ (List.mem_of_getElem? hy)))|((with_reducible refine' CE.pure ?hc ?_);(case hc=>exact hp _ (List.mem_of_getElem? hy))));exact hk7q.run):A:=h ⟨k⟩
theorem ix_knd {f:FuncId} {cs:List D} (l:List Knd) (p:Knd→Bool) (hl:l.length≤1000000) (hp:∀ y∈l,APure Tryz.prog f [kndD y,.ro cs] (bD (p y))):APure Tryz.prog 125 [slK l,.clo f [.ro cs]] (iD (idx p l)):=by
 refine APure.of_call (aa3 mixed aa0 Tryz.func125 (by kernel_rfl) rfl Tryz.ntmps125 rfl ?_);intro BB
 repeat' (first|refine sk41 ?_|(intro b;conv=>whnf))
 refine ae3 mixed aa0 (γ:=Nat) (fun k=>[(8,iD k)]) (fun _=>[]) (fun k=>k≤l.length∧∀ i y,i<k→l[i]?=some y→p y=false) (fun k=>l.length - k) 0 rfl rfl ⟨by omega,by omega⟩ ?_
 rintro k ⟨hk,hno⟩
 by_cases hlt:k<l.length
 ·obtain ⟨y,hy⟩:∃ y,l[(k:Int).toNat]?=some y:=⟨_,List.getElem?_eq_getElem hlt⟩
  repeat' (first|refine sk41 ?_|(intro b;conv=>whnf)|(with_reducible refine Br.d (fun hc=>?_) (fun hc=>?_))|(with_reducible refine Br.b (fun hc=>?_) (fun hc=>?_)))
  ·refine Rt.pure (congrArg iD ?_)
   exact (ae6 hy ‹_› hno).symm
  ·exact ⟨k+1,rfl,rfl,⟨by omega,fun i z hi hz=>by
    by_cases e:i=k
    ·subst e;rw [show ((i:Int)).toNat=i from rfl,hz] at hy;cases hy;assumption
    ·exact hno i z (by omega) hz⟩,by omega⟩
 ·repeat' (first|refine sk41 ?_|(intro b;conv=>whnf))
  refine Rt.pure (congrArg iD ?_)
  exact (ap2 fun i y hy=>hno i y (by have:=(List.getElem?_eq_some_iff.1 hy).1;omega) hy).symm
theorem sk42 {A B:Prop} (k:B) (h:Hd7 B→A:=by intro hk7q;(first|refine sb0 ?_|refine sb1 ?_|((with_reducible refine' Cp.by ?hc ?_);(case hc=>exact ix_knd l p hl hp))|((with_reducible refine' CE.pure ?hc ?_);(case hc=>exact ix_knd l p hl hp)));exact hk7q.run):A:=h ⟨k⟩
theorem ix_fld {f:FuncId} {cs:List D} (l:List Fld) (p:Fld→Bool) (hl:l.length≤1000000) (hp:∀ y∈l,APure Tryz.prog f [fldD y,.ro cs] (bD (p y))):APure Tryz.prog 104 [slF l,.clo f [.ro cs]] (iD (idx p l)):=by
 refine APure.of_call (aa3 mixed aa0 Tryz.func104 (by kernel_rfl) rfl Tryz.ntmps104 rfl ?_);intro BB
 repeat' (first|refine sk41 ?_|(intro b;conv=>whnf))
 refine ae3 mixed aa0 (γ:=Nat) (fun k=>[(8,iD k)]) (fun _=>[]) (fun k=>k≤l.length∧∀ i y,i<k→l[i]?=some y→p y=false) (fun k=>l.length - k) 0 rfl rfl ⟨by omega,by omega⟩ ?_
 rintro k ⟨hk,hno⟩
 by_cases hlt:k<l.length
 ·obtain ⟨y,hy⟩:∃ y,l[(k:Int).toNat]?=some y:=⟨_,List.getElem?_eq_getElem hlt⟩
  repeat' (first|refine sk41 ?_|(intro b;conv=>whnf)|(with_reducible refine Br.d (fun hc=>?_) (fun hc=>?_))|(with_reducible refine Br.b (fun hc=>?_) (fun hc=>?_)))
  ·refine Rt.pure (congrArg iD ?_)
   exact (ae6 hy ‹_› hno).symm
  ·exact ⟨k+1,rfl,rfl,⟨by omega,fun i z hi hz=>by
    by_cases e:i=k
    ·subst e;rw [show ((i:Int)).toNat=i from rfl,hz] at hy;cases hy;assumption
    ·exact hno i z (by omega) hz⟩,by omega⟩
 ·repeat' (first|refine sk41 ?_|(intro b;conv=>whnf))
  refine Rt.pure (congrArg iD ?_)
  exact (ap2 fun i y hy=>hno i y (by have:=(List.getElem?_eq_some_iff.1 hy).1;omega) hy).symm
theorem ix_lif {f:FuncId} {cs:List D} (l:List Lif) (p:Lif→Bool) (hl:l.length≤1000000) (hp:∀ y∈l,APure Tryz.prog f [lifD y,.ro cs] (bD (p y))):APure Tryz.prog 115 [slL l,.clo f [.ro cs]] (iD (idx p l)):=by
 refine APure.of_call (aa3 mixed aa0 Tryz.func115 (by kernel_rfl) rfl Tryz.ntmps115 rfl ?_);intro BB
 repeat' (first|refine sk41 ?_|(intro b;conv=>whnf))
 refine ae3 mixed aa0 (γ:=Nat) (fun k=>[(8,iD k)]) (fun _=>[]) (fun k=>k≤l.length∧∀ i y,i<k→l[i]?=some y→p y=false) (fun k=>l.length - k) 0 rfl rfl ⟨by omega,by omega⟩ ?_
 rintro k ⟨hk,hno⟩
 by_cases hlt:k<l.length
 ·obtain ⟨y,hy⟩:∃ y,l[(k:Int).toNat]?=some y:=⟨_,List.getElem?_eq_getElem hlt⟩
  repeat' (first|refine sk41 ?_|(intro b;conv=>whnf)|(with_reducible refine Br.d (fun hc=>?_) (fun hc=>?_))|(with_reducible refine Br.b (fun hc=>?_) (fun hc=>?_)))
  ·refine Rt.pure (congrArg iD ?_)
   exact (ae6 hy ‹_› hno).symm
  ·exact ⟨k+1,rfl,rfl,⟨by omega,fun i z hi hz=>by
    by_cases e:i=k
    ·subst e;rw [show ((i:Int)).toNat=i from rfl,hz] at hy;cases hy;assumption
    ·exact hno i z (by omega) hz⟩,by omega⟩
 ·repeat' (first|refine sk41 ?_|(intro b;conv=>whnf))
  refine Rt.pure (congrArg iD ?_)
  exact (ap2 fun i y hy=>hno i y (by have:=(List.getElem?_eq_some_iff.1 hy).1;omega) hy).symm
theorem sk43 {A B:Prop} (k:B) (h:Hd7 B→A:=by intro hk7q;(first|refine sb0 ?_|refine sb1 ?_|((with_reducible refine' Cp.by ?hc ?_);(case hc=>exact ix_lif l p hl hp))|((with_reducible refine' CE.pure ?hc ?_);(case hc=>exact ix_lif l p hl hp)));exact hk7q.run):A:=h ⟨k⟩
theorem any_lif {f:FuncId} {cs:List D} (l:List Lif) (p:Lif→Bool) (hl:l.length≤1000000) (hp:∀ y∈l,APure Tryz.prog f [lifD y,.ro cs] (bD (p y))):APure Tryz.prog 83 [slL l,.clo f [.ro cs]] (bD (l.any p)):=by
 refine APure.of_call (aa3 mixed aa0 Tryz.func83 (by kernel_rfl) rfl Tryz.ntmps83 rfl ?_);intro BB
 repeat' (first|refine sk43 ?_|(intro b;conv=>whnf))
 refine Rt.pure (congrArg bD ?_)
 exact ar3 p l
theorem ix_rul {f:FuncId} {cs:List D} (l:List Rul) (p:Rul→Bool) (hl:l.length≤1000000) (hp:∀ y∈l,APure Tryz.prog f [rulD y,.ro cs] (bD (p y))):APure Tryz.prog 143 [slR l,.clo f [.ro cs]] (iD (idx p l)):=by
 refine APure.of_call (aa3 mixed aa0 Tryz.func143 (by kernel_rfl) rfl Tryz.ntmps143 rfl ?_);intro BB
 repeat' (first|refine sk41 ?_|(intro b;conv=>whnf))
 refine ae3 mixed aa0 (γ:=Nat) (fun k=>[(8,iD k)]) (fun _=>[]) (fun k=>k≤l.length∧∀ i y,i<k→l[i]?=some y→p y=false) (fun k=>l.length - k) 0 rfl rfl ⟨by omega,by omega⟩ ?_
 rintro k ⟨hk,hno⟩
 by_cases hlt:k<l.length
 ·obtain ⟨y,hy⟩:∃ y,l[(k:Int).toNat]?=some y:=⟨_,List.getElem?_eq_getElem hlt⟩
  repeat' (first|refine sk41 ?_|(intro b;conv=>whnf)|(with_reducible refine Br.d (fun hc=>?_) (fun hc=>?_))|(with_reducible refine Br.b (fun hc=>?_) (fun hc=>?_)))
  ·refine Rt.pure (congrArg iD ?_)
   exact (ae6 hy ‹_› hno).symm
  ·exact ⟨k+1,rfl,rfl,⟨by omega,fun i z hi hz=>by
    by_cases e:i=k
    ·subst e;rw [show ((i:Int)).toNat=i from rfl,hz] at hy;cases hy;assumption
    ·exact hno i z (by omega) hz⟩,by omega⟩
 ·repeat' (first|refine sk41 ?_|(intro b;conv=>whnf))
  refine Rt.pure (congrArg iD ?_)
  exact (ap2 fun i y hy=>hno i y (by have:=(List.getElem?_eq_some_iff.1 hy).1;omega) hy).symm
theorem sk44 {A B:Prop} (k:B) (h:Hd7 B→A:=by intro hk7q;(first|refine sb0 ?_|refine sb1 ?_|((with_reducible refine' Cp.by ?hc ?_);(case hc=>exact ix_rul l p hl hp))|((with_reducible refine' CE.pure ?hc ?_);(case hc=>exact ix_rul l p hl hp)));exact hk7q.run):A:=h ⟨k⟩
theorem any_rul {f:FuncId} {cs:List D} (l:List Rul) (p:Rul→Bool) (hl:l.length≤1000000) (hp:∀ y∈l,APure Tryz.prog f [rulD y,.ro cs] (bD (p y))):APure Tryz.prog 116 [slR l,.clo f [.ro cs]] (bD (l.any p)):=by
 refine APure.of_call (aa3 mixed aa0 Tryz.func116 (by kernel_rfl) rfl Tryz.ntmps116 rfl ?_);intro BB
 repeat' (first|refine sk44 ?_|(intro b;conv=>whnf))
 refine Rt.pure (congrArg bD ?_)
 exact ar3 p l
end
section
open Go
theorem sk45 {A B:Prop} (k:B) (h:Hd7 B→A:=by intro hk7q;(first|refine sb0 ?_|refine sb1 ?_|((with_reducible refine' Cp.by ?hc ?_);(case hc=>first|exact al7 _ _ (by assumption)|exact ai3 _ _ (by assumption)))|((with_reducible refine' CE.pure ?hc ?_);(case hc=>first|exact al7 _ _ (by assumption)|exact ai3 _ _ (by assumption))));exact hk7q.run):A:=h ⟨k⟩
theorem be8 (fs:List Fld):APure Tryz.prog 96 [slF fs] (bD (bh6 fs)):=by
 refine APure.of_call (aa3 mixed aa0 Tryz.func96 (by kernel_rfl) rfl Tryz.ntmps96 rfl ?_);intro BB
 cases fs with
 | nil=>
  repeat' (first|refine sk45 ?_|(intro b;conv=>whnf)|(with_reducible refine Br.d (fun hc=>?_) (fun hc=>?_))|(with_reducible refine Br.b (fun hc=>?_) (fun hc=>?_)))
  refine Rt.pure (congrArg bD ?_);rfl
 | cons f r=>
  repeat' (first|refine sk45 ?_|(intro b;conv=>whnf)|(with_reducible refine Br.d (fun hc=>?_) (fun hc=>?_))|(with_reducible refine Br.b (fun hc=>?_) (fun hc=>?_)))
  all_goals (refine Rt.pure (congrArg bD ?_);simp_all [bh6])
def prbC (p:Prb):List D:=[iD p.1,iD p.2.1,iD p.2.2.1,iD p.2.2.2]
theorem at4 (l:List Prb) (v:Value) (s:aa1) (k f r e:Int) (hr:RowIs 194 4 (l.map prbC) v s) (hl:l.length≤1000000) :
  ACall Tryz.prog 95 [.v v,iD k,iD f,iD r,iD e] s (fun d s'=>∃ v',d = .v v'∧RowIs 194 4 ((l ++ one k f r e).map prbC) v' s'):=by
 refine aa3 mixed aa0 Tryz.func95 (by kernel_rfl) rfl Tryz.ntmps95 rfl ?_;intro BB
 repeat' (first|refine sk45 ?_|(intro b;conv=>whnf)|(with_reducible refine Br.d (fun hc=>?_) (fun hc=>?_))|(with_reducible refine Br.b (fun hc=>?_) (fun hc=>?_)))
 ·refine Rt.same ⟨v,rfl,?_⟩
  unfold one;rw [if_pos (by omega)];simpa using hr
 ·refine Ap.go rfl rfl rfl rfl hr (as1 _) rfl (zs:=(l ++ one k f r e).map prbC) (by unfold one;rw [if_neg (by omega)];simp [prbC]) (by simp [one];split <;> simp <;> omega) (by simp [one];split <;> simp <;> omega) (fun s'=>s') aq0 (fun a c s' hr=>?_)
  repeat' (first|refine sk45 ?_|(intro b;conv=>whnf))
  exact Rt.same ⟨_,rfl,hr⟩
theorem aX1 {x:Sch} {i m:Nat} {r s:Rul} (hm:m<i) (hs:x.rules[m]?=some s) (h:seq s.name r.name=true):ai2 x i r=true:=by
 unfold ai2
 rw [List.any_eq_true]
 exact ⟨s,List.mem_of_getElem? (i:=m) (by rw [List.getElem?_take,if_pos hm];exact hs),h⟩
theorem aJ6 {x:Sch} {i:Nat} {r:Rul} (h:∀ (m:Nat) y,m<i→x.rules[m]?=some y→seq y.name r.name=false):ai2 x i r=false:=by
 unfold ai2
 rw [List.any_eq_false]
 intro s hs
 obtain ⟨m,hm⟩:=List.getElem?_of_mem hs
 rw [List.getElem?_take] at hm
 split at hm
 ·rename_i hlt;simp [h m s hlt hm]
 ·cases hm
theorem ruleE_twice {x:Sch} {i:Nat} {r:Rul} (h:ai2 x i r=true):az8 x i r=7:=by
 unfold az8
 split <;> rw [h] <;> rfl
theorem bd8 {x:Sch} {i:Nat} {r:Rul} (h:ai2 x i r=false) (hk:af0 x (ab3 x r.kind)=none):az8 x i r=12:=by
 simp only [az8,hk,h];rfl
theorem ruleE_kind {x:Sch} {i:Nat} {r:Rul} {k:Knd} (h:ai2 x i r=false) (hk:af0 x (ab3 x r.kind)=some k) :
  az8 x i r=if ai6 x k (ab3 x r.kind) r.a=true∨ai6 x k (ab3 x r.kind) r.b=true then 12 else if ae8 x k (ab3 x r.kind) r.a=true∨ae8 x k (ab3 x r.kind) r.b=true then 13 else if seq r.a r.b=true then 1 else 0:=by
 simp only [az8,hk,h]
 cases ai6 x k (ab3 x r.kind) r.a <;> cases ai6 x k (ab3 x r.kind) r.b <;> cases ae8 x k (ab3 x r.kind) r.a <;> cases ae8 x k (ab3 x r.kind) r.b <;> cases seq r.a r.b <;> rfl
theorem bc1 {x:Sch} {i j:Int} {k:Knd} {g:Fld} (h0:0≤i) (hk:x.kinds[i.toNat]?=some k) (hj:0≤j) (hg:k.fields[j.toNat]?=some g):atR x i j=(g,true):=by
 unfold atR;rw [af3 h0 hj hk,hg]
theorem atR_none {x:Sch} {i j:Int} (hj:j<0):atR x i j=(aM7,false):=by
 unfold atR;rw [ak8 (by omega)]
theorem nm_E (x:Sch) (k:Knd) (o:Int) {n:ByteArray} (h:(n.toList == ({ data:=#[] }:ByteArray).toList)=true):ai6 x k o n=false∧ae8 x k o n=false:=by rw [eqE] at h;simp [ai6,ae8,h]
theorem nm_no (x:Sch) (k:Knd) (o:Int) {n:ByteArray} (h:(n.toList == ({ data:=#[] }:ByteArray).toList)=false) (hi:ab7 k n<0):ai6 x k o n=true:=by rw [eqE] at h;simp [ai6,h,atR_none hi]
theorem nm_ok {x:Sch} {k:Knd} {o:Int} {n:ByteArray} {g:Fld} (h:(n.toList == ({ data:=#[] }:ByteArray).toList)=false) (h0:0≤o) (hk:x.kinds[o.toNat]?=some k) (hj:0≤ab7 k n) (hg:k.fields[(ab7 k n).toNat]?=some g) :
  ai6 x k o n=false∧ae8 x k o n=(!decide (g.kind=2) && !decide (g.kind=4)):=by
 rw [eqE] at h
 simp only [ai6,ae8,h,bc1 h0 hk hj hg]
 refine ⟨rfl,?_⟩
 by_cases h2:g.kind=2 <;> by_cases h4:g.kind=4 <;> simp [h2,h4]
def twoI (x:Sch) (k:Knd) (o:Int) (r:Rul) (g:Nat × Bool):Prop:=(g.1=0∧g.2=false)∨(g.1=1∧ai6 x k o r.a=false∧g.2=ae8 x k o r.a)∨(g.1=2∧ai6 x k o r.a=false∧ai6 x k o r.b=false∧g.2=(ae8 x k o r.a || ae8 x k o r.b))
theorem be6 (x:Sch) (i:Nat) (r:Rul) (hl:x.kinds.length≤1000000) (hf:∀ k∈x.kinds,k.fields.length≤1000000) (hrl:x.rules.length≤1000000) (hr:x.rules[i]?=some r):APure Tryz.prog 98 [schD x,iD i] (iD (az8 x i r)):=by
 refine APure.of_call (aa3 mixed aa0 Tryz.func98 (by kernel_rfl) rfl Tryz.ntmps98 rfl ?_);intro BB
 repeat' (first|refine sk45 ?_|(intro b;conv=>whnf)|refine IxM.mk fun y hy=>?_|(with_reducible refine Br.d (fun hc=>?_) (fun hc=>?_))|(with_reducible refine Br.b (fun hc=>?_) (fun hc=>?_)))
 refine ae3 mixed aa0 (γ:=Nat) (fun q=>[(6,iD q)]) (fun _=>[(b,.cells 105 (rulC r))]) (fun q=>q≤i∧∀ (m:Nat) y,m<q→x.rules[m]?=some y→seq y.name r.name=false) (fun q=>i - q) 0 rfl rfl ⟨by omega,fun m y hm=>by omega⟩ ?_
 rintro q ⟨hq,hno⟩
 have hil:=(List.getElem?_eq_some_iff.1 hr).1
 have hkl:=aQ0 x r.kind
 repeat' (first|refine sk45 ?_|(intro b;conv=>whnf)|refine IxM.mk fun y hy=>?_|(with_reducible refine Br.d (fun hc=>?_) (fun hc=>?_))|(with_reducible refine Br.b (fun hc=>?_) (fun hc=>?_)))
 ·refine Rt.pure (congrArg iD ?_)
  exact (ruleE_twice (aX1 (m:=q) (by omega) hy (by assumption))).symm
 ·exact ⟨q+1,rfl,rfl,⟨by omega,fun m z hm hz=>by
   by_cases e:m=q
   ·subst e;rw [show ((m:Int)).toNat=m from rfl,hz] at hy;cases hy;assumption
   ·exact hno m z (by omega) hz⟩,by omega⟩
 ·obtain rfl:q=i:=by omega
  refine Rt.pure (congrArg iD ?_)
  exact (bd8 (aJ6 hno) (by unfold af0;rw [if_neg (by omega)])).symm
 ·obtain rfl:q=i:=by omega
  obtain ⟨k,hk⟩:∃ k,x.kinds[(ab3 x r.kind).toNat]?=some k:=⟨_,List.getElem?_eq_getElem (by omega)⟩
  have hka:af0 x (ab3 x r.kind)=some k:=by unfold af0;rw [if_pos (by omega)];exact hk
  have hE:=ruleE_kind (aJ6 hno) hka
  have hfk:=hf k (List.mem_of_getElem? hk)
  have hfa:=as8 k r.a
  have hfb:=as8 k r.b
  refine ae3 mixed aa0 (γ:=Nat × Bool) (fun g=>[(9,bD g.2),(10,iD g.1)]) (fun _=>[(b,.cells 105 (rulC r))]) (twoI x k (ab3 x r.kind) r) (fun g=>2 - g.1) (0,false) rfl rfl (.inl ⟨rfl,rfl⟩) ?_
  rintro ⟨j,w⟩ (⟨rfl,rfl⟩|⟨rfl,ha,rfl⟩|⟨rfl,ha,hb,rfl⟩)
  ·repeat' (first|refine sk45 ?_|(intro b;conv=>whnf)|refine IxM.mk fun y hy=>?_|(with_reducible refine Br.d (fun hc=>?_) (fun hc=>?_))|(with_reducible refine Br.b (fun hc=>?_) (fun hc=>?_)))
   ·exact ⟨(1,false),rfl,rfl,.inr (.inl ⟨rfl,(nm_E x k _ ‹_›).1,(nm_E x k _ ‹_›).2.symm⟩),by simp⟩
   ·refine Rt.pure (congrArg iD ?_)
    rw [hE,if_pos (.inl (nm_no x k _ ‹_› (by omega)))]
   all_goals
    have hh:=nm_ok (x:=x) (k:=k) (o:=ab3 x r.kind) (n:=r.a) ‹_› (by omega) hk (by omega) hy
    first
    | exact ⟨(1,!decide (y.kind=4)),rfl,rfl,.inr (.inl ⟨rfl,hh.1,by rw [hh.2];simp [*]⟩),by simp⟩
    | exact ⟨(1,false),rfl,rfl,.inr (.inl ⟨rfl,hh.1,by rw [hh.2];simp [*]⟩),by simp⟩
  ·generalize hw:ae8 x k (ab3 x r.kind) r.a=w
   repeat' (first|refine sk45 ?_|(intro b;conv=>whnf)|refine IxM.mk fun y hy=>?_|(with_reducible refine Br.d (fun hc=>?_) (fun hc=>?_))|(with_reducible refine Br.b (fun hc=>?_) (fun hc=>?_)))
   ·exact ⟨(2,w),rfl,rfl,.inr (.inr ⟨rfl,ha,(nm_E x k _ ‹_›).1,by rw [(nm_E x k _ (n:=r.b) ‹_›).2,hw];simp⟩),by simp⟩
   ·refine Rt.pure (congrArg iD ?_)
    rw [hE,if_pos (.inr (nm_no x k _ ‹_› (by omega)))]
   all_goals
    have hh:=nm_ok (x:=x) (k:=k) (o:=ab3 x r.kind) (n:=r.b) ‹_› (by omega) hk (by omega) hy
    first
    | exact ⟨(2,true),rfl,rfl,.inr (.inr ⟨rfl,ha,hh.1,by rw [hh.2,hw];simp [*]⟩),by simp⟩
    | exact ⟨(2,!decide (y.kind=4)),rfl,rfl,.inr (.inr ⟨rfl,ha,hh.1,by rw [hh.2,hw];simp [*]⟩),by simp⟩
    | exact ⟨(2,false),rfl,rfl,.inr (.inr ⟨rfl,ha,hh.1,by rw [hh.2,hw];simp [*]⟩),by simp⟩
  ·generalize hw:(ae8 x k (ab3 x r.kind) r.a || ae8 x k (ab3 x r.kind) r.b)=w
   rw [if_neg (by simp [ha,hb])] at hE
   simp only [← Bool.or_eq_true,hw] at hE
   repeat' (first|refine sk45 ?_|(intro b;conv=>whnf)|refine IxM.mk fun y hy=>?_|(with_reducible refine Br.d (fun hc=>?_) (fun hc=>?_))|(with_reducible refine Br.b (fun hc=>?_) (fun hc=>?_)))
   all_goals (refine Rt.pure (congrArg iD ?_);rw [hE];simp [*,seq])
end
section
open Go
theorem ty_kind1 (y:Knd) (nm:ByteArray):APure Tryz.prog 126 [kndD y,.ro [sD nm]] (bD (seq y.name nm)):=by
 refine APure.of_call (aa3 mixed aa0 Tryz.func126 (by kernel_rfl) rfl Tryz.ntmps126 rfl ?_);intro BB
 repeat' (first|refine sk2 ?_|(intro b;conv=>whnf))
 refine Rt.pure (congrArg bD ?_);rfl
theorem bc8 (y:Fld) (nm:ByteArray):APure Tryz.prog 105 [fldD y,.ro [sD nm]] (bD (seq y.name nm)):=by
 refine APure.of_call (aa3 mixed aa0 Tryz.func105 (by kernel_rfl) rfl Tryz.ntmps105 rfl ?_);intro BB
 repeat' (first|refine sk2 ?_|(intro b;conv=>whnf))
 refine Rt.pure (congrArg bD ?_);rfl
theorem sk46 {A B:Prop} (k:B) (h:Hd7 B→A:=by intro hk7q;(first|refine sb0 ?_|refine sb1 ?_|((with_reducible refine' Cp.by ?hc ?_);(case hc=>exact ix_knd x.kinds (fun y=>seq y.name nm) hl (fun y _=>ty_kind1 y nm)))|((with_reducible refine' CE.pure ?hc ?_);(case hc=>exact ix_knd x.kinds (fun y=>seq y.name nm) hl (fun y _=>ty_kind1 y nm))));exact hk7q.run):A:=h ⟨k⟩
theorem an0 (x:Sch) (nm:ByteArray) (hl:x.kinds.length≤1000000):APure Tryz.prog 102 [schD x,sD nm] (iD (ab3 x nm)):=by
 refine APure.of_call (aa3 mixed aa0 Tryz.func102 (by kernel_rfl) rfl Tryz.ntmps102 rfl ?_);intro BB
 repeat' (first|refine sk46 ?_|(intro b;conv=>whnf))
 refine Rt.pure (congrArg iD ?_);rfl
theorem sk47 {A B:Prop} (k:B) (h:Hd7 B→A:=by intro hk7q;(first|refine sb0 ?_|refine sb1 ?_|((with_reducible refine' Cp.by ?hc ?_);(case hc=>exact ix_fld k.fields (fun y=>seq y.name nm) hl (fun y _=>bc8 y nm)))|((with_reducible refine' CE.pure ?hc ?_);(case hc=>exact ix_fld k.fields (fun y=>seq y.name nm) hl (fun y _=>bc8 y nm))));exact hk7q.run):A:=h ⟨k⟩
theorem ak3 (k:Knd) (nm:ByteArray) (hl:k.fields.length≤1000000):APure Tryz.prog 79 [kndD k,sD nm] (iD (ab7 k nm)):=by
 refine APure.of_call (aa3 mixed aa0 Tryz.func79 (by kernel_rfl) rfl Tryz.ntmps79 rfl ?_);intro BB
 repeat' (first|refine sk47 ?_|(intro b;conv=>whnf))
 refine Rt.pure (congrArg iD ?_);rfl
theorem bc9 (x:Sch) (i j:Int):APure Tryz.prog 101 [schD x,iD i,iD j] (.tup [fldD (atR x i j).1,bD (atR x i j).2]):=by
 refine APure.of_call (aa3 mixed aa0 Tryz.func101 (by kernel_rfl) rfl Tryz.ntmps101 rfl ?_);intro BB
 repeat' (first|refine sk2 ?_|(intro b;conv=>whnf)|refine IxM.mk fun y hy=>?_|(with_reducible refine Br.d (fun hc=>?_) (fun hc=>?_))|(with_reducible refine Br.b (fun hc=>?_) (fun hc=>?_)))
 all_goals first
  | (have hr:atR x i j=(aM7,false):=(by unfold atR;rw [ak8 (by omega)]);rw [hr];exact Rt.vs (Vs.tup (VsL.cons ((Vs.le aG2).trans (Vs.drop (List.nil_sublist _))) (VsL.cons (Vs.refl _ _) (VsL.nil _)))))
  | (have hr:atR x i j=(aM7,false):=(by unfold atR;rw [af3 (by omega) (by omega) hy,List.getElem?_eq_none (by omega)]);rw [hr];exact Rt.vs (Vs.tup (VsL.cons ((Vs.le aG2).trans (Vs.drop (List.nil_sublist _))) (VsL.cons (Vs.refl _ _) (VsL.nil _)))))
  | (have hr:=bc1 (x:=x) (i:=i) (j:=j) (by omega) ‹x.kinds[i.toNat]?=some _› (by omega) hy;rw [hr];exact Rt.vs (Vs.refl _ _))
theorem atR_fa {x:Sch} {i j:Int} {f:Fld} (h:fieldAt x i j=some f):atR x i j=(f,true):=by unfold atR;rw [h]
theorem atR_no {x:Sch} {i j:Int} (h:fieldAt x i j=none):atR x i j=(aM7,false):=by unfold atR;rw [h]
theorem sk48 {A B:Prop} (k:B) (h:Hd7 B→A:=by intro hk7q;(first|refine sb0 ?_|refine sb1 ?_|((with_reducible refine' Cp.by ?hc ?_);(case hc=>first|exact HA|exact an0 _ _ (by assumption)|exact ak3 _ _ (by assumption)))|((with_reducible refine' CE.pure ?hc ?_);(case hc=>first|exact HA|exact an0 _ _ (by assumption)|exact ak3 _ _ (by assumption))));exact hk7q.run):A:=h ⟨k⟩
theorem ty_up1 (x:Sch) (i j:Int) (f:Fld) (hl:x.kinds.length≤1000000) (hfa:fieldAt x i j=some f) (hk:f.kind=1):APure Tryz.prog 77 [schD x,iD i,iD j] (iD (refUp x i f)):=by
 have HA:=bc9 x i j
 rw [atR_fa hfa] at HA
 refine APure.of_call (aa3 mixed aa0 Tryz.func77 (by kernel_rfl) rfl Tryz.ntmps77 rfl ?_);intro BB
 repeat' (first|refine sk48 ?_|(intro b;conv=>whnf)|(with_reducible refine Br.d (fun hc=>?_) (fun hc=>?_))|(with_reducible refine Br.b (fun hc=>?_) (fun hc=>?_)))
 all_goals (refine Rt.pure (congrArg iD ?_);unfold refUp;first|rw [if_pos (by assumption)]|rw [if_neg (by assumption)])
theorem sk49 {A B:Prop} (k:B) (h:Hd7 B→A:=by intro hk7q;(first|refine sb0 ?_|refine sb1 ?_|((with_reducible refine' Cp.by ?hc ?_);(case hc=>first|exact HA|exact HB|exact HU|exact an0 _ _ (by assumption)|exact ak3 _ _ (by assumption)))|((with_reducible refine' CE.pure ?hc ?_);(case hc=>first|exact HA|exact HB|exact HU|exact an0 _ _ (by assumption)|exact ak3 _ _ (by assumption))));exact hk7q.run):A:=h ⟨k⟩
theorem bc7 (x:Sch) (i j:Int) (hl:x.kinds.length≤1000000) (hf:∀ k∈x.kinds,k.fields.length≤1000000):APure Tryz.prog 77 [schD x,iD i,iD j] (iD (upIx x i j)):=by
 have HA:=bc9 x i j
 cases hfa:fieldAt x i j with
 | none=>
  rw [atR_no hfa] at HA
  refine APure.of_call (aa3 mixed aa0 Tryz.func77 (by kernel_rfl) rfl Tryz.ntmps77 rfl ?_);intro BB
  repeat' (first|refine sk49 ?_|(intro b;conv=>whnf)|(with_reducible refine Br.d (fun hc=>?_) (fun hc=>?_))|(with_reducible refine Br.b (fun hc=>?_) (fun hc=>?_)))
  refine Rt.pure (congrArg iD ?_);simp [upIx,hfa]
 | some f=>
  rw [atR_fa hfa] at HA
  obtain ⟨h0,h1,k,hk,hkf⟩:=af7 hfa
  have hfk:=hf k (List.mem_of_getElem? hk)
  have hka:af0 x i=some k:=by simp [af0,h0,hk]
  have hkl:=(List.getElem?_eq_some_iff.1 hk).1
  have hU:=aH6 hfa hka
  have HB:=bc9 x i (ab7 k f.up)
  cases hg:fieldAt x i (ab7 k f.up) with
  | none=>
   rw [atR_no hg] at HB
   simp only [hg,aF4,aw9] at hU
   refine APure.of_call (aa3 mixed aa0 Tryz.func77 (by kernel_rfl) rfl Tryz.ntmps77 rfl ?_);intro BB
   repeat' (first|refine sk49 ?_|(intro b;conv=>whnf)|(with_reducible refine Br.d (fun hc=>?_) (fun hc=>?_))|(with_reducible refine Br.b (fun hc=>?_) (fun hc=>?_)))
   all_goals (refine Rt.pure (congrArg iD ?_);rw [hU];unfold refUp;(repeat' split) <;> first|rfl|omega)
  | some g=>
   rw [atR_fa hg] at HB
   simp only [hg,aF4] at hU
   by_cases hg1:g.kind=1
   ·have HU:=ty_up1 x i (ab7 k f.up) g hl hg hg1
    refine APure.of_call (aa3 mixed aa0 Tryz.func77 (by kernel_rfl) rfl Tryz.ntmps77 rfl ?_);intro BB
    repeat' (first|refine sk49 ?_|(intro b;conv=>whnf)|(with_reducible refine Br.d (fun hc=>?_) (fun hc=>?_))|(with_reducible refine Br.b (fun hc=>?_) (fun hc=>?_)))
    all_goals (refine Rt.pure (congrArg iD ?_);rw [hU];(repeat' split) <;> first|rfl|omega|(unfold refUp;(repeat' split) <;> first|rfl|omega)|(unfold aw9;simp only;unfold refUp;(repeat' split) <;> first|rfl|omega))
   ·refine APure.of_call (aa3 mixed aa0 Tryz.func77 (by kernel_rfl) rfl Tryz.ntmps77 rfl ?_);intro BB
    repeat' (first|refine sk49 ?_|(intro b;conv=>whnf)|(with_reducible refine Br.d (fun hc=>?_) (fun hc=>?_))|(with_reducible refine Br.b (fun hc=>?_) (fun hc=>?_)))
    all_goals (refine Rt.pure (congrArg iD ?_);rw [hU];(repeat' split) <;> first|rfl|omega|(unfold refUp;(repeat' split) <;> first|rfl|omega)|(unfold aw9;simp only;unfold refUp;(repeat' split) <;> first|rfl|omega))
end
section
open Go
theorem bc4 {x:Sch} (hV:Vld x):x.kinds.length≤1000000∧(∀ k∈x.kinds,k.fields.length≤1000000):=⟨by have:=hV.nk;omega,fun k hk=>by have:=hV.nf k hk;omega⟩
theorem sk50 {A B:Prop} (k:B) (h:Hd7 B→A:=by intro hk7q;(first|refine sb0 ?_|refine sb1 ?_|((with_reducible refine' Cp.by ?hc ?_);(case hc=>exact bc7 _ _ _ (by assumption) (by assumption)))|((with_reducible refine' CE.pure ?hc ?_);(case hc=>exact bc7 _ _ _ (by assumption) (by assumption))));exact hk7q.run):A:=h ⟨k⟩
theorem cl25 {p:Prop} (h:p:=by simp only [List.length_map,List.length_append,hS2,List.length_cons,List.length_nil];omega):p:=h
theorem bb4 (x:Sch) (hV:Vld x):APure Tryz.prog 59 [schD x] (slRf (aa7 x)):=by
 obtain ⟨hl,hf⟩:=bc4 hV
 have hnk:=hV.nk
 have hkl:∀ k,(refK x k).length≤1000:=fun k=>aX3 x k (fun k hk=>by have:=hV.nf k hk;omega)
 refine APure.of_call (aa3 mixed aa0 Tryz.func59 (by kernel_rfl) rfl Tryz.ntmps59 rfl ?_);intro BB
 repeat' (first|refine sk50 ?_|(intro b;conv=>whnf)|refine IxM.mk fun y hy=>?_)
 refine aa6 mixed aa0 (γ:=Nat × Value × aa1) (fun g=>[(3,.v g.2.1),(11,iD g.1)]) (fun g=>g.2.2) (fun g=>g.1≤x.kinds.length∧RowIs 121 4 ((upTo g.1 (refK x)).map rfC) g.2.1 g.2.2) (fun g=>x.kinds.length - g.1) (0,.slice none 0 0,[]) (aa2 cl2) cl3 ⟨Nat.zero_le _,RowIs.nil _ _⟩ ?_
 rintro ⟨q,v,s⟩ ⟨hq,hrow⟩
 simp only at hq hrow ⊢
 have hlen:=af6 hkl q
 repeat' (first|refine sk50 ?_|(intro b;conv=>whnf)|refine IxM.mk fun y hy=>?_|(with_reducible refine Br.d (fun hc=>?_) (fun hc=>?_))|(with_reducible refine Br.b (fun hc=>?_) (fun hc=>?_)))
 ·have hy:x.kinds[q]?=some y:=hy
  have hyf:=hV.nf y (List.mem_of_getElem? hy)
  have hS:=ac8 q (refK x)
  rw [show refK x q=upTo y.fields.length (refF x q y) by simp only [refK,hy]] at hS
  generalize b=b5
  refine aa6 mixed aa0 (γ:=Nat × Value × aa1) (fun g=>[(3,.v g.2.1),(19,iD g.1)]) (fun g=>(b5,.cells 97 (kndC y)) :: g.2.2) (fun g=>g.1≤y.fields.length∧RowIs 121 4 ((upTo q (refK x) ++ upTo g.1 (refF x q y)).map rfC) g.2.1 g.2.2) (fun g=>y.fields.length - g.1) (0,v,s) (aa2 cl2) cl3 ⟨Nat.zero_le _,by simpa [upTo] using hrow⟩ ?_
  rintro ⟨j,v,s⟩ ⟨hj,hrow⟩
  simp only at hj hrow ⊢
  have hlen2:=af6 (aX4 x q y) j
  have hS2:=ac8 j (refF x q y)
  by_cases hjl:j<y.fields.length
  ·obtain ⟨f,hf0⟩:∃ f,y.fields[j]?=some f:=⟨_,List.getElem?_eq_getElem hjl⟩
   have hf0':y.fields[((j:Nat):Int).toNat]?=some f:=hf0
   rw [show refF x q y j=if f.kind=1 then [⟨q,j,upIx x q j,f.lo⟩] else [] by simp only [refF,hf0]] at hS2
   repeat' (first|refine sk50 ?_|(intro b;conv=>whnf)|refine IxM.mk fun y hy=>?_|(with_reducible refine Br.d (fun hc=>?_) (fun hc=>?_))|(with_reducible refine Br.b (fun hc=>?_) (fun hc=>?_)))
   ·rw [if_pos (by assumption)] at hS2
    refine Ap.go rfl rfl rfl rfl hrow (perm2 _ _ _) rfl (zs:=(upTo q (refK x) ++ upTo (j+1) (refF x q y)).map rfC) (by rw [hS2,← List.append_assoc];simp [rfC]) cl25 cl25 (fun s'=>_ :: _ :: s') (perm2' _ _) (fun a' c' s' hr'=>?_)
    repeat' (first|refine sk50 ?_|(intro b;conv=>whnf)|refine IxM.mk fun y hy=>?_)
    exact ⟨(j+1,_,s'),(aa2 cl2),cl3,⟨by simp only;omega,hr'⟩,by simp only;omega⟩
   ·rw [if_neg (by assumption),List.append_nil] at hS2
    exact ⟨(j+1,v,s),(aa2 cl2),cl3,⟨by simp only;omega,by simp only;rw [hS2];exact hrow⟩,by simp only;omega⟩
  ·obtain rfl:j=y.fields.length:=by omega
   repeat' (first|refine sk50 ?_|(intro b;conv=>whnf)|refine IxM.mk fun y hy=>?_|(with_reducible refine Br.d (fun hc=>?_) (fun hc=>?_))|(with_reducible refine Br.b (fun hc=>?_) (fun hc=>?_)))
   exact ⟨(q+1,v,s),(aa2 cl2),cl3,⟨by simp only;omega,by simp only;rw [hS];exact hrow⟩,by simp only;omega⟩
 ·obtain rfl:q=x.kinds.length:=by omega
  exact Rt.vs (Vs.row hrow (as1 _))
theorem sk51 {A B:Prop} (k:B) (h:Hd7 B→A:=by intro hk7q;(first|refine sb0 ?_|refine sb1 ?_|((with_reducible refine' Cp.by ?hc ?_);(case hc=>exact aE9 _ _ _ (by assumption) (by assumption)))|((with_reducible refine' CE.pure ?hc ?_);(case hc=>exact aE9 _ _ _ (by assumption) (by assumption))));exact hk7q.run):A:=h ⟨k⟩
theorem aX7 (x:Sch) (hV:Vld x):APure Tryz.prog 61 [schD x] (slRf (aa7 x)):=by
 obtain ⟨hl,hf⟩:=bc4 hV
 have hnk:=hV.nk
 have hkl:∀ k,(refK x k).length≤1000:=fun k=>aX3 x k (fun k hk=>by have:=hV.nf k hk;omega)
 refine APure.of_call (aa3 mixed aa0 Tryz.func61 (by kernel_rfl) rfl Tryz.ntmps61 rfl ?_);intro BB
 repeat' (first|refine sk51 ?_|(intro b;conv=>whnf))
 refine aa6 mixed aa0 (γ:=Nat × Value × aa1) (fun g=>[(3,.v g.2.1),(4,iD g.1)]) (fun g=>g.2.2) (fun g=>g.1≤x.kinds.length∧RowIs 125 4 ((upTo g.1 (refK x)).map rfC) g.2.1 g.2.2) (fun g=>x.kinds.length - g.1) (0,.slice none 0 0,[]) (aa2 cl2) cl3 ⟨Nat.zero_le _,RowIs.nil _ _⟩ ?_
 rintro ⟨q,v,s⟩ ⟨hq,hrow⟩
 simp only at hq hrow ⊢
 have hlen:=af6 hkl q
 by_cases hql:q<x.kinds.length
 ·obtain ⟨y,hy⟩:∃ y,x.kinds[q]?=some y:=⟨_,List.getElem?_eq_getElem hql⟩
  have hy':x.kinds[((q:Nat):Int).toNat]?=some y:=hy
  have hyf:=hV.nf y (List.mem_of_getElem? hy)
  have hS:=ac8 q (refK x)
  rw [show refK x q=upTo y.fields.length (refF x q y) by simp only [refK,hy]] at hS
  repeat' (first|refine sk51 ?_|(intro b;conv=>whnf))
  refine aa6 mixed aa0 (γ:=Nat × Value × aa1) (fun g=>[(3,.v g.2.1),(5,iD g.1)]) (fun g=>g.2.2) (fun g=>g.1≤y.fields.length∧RowIs 125 4 ((upTo q (refK x) ++ upTo g.1 (refF x q y)).map rfC) g.2.1 g.2.2) (fun g=>y.fields.length - g.1) (0,v,s) (aa2 cl2) cl3 ⟨Nat.zero_le _,by simpa [upTo] using hrow⟩ ?_
  rintro ⟨j,v,s⟩ ⟨hj,hrow⟩
  simp only at hj hrow ⊢
  have hlen2:=af6 (aX4 x q y) j
  have hS2:=ac8 j (refF x q y)
  by_cases hjl:j<y.fields.length
  ·obtain ⟨f,hf0⟩:∃ f,y.fields[j]?=some f:=⟨_,List.getElem?_eq_getElem hjl⟩
   have hf0':y.fields[((j:Nat):Int).toNat]?=some f:=hf0
   rw [show refF x q y j=if f.kind=1 then [⟨q,j,upIx x q j,f.lo⟩] else [] by simp only [refF,hf0]] at hS2
   repeat' (first|refine sk51 ?_|(intro b;conv=>whnf)|(with_reducible refine Br.d (fun hc=>?_) (fun hc=>?_))|(with_reducible refine Br.b (fun hc=>?_) (fun hc=>?_)))
   ·rw [if_pos (by assumption)] at hS2
    refine Ap.go rfl rfl rfl rfl hrow (as1 _) rfl (zs:=(upTo q (refK x) ++ upTo (j+1) (refF x q y)).map rfC) (by rw [hS2,← List.append_assoc];simp [rfC]) cl25 cl25 (fun s'=>s') aq0 (fun a' c' s' hr'=>?_)
    repeat' (first|refine sk51 ?_|(intro b;conv=>whnf))
    exact ⟨(j+1,_,s'),(aa2 cl2),cl3,⟨by simp only;omega,hr'⟩,by simp only;omega⟩
   ·rw [if_neg (by assumption),List.append_nil] at hS2
    exact ⟨(j+1,v,s),(aa2 cl2),cl3,⟨by simp only;omega,by simp only;rw [hS2];exact hrow⟩,by simp only;omega⟩
  ·obtain rfl:j=y.fields.length:=by omega
   repeat' (first|refine sk51 ?_|(intro b;conv=>whnf)|(with_reducible refine Br.d (fun hc=>?_) (fun hc=>?_))|(with_reducible refine Br.b (fun hc=>?_) (fun hc=>?_)))
   exact ⟨(q+1,v,s),(aa2 cl2),cl3,⟨by simp only;omega,by simp only;rw [hS];exact hrow⟩,by simp only;omega⟩
 ·obtain rfl:q=x.kinds.length:=by omega
  repeat' (first|refine sk51 ?_|(intro b;conv=>whnf)|(with_reducible refine Br.d (fun hc=>?_) (fun hc=>?_))|(with_reducible refine Br.b (fun hc=>?_) (fun hc=>?_)))
  exact Rt.vs (Vs.row hrow (as1 _))
end
section
open Go
structure Snd (x:Sch):Prop where
 no:ap8 x=[]
 vld:Vld x
 up:∀ r∈aa7 x,0≤r.up∧r.up<r.kind∧r.kind<x.kinds.length
theorem aL3 (x:Sch) (k i:Int) (h:0≤upIx x k i):upIx x k i<k:=by
 unfold upIx at h ⊢
 have key:∀ f,0≤refUp x k f→refUp x k f<k:=fun f h=>by
  unfold refUp at h ⊢
  split
  ·assumption
  ·rename_i hn;rw [if_neg hn] at h;omega
 split
 ·rename_i e;rw [e] at h;simp at h
 ·rename_i f e
  rw [e] at h
  simp only at h
  split
  ·rename_i h1
   rw [if_pos h1] at h
   cases hu:upField x k i f with
   | none=>rw [hu] at h;simp [aw9] at h
   | some g=>rw [hu] at h;exact key g h
  ·rename_i h1
   rw [if_neg h1] at h
   split
   ·rename_i h2;rw [if_pos h2] at h;exact key f h
   ·rename_i h2;rw [if_neg h2] at h;omega
theorem one_nil {k f r e:Int} (h:one k f r e=[]):e=0:=by
 unfold one at h;split at h
 ·assumption
 ·cases h
theorem upTo_nil {α:Type} {q:Nat} {g:Nat→List α} (h:upTo q g=[]) (i:Nat) (hi:i<q):g i=[]:=by
 unfold upTo at h
 rw [List.flatMap_eq_nil_iff] at h
 exact h i (List.mem_range.2 hi)
theorem bd3 {x:Sch} (h:ap8 x=[]) {k:Nat} {kd:Knd} {i:Nat} {f:Fld} (hk:x.kinds[k]?=some kd) (hf:kd.fields[i]?=some f):¬ ab7 kd f.name<i∧ac2 x k i f=0:=by
 unfold ap8 at h
 split at h
 ·simp only [List.append_eq_nil_iff] at h
  have h1:=upTo_nil h.1.2 k (List.getElem?_eq_some_iff.1 hk).1
  simp only [ae5,hk,List.append_eq_nil_iff] at h1
  have h2:=upTo_nil h1.2 i (List.getElem?_eq_some_iff.1 hf).1
  simp only [ac5,hf] at h2
  have h3:=one_nil h2
  unfold al1 at h3
  split at h3
  ·omega
  ·exact ⟨by assumption,h3⟩
 ·cases h
theorem snd_valid {x:Sch} (h:ap8 x=[]):ac9 x=0:=by
 unfold ap8 at h
 split at h
 ·assumption
 ·cases h
theorem snd_of {x:Sch} (h:ap8 x=[]):Snd x:=by
 refine ⟨h,vld_of0 (snd_valid h),fun r hr=>?_⟩
 obtain ⟨kd,f,h1,h2,h3,h4,_⟩:=aL9 hr
 have h5:=(bd3 h h1 h2).2
 have h6:0≤upIx x r.kind r.field:=by
  unfold ac2 at h5
  rw [if_neg (by omega),if_neg (by omega),if_pos h3] at h5
  split at h5
  ·cases h5
  ·omega
 rw [h4]
 exact ⟨h6,aL3 x _ _ h6,(List.getElem?_eq_some_iff.1 h1).1⟩
theorem ix_w1 {f:FuncId} {c1 c2:List D} (l:List (List Int)) (p:List Int→Bool) (hl:l.length≤1000000) (hp:∀ y∈l,APure Tryz.prog f [slI y,.ro c1,.ro c2] (bD (p y))):APure Tryz.prog 118 [slW1 l,.clo f [.ro c1,.ro c2]] (iD (idx p l)):=by
 refine APure.of_call (aa3 mixed aa0 Tryz.func118 (by kernel_rfl) rfl Tryz.ntmps118 rfl ?_);intro BB
 repeat' (first|refine sk41 ?_|(intro b;conv=>whnf))
 refine ae3 mixed aa0 (γ:=Nat) (fun k=>[(8,iD k)]) (fun _=>[]) (fun k=>k≤l.length∧∀ i y,i<k→l[i]?=some y→p y=false) (fun k=>l.length - k) 0 rfl rfl ⟨by omega,by omega⟩ ?_
 rintro k ⟨hk,hno⟩
 by_cases hlt:k<l.length
 ·obtain ⟨y,hy⟩:∃ y,l[(k:Int).toNat]?=some y:=⟨_,List.getElem?_eq_getElem hlt⟩
  repeat' (first|refine sk41 ?_|(intro b;conv=>whnf)|(with_reducible refine Br.d (fun hc=>?_) (fun hc=>?_))|(with_reducible refine Br.b (fun hc=>?_) (fun hc=>?_)))
  ·refine Rt.pure (congrArg iD ?_)
   exact (ae6 hy ‹_› hno).symm
  ·exact ⟨k+1,rfl,rfl,⟨by omega,fun i z hi hz=>by
    by_cases e:i=k
    ·subst e;rw [show ((i:Int)).toNat=i from rfl,hz] at hy;cases hy;assumption
    ·exact hno i z (by omega) hz⟩,by omega⟩
 ·repeat' (first|refine sk41 ?_|(intro b;conv=>whnf))
  refine Rt.pure (congrArg iD ?_)
  exact (ap2 fun i y hy=>hno i y (by have:=(List.getElem?_eq_some_iff.1 hy).1;omega) hy).symm
theorem sk52 {A B:Prop} (k:B) (h:Hd7 B→A:=by intro hk7q;(first|refine sb0 ?_|refine sb1 ?_|((with_reducible refine' Cp.by ?hc ?_);(case hc=>exact ix_w1 l p hl hp))|((with_reducible refine' CE.pure ?hc ?_);(case hc=>exact ix_w1 l p hl hp)));exact hk7q.run):A:=h ⟨k⟩
theorem any_w1 {f:FuncId} {c1 c2:List D} (l:List (List Int)) (p:List Int→Bool) (hl:l.length≤1000000) (hp:∀ y∈l,APure Tryz.prog f [slI y,.ro c1,.ro c2] (bD (p y))):APure Tryz.prog 88 [slW1 l,.clo f [.ro c1,.ro c2]] (bD (l.any p)):=by
 refine APure.of_call (aa3 mixed aa0 Tryz.func88 (by kernel_rfl) rfl Tryz.ntmps88 rfl ?_);intro BB
 repeat' (first|refine sk52 ?_|(intro b;conv=>whnf))
 refine Rt.pure (congrArg bD ?_)
 exact ar3 p l
theorem cl_fits1 (x:Sch) (k:Nat) (r:List Int) (hk:k<x.kinds.length):APure Tryz.prog 89 [slI r,.ro (schC x),.ro [iD k]] (bD (!lenOk x k r)):=by
 obtain ⟨y,hy⟩:∃ y,x.kinds[k]?=some y:=⟨_,List.getElem?_eq_getElem hk⟩
 have hy':x.kinds[((k:Nat):Int).toNat]?=some y:=hy
 refine APure.of_call (aa3 mixed aa0 Tryz.func89 (by kernel_rfl) rfl Tryz.ntmps89 rfl ?_);intro BB
 repeat' (first|refine sk2 ?_|(intro b;conv=>whnf))
 refine Rt.pure (congrArg bD ?_)
 simp [lenOk,hy]
 omega
theorem cl_fits2 (w:Wd) (r:Rf) (l:List Int) (hf:r.field<l.length) (h0:0≤r.up) (hu:r.up<w.length):APure Tryz.prog 90 [slI l,.ro (rfC r),.ro [slW w]] (bD (!refOk w r l)):=by
 obtain ⟨v,hv⟩:∃ v,l[r.field]?=some v:=⟨_,List.getElem?_eq_getElem hf⟩
 have hv':l[((r.field:Nat):Int).toNat]?=some v:=hv
 obtain ⟨z,hz⟩:∃ z,w[r.up.toNat]?=some z:=⟨_,List.getElem?_eq_getElem (by omega)⟩
 refine APure.of_call (aa3 mixed aa0 Tryz.func90 (by kernel_rfl) rfl Tryz.ntmps90 rfl ?_);intro BB
 repeat' (first|refine sk2 ?_|(intro b;conv=>whnf)|(with_reducible refine Br.d (fun hc=>?_) (fun hc=>?_))|(with_reducible refine Br.b (fun hc=>?_) (fun hc=>?_)))
 all_goals (refine Rt.pure (congrArg bD ?_);simp only [refOk,aa4 hv,aa4 hz];simp [*])
end
section
open Go
structure Ws (w:Wd):Prop where
 nk:w.length≤1000
 nr:∀ l∈w,l.length≤1000
 nf:∀ l∈w,∀ r∈l,r.length≤1000
theorem as9:∀ {w:Wd} (_:∀ l∈w,l.length≤1000) (j:Nat),((w.take j).map List.length).sum≤j*1000
 | [],_,j=>by simp
 | l :: w,_,0=>by simp
 | l :: w,h,j+1=>by
  have h1:=h l (by simp)
  have h2:=as9 (w:=w) (fun l hl=>h l (by simp [hl])) j
  simp only [List.take_succ_cons,List.map_cons,List.sum_cons]
  omega
theorem aE6 {w:Wd} {j:Nat} {l:List (List Int)} (h:w[j]?=some l):((w.take (j+1)).map List.length).sum=((w.take j).map List.length).sum+l.length:=by
 rw [List.take_add_one,h];simp
theorem aK6 {x:Sch} {w:Wd} {k:Nat} {l:List (List Int)} (hk:w[k]?=some l) (h:l.any (fun r=>!lenOk x k r)=true):aG8 x w=false:=by
 have:lensB x w=false:=by
  unfold lensB
  rw [List.all_eq_false]
  refine ⟨k,List.mem_range.2 (List.getElem?_eq_some_iff.1 hk).1,?_⟩
  rw [aa4 hk]
  rw [List.any_eq_true] at h
  obtain ⟨r,hr,hn⟩:=h
  simp only [Bool.not_eq_true,List.all_eq_false]
  exact ⟨r,hr,by simpa using hn⟩
 unfold aG8;rw [this];simp
theorem aQ8 {x:Sch} {w:Wd} (h:w.length≠x.kinds.length):aG8 x w=false:=by unfold aG8;simp [h]
theorem aD8 {x:Sch} {w:Wd} {r:Rf} (hr:r∈aa7 x) (h:(w.getD r.kind []).any (fun l=>!refOk w r l)=true):aG8 x w=false:=by
 have:(aa7 x).all (fun r=>(w.getD r.kind []).all (refOk w r))=false:=by
  rw [List.all_eq_false]
  refine ⟨r,hr,?_⟩
  rw [List.any_eq_true] at h
  obtain ⟨l,hl,hn⟩:=h
  simp only [Bool.not_eq_true,List.all_eq_false]
  exact ⟨l,hl,by simpa using hn⟩
 unfold aG8;rw [this];simp
theorem fits_yes {x:Sch} {w:Wd} (h1:w.length=x.kinds.length) (h2:∀ (k:Nat) l,w[k]?=some l→l.any (fun r=>!lenOk x k r)=false) (h3:∀ (q:Nat) r,(aa7 x)[q]?=some r→(w.getD r.kind []).any (fun l=>!refOk w r l)=false):aG8 x w=decide ((bd1 w:Int)≤512):=by
 have e1:lensB x w=true:=by
  unfold lensB
  rw [List.all_eq_true]
  intro k hk
  obtain ⟨l,hl⟩:∃ l,w[k]?=some l:=⟨_,List.getElem?_eq_getElem (List.mem_range.1 hk)⟩
  rw [aa4 hl,List.all_eq_true]
  intro r hr
  have:=h2 k l hl
  rw [List.any_eq_false] at this
  simpa using this r hr
 have e2:(aa7 x).all (fun r=>(w.getD r.kind []).all (refOk w r))=true:=by
  rw [List.all_eq_true]
  intro r hr
  obtain ⟨q,hq⟩:=List.getElem?_of_mem hr
  rw [List.all_eq_true]
  intro l hl
  have:=h3 q r hq
  rw [List.any_eq_false] at this
  simpa using this l hl
 unfold aG8
 rw [e1,e2]
 simp [h1]
 omega
theorem aI4 {x:Sch} {w:Wd} {r:Rf} (hr:r∈aa7 x) (h2:∀ (k:Nat) l,w[k]?=some l→l.any (fun r=>!lenOk x k r)=false) {l:List (List Int)} (hl:w[r.kind]?=some l) {y:List Int} (hy:y∈l):r.field<y.length:=by
 obtain ⟨kd,f,h1,h3,_⟩:=aL9 hr
 have:=h2 _ _ hl
 rw [List.any_eq_false] at this
 have h5:lenOk x r.kind y=true:=by simpa using this y hy
 simp only [lenOk,h1,decide_eq_true_eq] at h5
 rw [h5]
 exact (List.getElem?_eq_some_iff.1 h3).1
theorem au9 {x:Sch} (hV:Vld x):(aa7 x).length≤6000:=by
 have h1:=af6 (fun k=>aX3 x k (fun k hk=>by have:=hV.nf k hk;omega)) x.kinds.length
 have:=hV.nk
 unfold aa7;omega
theorem sk53 {A B:Prop} (k:B) (h:Hd7 B→A:=by intro hk7q;(first|refine sb0 ?_|refine sb1 ?_|((with_reducible refine' Cp.by ?hc ?_);(case hc=>first|exact bb4 _ (by assumption)|exact HR))|((with_reducible refine' CE.pure ?hc ?_);(case hc=>first|exact bb4 _ (by assumption)|exact HR)));exact hk7q.run):A:=h ⟨k⟩
theorem cl_fits (x:Sch) (hS:Snd x) (w:Wd) (hw:Ws w):APure Tryz.prog 65 [schD x,slW w] (bD (aG8 x w)):=by
 have hV:=hS.vld
 have hnk:=hV.nk
 have hwl:=hw.nk
 have hrl:=au9 hV
 refine APure.of_call (aa3 mixed aa0 Tryz.func65 (by kernel_rfl) rfl Tryz.ntmps65 rfl ?_);intro BB
 repeat' (first|refine sk53 ?_|(intro b;conv=>whnf)|(with_reducible refine Br.d (fun hc=>?_) (fun hc=>?_))|(with_reducible refine Br.b (fun hc=>?_) (fun hc=>?_)))
 rotate_left
 ·refine Rt.pure (congrArg bD ?_);exact (aQ8 (by omega)).symm
 ·have hlen:w.length=x.kinds.length:=by omega
  refine aa6 mixed aa0 (γ:=Nat) (fun j=>[(5,iD ((w.take j).map List.length).sum),(18,iD j)]) (fun _=>[]) (fun j=>j≤w.length∧∀ (k:Nat) l,k<j→w[k]?=some l→l.any (fun r=>!lenOk x k r)=false) (fun j=>w.length - j) 0 (aa2 cl2) cl3 ⟨Nat.zero_le _,fun k l h=>by omega⟩ ?_
  rintro j ⟨hj,hno⟩
  by_cases hjl:j<w.length
  ·obtain ⟨l,hl⟩:∃ l,w[j]?=some l:=⟨_,List.getElem?_eq_getElem hjl⟩
   have hl':w[((j:Nat):Int).toNat]?=some l:=hl
   have hs1:=as9 hw.nr j
   have hs2:=aE6 hl
   have hll:=hw.nr l (List.mem_of_getElem? hl)
   have HR:APure Tryz.prog 88 [slW1 l,.clo 89 [.ro (schC x),.ro [iD j]]] (bD (l.any fun r=>!lenOk x j r)):=any_w1 l _ (by omega) (fun y hy=>cl_fits1 x j y (by omega))
   repeat' (first|refine sk53 ?_|(intro b;conv=>whnf))
   refine CE.pk (APk.peek (.cons (Pk.same _) (.cons (Pk.clo (.cons (Pk.same _) (.cons (Pk.ptr (j:=0) rfl (PkL.refl _)) .nil))) .nil)) HR rfl) ?_
   clear HR
   repeat' (first|refine sk53 ?_|(intro b;conv=>whnf)|(with_reducible refine Br.d (fun hc=>?_) (fun hc=>?_))|(with_reducible refine Br.b (fun hc=>?_) (fun hc=>?_)))
   ·refine Rt.pure (congrArg bD ?_);exact (aK6 hl ‹_›).symm
   ·refine ⟨j+1,(aa2 cl7),cl3,⟨by omega,fun k l' hk hl2=>?_⟩,by omega⟩
    by_cases e:k=j
    ·subst e;cases hl.symm.trans hl2;assumption
    ·exact hno k l' (by omega) hl2
  ·obtain rfl:j=w.length:=by omega
   have hall:∀ (k:Nat) l,w[k]?=some l→l.any (fun r=>!lenOk x k r)=false:=fun k l hk=>hno k l (List.getElem?_eq_some_iff.1 hk).1 hk
   have hs1:=as9 hw.nr w.length
   repeat' (first|refine sk53 ?_|(intro b;conv=>whnf))
   refine aa6 mixed aa0 (γ:=Nat) (fun q=>[(34,iD q)]) (fun _=>[]) (fun q=>q≤(aa7 x).length∧∀ (k:Nat) r,k<q→(aa7 x)[k]?=some r→(w.getD r.kind []).any (fun l=>!refOk w r l)=false) (fun q=>(aa7 x).length - q) 0 (aa2 cl2) cl3 ⟨Nat.zero_le _,fun k r h=>by omega⟩ ?_
   rintro q ⟨hq,hno2⟩
   by_cases hql:q<(aa7 x).length
   ·obtain ⟨r,hr⟩:∃ r,(aa7 x)[q]?=some r:=⟨_,List.getElem?_eq_getElem hql⟩
    have hr':(aa7 x)[((q:Nat):Int).toNat]?=some r:=hr
    have hrm:=List.mem_of_getElem? hr
    obtain ⟨u1,u2,u3⟩:=hS.up r hrm
    obtain ⟨l,hl⟩:∃ l,w[r.kind]?=some l:=⟨_,List.getElem?_eq_getElem (by omega)⟩
    have hl':w[((r.kind:Nat):Int).toNat]?=some l:=hl
    have hll:=hw.nr l (List.mem_of_getElem? hl)
    have HR:APure Tryz.prog 88 [slW1 l,.clo 90 [.ro (rfC r),.ro [slW w]]] (bD (l.any fun y=>!refOk w r y)):=any_w1 l _ (by omega) (fun y hy=>cl_fits2 w r y (aI4 hrm hall hl hy) u1 (by omega))
    repeat' (first|refine sk53 ?_|(intro b;conv=>whnf))
    refine CE.pk (APk.peek (.cons (Pk.same _) (.cons (Pk.clo (.cons (Pk.ptr (j:=0) rfl (PkL.refl _)) (.cons (Pk.same _) .nil))) .nil)) HR rfl) ?_
    clear HR
    repeat' (first|refine sk53 ?_|(intro b;conv=>whnf)|(with_reducible refine Br.d (fun hc=>?_) (fun hc=>?_))|(with_reducible refine Br.b (fun hc=>?_) (fun hc=>?_)))
    ·refine Rt.pure (congrArg bD ?_);exact (aD8 hrm (by rw [aa4 hl];assumption)).symm
    ·refine ⟨q+1,(aa2 cl2),cl3,⟨by omega,fun k r' hk hr2=>?_⟩,by omega⟩
     by_cases e:k=q
     ·subst e;cases hr.symm.trans hr2;rw [aa4 hl];assumption
     ·exact hno2 k r' (by omega) hr2
   ·obtain rfl:q=(aa7 x).length:=by omega
    repeat' (first|refine sk53 ?_|(intro b;conv=>whnf))
    refine Rt.pure (congrArg bD ?_)
    rw [fits_yes hlen hall (fun q r h=>hno2 q r (List.getElem?_eq_some_iff.1 h).1 h)]
    unfold bd1
    rw [List.take_of_length_le (Nat.le_refl _)]
end
section
open Go
theorem any_no {α:Type} {p:α→Bool} {l:List α} (h:∀ (i:Nat) y,i<l.length→l[i]?=some y→p y=false):l.any p=false:=by
 rw [List.any_eq_false]
 intro y hy
 obtain ⟨i,hi⟩:=List.getElem?_of_mem hy
 simp [h i y (List.getElem?_eq_some_iff.1 hi).1 hi]
theorem any_at {α:Type} {p:α→Bool} {l:List α} {i:Nat} {y:α} (h:l[i]?=some y) (hp:p y=true):l.any p=true:=List.any_eq_true.2 ⟨y,List.mem_of_getElem? h,hp⟩
theorem sk54 {A B:Prop} (k:B) (h:Hd7 B→A:=by intro hk7q;(first|refine sb0 ?_|refine sb1 ?_|((with_reducible refine' Cp.by ?hc ?_);(case hc=>exact aX7 _ (by assumption)))|((with_reducible refine' CE.pure ?hc ?_);(case hc=>exact aX7 _ (by assumption))));exact hk7q.run):A:=h ⟨k⟩
theorem r31_fits (x:Sch) (hS:Snd x) (w:Wd) (hw:Ws w):APure Tryz.prog 37 [schD x,slW w] (bD (aG8 x w)):=by
 have hV:=hS.vld
 have hnk:=hV.nk
 have hwl:=hw.nk
 have hrl:=au9 hV
 refine APure.of_call (aa3 mixed aa0 Tryz.func37 (by kernel_rfl) rfl Tryz.ntmps37 rfl ?_);intro BB
 repeat' (first|refine sk54 ?_|(intro b;conv=>whnf)|(with_reducible refine Br.d (fun hc=>?_) (fun hc=>?_))|(with_reducible refine Br.b (fun hc=>?_) (fun hc=>?_)))
 rotate_left
 ·refine Rt.pure (congrArg bD ?_);exact (aQ8 (by omega)).symm
 have hlen:w.length=x.kinds.length:=by omega
 refine aa6 mixed aa0 (γ:=Nat) (fun j=>[(5,iD ((w.take j).map List.length).sum),(6,iD j)]) (fun _=>[]) (fun j=>j≤w.length∧∀ (k:Nat) l,k<j→w[k]?=some l→l.any (fun r=>!lenOk x k r)=false) (fun j=>w.length - j) 0 (aa2 cl2) cl3 ⟨Nat.zero_le _,fun k l h=>by omega⟩ ?_
 rintro j ⟨hj,hno⟩
 by_cases hjl:j<w.length
 ·obtain ⟨l,hl⟩:∃ l,w[j]?=some l:=⟨_,List.getElem?_eq_getElem hjl⟩
  have hl':w[((j:Nat):Int).toNat]?=some l:=hl
  obtain ⟨kd,hkd⟩:∃ kd,x.kinds[j]?=some kd:=⟨_,List.getElem?_eq_getElem (by omega)⟩
  have hkd':x.kinds[((j:Nat):Int).toNat]?=some kd:=hkd
  have hs1:=as9 hw.nr j
  have hs2:=aE6 hl
  have hll:=hw.nr l (List.mem_of_getElem? hl)
  repeat' (first|refine sk54 ?_|(intro b;conv=>whnf))
  refine aa6 mixed aa0 (γ:=Nat) (fun i=>[(7,iD i)]) (fun _=>[]) (fun i=>i≤l.length∧∀ (m:Nat) y,m<i→l[m]?=some y→(!lenOk x j y)=false) (fun i=>l.length - i) 0 (aa2 cl2) cl3 ⟨Nat.zero_le _,fun k l h=>by omega⟩ ?_
  rintro i ⟨hi,hni⟩
  by_cases hil:i<l.length
  ·obtain ⟨y,hy⟩:∃ y,l[i]?=some y:=⟨_,List.getElem?_eq_getElem hil⟩
   have hy':l[((i:Nat):Int).toNat]?=some y:=hy
   repeat' (first|refine sk54 ?_|(intro b;conv=>whnf)|(with_reducible refine Br.d (fun hc=>?_) (fun hc=>?_))|(with_reducible refine Br.b (fun hc=>?_) (fun hc=>?_)))
   ·refine ⟨i+1,(aa2 cl2),cl3,⟨by omega,fun m z hm hz=>?_⟩,by omega⟩
    by_cases e:m=i
    ·subst e;cases hy.symm.trans hz;simp only [lenOk,hkd];simp;omega
    ·exact hni m z (by omega) hz
   ·refine Rt.pure (congrArg bD ?_);exact (aK6 hl (any_at hy (by simp only [lenOk,hkd];simp;omega))).symm
  ·obtain rfl:i=l.length:=by omega
   repeat' (first|refine sk54 ?_|(intro b;conv=>whnf))
   refine ⟨j+1,(aa2 cl7),cl3,⟨by omega,fun k l' hk hl2=>?_⟩,by omega⟩
   by_cases e:k=j
   ·subst e;cases hl.symm.trans hl2;exact any_no (fun i y h h2=>hni i y h h2)
   ·exact hno k l' (by omega) hl2
 ·obtain rfl:j=w.length:=by omega
  have hall:∀ (k:Nat) l,w[k]?=some l→l.any (fun r=>!lenOk x k r)=false:=fun k l hk=>hno k l (List.getElem?_eq_some_iff.1 hk).1 hk
  have hs1:=as9 hw.nr w.length
  repeat' (first|refine sk54 ?_|(intro b;conv=>whnf))
  refine aa6 mixed aa0 (γ:=Nat) (fun q=>[(9,iD q)]) (fun _=>[]) (fun q=>q≤(aa7 x).length∧∀ (k:Nat) r,k<q→(aa7 x)[k]?=some r→(w.getD r.kind []).any (fun l=>!refOk w r l)=false) (fun q=>(aa7 x).length - q) 0 (aa2 cl2) cl3 ⟨Nat.zero_le _,fun k r h=>by omega⟩ ?_
  rintro q ⟨hq,hno2⟩
  by_cases hql:q<(aa7 x).length
  ·obtain ⟨r,hr⟩:∃ r,(aa7 x)[q]?=some r:=⟨_,List.getElem?_eq_getElem hql⟩
   have hr':(aa7 x)[((q:Nat):Int).toNat]?=some r:=hr
   have hrm:=List.mem_of_getElem? hr
   obtain ⟨u1,u2,u3⟩:=hS.up r hrm
   obtain ⟨l,hl⟩:∃ l,w[r.kind]?=some l:=⟨_,List.getElem?_eq_getElem (by omega)⟩
   have hl':w[((r.kind:Nat):Int).toNat]?=some l:=hl
   obtain ⟨z,hz⟩:∃ z,w[r.up.toNat]?=some z:=⟨_,List.getElem?_eq_getElem (by omega)⟩
   have hll:=hw.nr l (List.mem_of_getElem? hl)
   repeat' (first|refine sk54 ?_|(intro b;conv=>whnf))
   refine aa6 mixed aa0 (γ:=Nat) (fun i=>[(11,iD i)]) (fun _=>[]) (fun i=>i≤l.length∧∀ (m:Nat) y,m<i→l[m]?=some y→(!refOk w r y)=false) (fun i=>l.length - i) 0 (aa2 cl2) cl3 ⟨Nat.zero_le _,fun k l h=>by omega⟩ ?_
   rintro i ⟨hi,hni⟩
   by_cases hil:i<l.length
   ·obtain ⟨y,hy⟩:∃ y,l[i]?=some y:=⟨_,List.getElem?_eq_getElem hil⟩
    have hy':l[((i:Nat):Int).toNat]?=some y:=hy
    have hfl:=aI4 hrm hall hl (List.mem_of_getElem? hy)
    obtain ⟨v,hv⟩:∃ v,y[r.field]?=some v:=⟨_,List.getElem?_eq_getElem hfl⟩
    have hv':y[((r.field:Nat):Int).toNat]?=some v:=hv
    have hok:(!refOk w r y)=(decide (v<0) || decide (z.length≤v)):=by simp only [refOk,aa4 hv,aa4 hz];simp
    repeat' (first|refine sk54 ?_|(intro b;conv=>whnf)|(with_reducible refine Br.d (fun hc=>?_) (fun hc=>?_))|(with_reducible refine Br.b (fun hc=>?_) (fun hc=>?_)))
    ·refine Rt.pure (congrArg bD ?_);exact (aD8 hrm (by rw [aa4 hl];exact any_at hy (by rw [hok];simp [*]))).symm
    ·refine Rt.pure (congrArg bD ?_);exact (aD8 hrm (by rw [aa4 hl];exact any_at hy (by rw [hok];simp [*]))).symm
    ·refine ⟨i+1,(aa2 cl2),cl3,⟨by omega,fun m z hm hz=>?_⟩,by omega⟩
     by_cases e:m=i
     ·subst e;cases hy.symm.trans hz;rw [hok];simp;omega
     ·exact hni m z (by omega) hz
   ·obtain rfl:i=l.length:=by omega
    repeat' (first|refine sk54 ?_|(intro b;conv=>whnf))
    refine ⟨q+1,(aa2 cl2),cl3,⟨by omega,fun k r' hk hr2=>?_⟩,by omega⟩
    by_cases e:k=q
    ·subst e;cases hr.symm.trans hr2;rw [aa4 hl];exact any_no (fun i y h h2=>hni i y h h2)
    ·exact hno2 k r' (by omega) hr2
  ·obtain rfl:q=(aa7 x).length:=by omega
   repeat' (first|refine sk54 ?_|(intro b;conv=>whnf))
   refine Rt.pure (congrArg bD ?_)
   rw [fits_yes hlen hall (fun q r h=>hno2 q r (List.getElem?_eq_some_iff.1 h).1 h)]
   unfold bd1
   rw [List.take_of_length_le (Nat.le_refl _)]
end
section
open Go
theorem sk55 {A B:Prop} (k:B) (h:Hd7 B→A:=by intro hk7q;(first|refine sb0 ?_|refine sb1 ?_|((with_reducible refine' Cp.by ?hc ?_);(case hc=>first|exact an0 _ _ (by assumption)|exact bc7 _ _ _ (by assumption) (by assumption)))|((with_reducible refine' CE.pure ?hc ?_);(case hc=>first|exact an0 _ _ (by assumption)|exact bc7 _ _ _ (by assumption) (by assumption))));exact hk7q.run):A:=h ⟨k⟩
theorem aH7 (x:Sch) (i:Int) (f:Fld) (hi:0≤i) (hl:x.kinds.length≤1000000) (hf:∀ k∈x.kinds,k.fields.length≤1000000):APure Tryz.prog 103 [schD x,iD i,fldD f] (.tup [iD (am0 x i f).1,slI (am0 x i f).2]):=by
 refine APure.of_call (aa3 mixed aa0 Tryz.func103 (by kernel_rfl) rfl Tryz.ntmps103 rfl ?_);intro BB
 have hkl:=aQ0 x f.of
 have hno:f.kind≠6∨ab3 x f.of≤i→am0 x i f=(-1,[]):=fun h=>by unfold am0;rw [aJ4 h];rfl
 repeat' (first|refine sk55 ?_|(intro b;conv=>whnf)|refine IxM.mk fun y hy=>?_|(with_reducible refine Br.d (fun hc=>?_) (fun hc=>?_))|(with_reducible refine Br.b (fun hc=>?_) (fun hc=>?_)))
 ·rw [hno (by omega)]
  exact Rt.vs (Vs.tup (VsL.cons (Vs.refl _ _) (VsL.cons (vs_nil _ _) (VsL.nil _))))
 ·obtain ⟨ko,rfl⟩:∃ ko,ko=y:=⟨_,rfl⟩
  have hko:=hy
  clear hy
  have h6:f.kind=6:=by omega
  have hno':=aJ5 (x:=x) (i:=i) h6 (by omega)
  obtain ⟨o,ho⟩:=Int.eq_ofNat_of_zero_le (show 0≤ab3 x f.of by omega)
  rw [ho] at hko
  have hko:x.kinds[o]?=some ko:=hko
  have hS:am0 x i f=((o:Int),aj4 x o i f ko.fields ko.fields.length):=by
   unfold am0;rw [hno',aO0 x i f o ko ho hko,ho];rfl
  have hfk:=hf ko (List.mem_of_getElem? hko)
  rw [ho]
  refine aa6 mixed aa0 (γ:=Nat × Value × aa1) (fun g=>[(9,.v g.2.1),(31,iD g.1)]) (fun g=>g.2.2) (fun g=>g.1≤ko.fields.length∧RowIs 3 1 (slN (aj4 x o i f ko.fields g.1)) g.2.1 g.2.2) (fun g=>ko.fields.length - g.1) (0,.slice none 0 0,[]) rfl cl3 ⟨Nat.zero_le _,RowIs.nil _ _⟩ ?_
  rintro ⟨q,v,s⟩ ⟨hq,hrow⟩
  simp only at hq hrow ⊢
  repeat' (first|refine sk55 ?_|(intro b;conv=>whnf)|refine IxM.mk fun y hy=>?_|(with_reducible refine Br.d (fun hc=>?_) (fun hc=>?_))|(with_reducible refine Br.b (fun hc=>?_) (fun hc=>?_)))
  ·have hsh:at9 x o i f y q=true:=by simp [at9,seq, *]
   have Hs:=ar9 x o i f ko.fields q y hy
   rw [hsh,if_pos rfl] at Hs
   have hlen:=aJ3 x o i f ko.fields (q+1)
   refine Ap.go rfl rfl rfl rfl hrow (perm1 _ _) rfl (zs:=slN (aj4 x o i f ko.fields (q+1))) (by rw [Hs];simp only [slN,List.map_append];rfl) (by simp [slN];omega) (by simp [slN];omega) (fun s'=>_ :: s') (bf9 _) (fun a c s' hr=>?_)
   repeat' (first|refine sk55 ?_|(intro b;conv=>whnf)|refine IxM.mk fun y hy=>?_)
   exact ⟨(q+1,_,s'),rfl,List.Sublist.cons _ (List.Sublist.refl _),⟨by simp only;omega,hr⟩,by simp only;omega⟩
  iterate 3
   have hsh:at9 x o i f y q=false:=by simp [at9,seq, *]
   have Hs:=ar9 x o i f ko.fields q y hy
   rw [hsh,if_neg (by simp),List.append_nil] at Hs
   exact ⟨(q+1,v,s),rfl,List.Sublist.cons _ (List.Sublist.refl _),⟨by simp only;omega,by simp only;rw [Hs];exact hrow⟩,by simp only;omega⟩
  ·obtain rfl:q=ko.fields.length:=by omega
   rw [hS]
   exact Rt.vs (Vs.tup (VsL.cons (Vs.refl _ _) (VsL.cons (Vs.row hrow (as1 _)) (VsL.nil _))))
 ·rw [hno (by omega)]
  exact Rt.vs (Vs.tup (VsL.cons (Vs.refl _ _) (VsL.cons (vs_nil _ _) (VsL.nil _))))
theorem HS1 {x:Sch} {i j:Int} {f:Fld} {o:Int} {l:List Int} (hfa:fieldAt x i j=some f) (hs:am0 x i f=(o,l)):ac6 x i j=aZ1 o l:=by
 simp only [ac6,hfa,hs]
theorem sk56 {A B:Prop} (k:B) (h:Hd7 B→A:=by intro hk7q;(first|refine sb0 ?_|refine sb1 ?_|((with_reducible refine' Cp.by ?hc ?_);(case hc=>first|exact HA|exact HS))|((with_reducible refine' CE.pure ?hc ?_);(case hc=>first|exact HA|exact HS)));exact hk7q.run):A:=h ⟨k⟩
theorem ty_Shares (x:Sch) (i j:Int) (hl:x.kinds.length≤1000000) (hf:∀ k∈x.kinds,k.fields.length≤1000000):APure Tryz.prog 78 [schD x,iD i,iD j] (.tup [iD (ac6 x i j).1,iD (ac6 x i j).2]):=by
 have HA:=bc9 x i j
 cases hfa:fieldAt x i j with
 | none=>
  rw [atR_no hfa] at HA
  refine APure.of_call (aa3 mixed aa0 Tryz.func78 (by kernel_rfl) rfl Tryz.ntmps78 rfl ?_);intro BB
  repeat' (first|refine sk56 ?_|(intro b;conv=>whnf)|(with_reducible refine Br.d (fun hc=>?_) (fun hc=>?_))|(with_reducible refine Br.b (fun hc=>?_) (fun hc=>?_)))
  exact Rt.pure (by simp only [ac6,hfa])
 | some f=>
  rw [atR_fa hfa] at HA
  have HS:=aH7 x i f (af7 hfa).1 hl hf
  rcases hs:am0 x i f with ⟨o,l⟩
  have hsr:=HS1 hfa hs
  rw [hs] at HS
  simp only at HS
  by_cases hl1:l.length=1
  ·obtain ⟨m,rfl⟩:=List.length_eq_one_iff.1 hl1
   refine APure.of_call (aa3 mixed aa0 Tryz.func78 (by kernel_rfl) rfl Tryz.ntmps78 rfl ?_);intro BB
   repeat' (first|refine sk56 ?_|(intro b;conv=>whnf)|(with_reducible refine Br.d (fun hc=>?_) (fun hc=>?_))|(with_reducible refine Br.b (fun hc=>?_) (fun hc=>?_)))
   exact Rt.pure (by rw [hsr];rfl)
  ·have hsr':ac6 x i j=(-1,-1):=by rw [hsr,pick1_no hl1]
   refine APure.of_call (aa3 mixed aa0 Tryz.func78 (by kernel_rfl) rfl Tryz.ntmps78 rfl ?_);intro BB
   repeat' (first|refine sk56 ?_|(intro b;conv=>whnf)|(with_reducible refine Br.d (fun hc=>?_) (fun hc=>?_))|(with_reducible refine Br.b (fun hc=>?_) (fun hc=>?_)))
   exact Rt.pure (by rw [hsr'])
end
section
open Go
theorem aW3 (fs:List (Bool × Int)) (hl:fs.length≤1000):APure Tryz.prog 85 [.sl 2 (fs.map fun p=>[bD p.1,iD p.2])] (iD (ao4 fs)):=by
 refine APure.of_call (aa3 mixed aa0 Tryz.func85 (by kernel_rfl) rfl Tryz.ntmps85 rfl ?_);intro BB
 repeat' (first|refine sk2 ?_|(intro b;conv=>whnf)|refine IxM.mk fun y hy=>?_)
 refine aa6 mixed aa0 (γ:=Nat) (fun q=>[(7,iD q)]) (fun _=>[]) (fun q=>q≤fs.length∧∀ (m:Nat) y,m<q→fs[m]?=some y→y.1=false) (fun q=>fs.length - q) 0 rfl cl3 ⟨by omega,fun m y hm=>by omega⟩ ?_
 rintro q ⟨hq,hno⟩
 repeat' (first|refine sk2 ?_|(intro b;conv=>whnf)|refine IxM.mk fun y hy=>?_|(with_reducible refine Br.d (fun hc=>?_) (fun hc=>?_))|(with_reducible refine Br.b (fun hc=>?_) (fun hc=>?_)))
 ·refine Rt.pure (congrArg iD ?_);exact (firstC_at hno hy (by assumption)).symm
 ·exact ⟨q+1,rfl,cl3,⟨by omega,fun m z hm hz=>by
   by_cases e:m=q
   ·subst e;rw [show ((m:Int)).toNat=m from rfl,hz] at hy;cases hy;assumption
   ·exact hno m z (by omega) hz⟩,by omega⟩
 ·refine Rt.pure (congrArg iD ?_);exact (firstC_none (fun m y hy=>hno m y (by have:=(List.getElem?_eq_some_iff.1 hy).1;omega) hy)).symm
theorem ad2 (b:Bool) (c:Int):APure Tryz.prog 85 [.sl 2 [[bD b,iD c]]] (iD (ao4 [(b,c)])):=aW3 [(b,c)] (by simp)
theorem ad1 (b:Bool) (c:Int) (b':Bool) (c':Int):APure Tryz.prog 85 [.sl 2 [[bD b,iD c],[bD b',iD c']]] (iD (ao4 [(b,c),(b',c')])):=aW3 [(b,c),(b',c')] (by simp)
theorem ap7 (b1 b2 b3 b4:Bool) (c1 c2 c3 c4:Int):APure Tryz.prog 85 [.sl 2 [[bD b1,iD c1],[bD b2,iD c2],[bD b3,iD c3],[bD b4,iD c4]]] (iD (ao4 [(b1,c1),(b2,c2),(b3,c3),(b4,c4)])):=aW3 [(b1,c1),(b2,c2),(b3,c3),(b4,c4)] (by simp)
def spotC (x:Sch) (i j:Int) (f:Fld):List D:=[iD x.version,slK x.kinds,slL x.lives,slR x.rules,iD i,iD j,sD f.name,sD f.of,sD f.up,iD f.kind,iD f.lo,iD f.hi,slS f.words,slI f.weights]
abbrev aW6 (x:Sch) (i j:Int) (f:Fld):D:=.agg (spotC x i j f)
theorem sk57 {A B:Prop} (k:B) (h:Hd7 B→A:=by intro hk7q;(first|refine sb0 ?_|refine sb1 ?_|((with_reducible refine' Cp.by ?hc ?_);(case hc=>exact bc7 x _ _ hl hf))|((with_reducible refine' CE.pure ?hc ?_);(case hc=>exact bc7 x _ _ hl hf)));exact hk7q.run):A:=h ⟨k⟩
theorem aW2 (x:Sch) (i j:Int) (f:Fld) (hl:x.kinds.length≤1000000) (hf:∀ k∈x.kinds,k.fields.length≤1000000):APure Tryz.prog 209 [aW6 x i j f] (bD (decide (upIx x i j<0))):=by
 refine APure.of_call (aa3 mixed aa0 Tryz.func209 (by kernel_rfl) rfl Tryz.ntmps209 rfl ?_);intro BB
 repeat' (first|refine sk57 ?_|(intro b;conv=>whnf))
 refine Rt.pure (congrArg bD ?_);rfl
theorem sk58 {A B:Prop} (k:B) (h:Hd7 B→A:=by intro hk7q;(first|refine sb0 ?_|refine sb1 ?_|((with_reducible refine' Cp.by ?hc ?_);(case hc=>first|exact bc7 x _ _ hl hf|exact HA|exact ak3 _ _ (by assumption)))|((with_reducible refine' CE.pure ?hc ?_);(case hc=>first|exact bc7 x _ _ hl hf|exact HA|exact ak3 _ _ (by assumption))));exact hk7q.run):A:=h ⟨k⟩
theorem ty_top (x:Sch) (i j:Int) (f:Fld) (hl:x.kinds.length≤1000000) (hf:∀ k∈x.kinds,k.fields.length≤1000000):APure Tryz.prog 219 [aW6 x i j f] (.tup [fldD (topR x i j f).1,bD (topR x i j f).2]):=by
 have hul:=aW1 x i j
 refine APure.of_call (aa3 mixed aa0 Tryz.func219 (by kernel_rfl) rfl Tryz.ntmps219 rfl ?_);intro BB
 by_cases hu:upIx x i j<0
 ·have ht:topR x i j f=(aM7,false):=by unfold topR;rw [topF_no hu]
  repeat' (first|refine sk58 ?_|(intro b;conv=>whnf)|(with_reducible refine Br.d (fun hc=>?_) (fun hc=>?_))|(with_reducible refine Br.b (fun hc=>?_) (fun hc=>?_)))
  rw [ht]
  exact Rt.vs (Vs.tup (VsL.cons (Vs.le aG2) (VsL.cons (Vs.refl _ _) (VsL.nil _))))
 ·obtain ⟨ko,hko⟩:∃ ko,x.kinds[(upIx x i j).toNat]?=some ko:=⟨_,List.getElem?_eq_getElem (by omega)⟩
  have hfk:=hf ko (List.mem_of_getElem? hko)
  have htf:=topF_at (f:=f) hu hko
  have HA:=bc9 x (upIx x i j) (ab7 ko f.of)
  have ht:topR x i j f=atR x (upIx x i j) (ab7 ko f.of):=by unfold topR atR;rw [htf]
  repeat' (first|refine sk58 ?_|(intro b;conv=>whnf)|(with_reducible refine Br.d (fun hc=>?_) (fun hc=>?_))|(with_reducible refine Br.b (fun hc=>?_) (fun hc=>?_)))
  rw [ht]
  exact Rt.vs (Vs.refl _ _)
end
end Go.Proofs.YtjbbmjjildhfbaaGreatDoor
