/- A part of the proof: Probs R10 Cs Cd Ha Hb Hc. -/
import Derived.Test.YtjbbmjjildhfbaaGreatDoorP08
set_option maxRecDepth 100000
set_option maxHeartbeats 4000000
set_option linter.unusedVariables false
set_option linter.unusedSimpArgs false
namespace Go.Proofs.YtjbbmjjildhfbaaGreatDoor
section
open Go
abbrev Prb:=Int × Int × Int × Int
def one (k f r e:Int):List Prb:=if e=0 then [] else [(k,f,r,e)]
theorem aN1 (k f r e:Int):(one k f r e).length≤1:=by unfold one;split <;> simp
theorem one0 (k f r:Int):one k f r 0=[]:=by simp [one]
def upTo {α:Type} (q:Nat) (g:Nat→List α):List α:=(List.range q).flatMap g
theorem ag8 {α:Type} (q:Nat) (g:Nat→List α):upTo (q+1) g=upTo q g ++ g q:=by simp [upTo,List.range_succ,List.flatMap_append]
theorem aj1 {α:Type} {g:Nat→List α} {m:Nat} (h:∀ i,(g i).length≤m):∀ q,(upTo q g).length≤q*m
 | 0=>by simp [upTo]
 | q+1=>by rw [ag8,List.length_append,Nat.add_mul];have:=aj1 h q;have:=h q;omega
def al7 (x:Sch) (i:Int) (f:Fld):Int × List Int:=if aj4 x i f then (-1,[]) else (ab3 x f.of,ap7 x i f)
def abvR (x:Sch) (i j:Int) (f:Fld):Int × Fld:=match topF x i j f with
 | none=>(-1,aK5)
 | some g=>(g.kind,g)
def aP8 (x:Sch) (i j:Int) (f:Fld) (up:Int):Int:=
 if up<0 then 12
 else if f.kind=7 then (if (abvR x i j f).1=6∧ab3 x (abvR x i j f).2.of=i then 0 else 13)
 else if (abvR x i j f).1<0∨(abvR x i j f).1=0∨(abvR x i j f).1=1∨(abvR x i j f).1=6∨(abvR x i j f).1=7 then 13 else 0
def dayE (x:Sch) (i j:Int) (f:Fld):Int:=match ad9 x i with
 | none=>0
 | some k=>if isE f.of then 0 else if ab6 k f.of<0∨j≤ab6 k f.of then 12 else match k.fields[(ab6 k f.of).toNat]? with|some g=>if g.kind=4 then 0 else 12|none=>12
def ac2 (x:Sch) (i j:Int) (f:Fld):Int:=
 if f.kind=0∧0<j then 13
 else if f.kind=0∨f.kind=2∨f.kind=3 then 0
 else if f.kind=1 then (if upIx x i j<0 then 12 else 0)
 else if f.kind=4 then dayE x i j f
 else if f.kind=5 then (if x.lives.any (fun l=>seq l.name f.of) then 0 else 12)
 else if f.kind=6 then (if (al7 x i f).1<0 then 12 else if (al7 x i f).2.length=1 then 0 else 11)
 else aP8 x i j f (upIx x i j)
def bf1 (fs:List Fld):Bool:=match fs with | []=>false|f :: _=>decide (f.kind=0)
def aE2 (x:Sch) (i:Nat) (l:Lif):Bool:=(x.lives.take i).any (fun m=>seq m.name l.name)
def aN7 (x:Sch) (i:Nat):List Prb:=match x.lives[i]? with|some l=>one (-1) i (-1) (if aE2 x i l then 7 else 0)|none=>[]
def am9 (x:Sch) (i:Nat) (k:Knd):Int:=if ab3 x k.name<i then 7 else if bf1 k.fields then 0 else 11
def aI5 (x:Sch) (i:Nat) (k:Knd) (j:Nat) (f:Fld):Int:=if ab6 k f.name<j then 7 else ac2 x i j f
def ag3 (x:Sch) (i:Nat) (k:Knd) (j:Nat):List Prb:=match k.fields[j]? with|some f=>one i j (-1) (aI5 x i k j f)|none=>[]
def ak8 (x:Sch) (i:Nat):List Prb:=match x.kinds[i]? with|some k=>one i (-1) (-1) (am9 x i k) ++ upTo k.fields.length (ag3 x i k)|none=>[]
def aQ3 (x:Sch) (i:Nat):List Prb:=match x.rules[i]? with|some r=>one (-1) (-1) i (aw6 x i r)|none=>[]
def af9 (x:Sch):Int:=if al3 x then 0 else 1
def au4 (x:Sch):List Prb:=if af9 x=0 then upTo x.lives.length (aN7 x) ++ upTo x.kinds.length (ak8 x) ++ upTo x.rules.length (aQ3 x) else [(-1,-1,-1,af9 x)]
theorem be4 (x:Sch) (i:Nat):(aN7 x i).length≤1:=by unfold aN7;split;exact aN1 _ _ _ _;simp
theorem aT8 (x:Sch) (i:Nat) (k:Knd) (j:Nat):(ag3 x i k j).length≤1:=by unfold ag3;split;exact aN1 _ _ _ _;simp
theorem ruleP_len (x:Sch) (i:Nat):(aQ3 x i).length≤1:=by unfold aQ3;split;exact aN1 _ _ _ _;simp
theorem kindP_len (x:Sch) (i:Nat) (h:∀ k∈x.kinds,k.fields.length≤10):(ak8 x i).length≤11:=by
 unfold ak8
 split
 ·rename_i k hk
  rw [List.length_append]
  have h1:=aj1 (aT8 x i k) k.fields.length
  have h2:=h k (List.mem_of_getElem? hk)
  have h3:=aN1 i (-1) (-1) (am9 x i k)
  omega
 ·simp
structure Vld (x:Sch):Prop where
 nk:x.kinds.length≤6
 nl:x.lives.length≤6
 nr:x.rules.length≤16
 nf:∀ k∈x.kinds,k.fields.length≤10
 kinds:∀ k∈x.kinds,ak9 k=true
 lives:∀ l∈x.lives,an4 l=true
 rules:∀ r∈x.rules,aq9 r=true
theorem vld_of {x:Sch} (h:al3 x=true):Vld x:=by
 simp only [al3,Bool.and_eq_true,decide_eq_true_eq,List.all_eq_true] at h
 obtain ⟨⟨⟨⟨⟨⟨_,h2⟩,h3⟩,h4⟩,h5⟩,h6⟩,h7⟩:=h
 exact ⟨h2,h3,h4,fun k hk=>by have:=h5 k hk;simp only [ak9,Bool.and_eq_true,decide_eq_true_eq] at this;exact this.1.2,h5,h6,h7⟩
theorem vld_of0 {x:Sch} (h:af9 x=0):Vld x:=by
 unfold af9 at h
 split at h
 ·exact vld_of (by assumption)
 ·omega
end
section
open Go
theorem sb0 {A B:Prop} (k:B) (h:Hd7 B→A:=by intro hk7q;(first|((with_reducible refine W.mk ?_);(conv=>whnf))|(with_reducible refine Br.tt ?_)|(with_reducible refine Br.ff ?_)|(with_reducible refine Br.n ?_)|((with_reducible refine' Br.eq ?h ?_);(case h=>(simp only [List.length_map,List.length_take,List.length_append,List.length_cons,List.length_nil,List.length_replicate,Nat.reduceAdd];exact rfl)))|((with_reducible refine Sd.go ?qs7 ?_);(case qs7=>first|trivial|(constructor <;> omega)|omega|assumption|((try simp only [List.length_map,List.length_take,List.length_append,List.length_cons,List.length_nil,List.length_replicate,Nat.reduceAdd] at *);first|(constructor <;> omega)|omega)))|((with_reducible refine Ck.go ?qs7 ?_);(case qs7=>kernel_rfl))|((with_reducible refine' Ix.mapAt ?hy ?h0 ?_);(case hy=>assumption);(case h0=>omega))|((with_reducible refine' Ix.at ?hy ?h0 ?_);(case hy=>exact rfl);(case h0=>omega))|((with_reducible refine Ix.mapM ?h0 ?_);(case h0=>first|omega|(simp only [List.length_map,List.length_take,List.length_append,List.length_cons,List.length_nil,List.length_replicate,Nat.reduceAdd] at *;omega)))|((with_reducible refine' Ld.at 0 ?h1 ?h2 ?h3 ?_);(case h1=>exact rfl);(case h2=>exact rfl);(case h3=>exact rfl))|((with_reducible refine' Ld.at 1 ?h1 ?h2 ?h3 ?_);(case h1=>exact rfl);(case h2=>exact rfl);(case h3=>exact rfl))|((with_reducible refine' Ld.at 2 ?h1 ?h2 ?h3 ?_);(case h1=>exact rfl);(case h2=>exact rfl);(case h3=>exact rfl))|((with_reducible refine' Sv.at 0 ?h1 ?h2 ?h3 ?h4 ?h5 ?_);(case h1=>exact rfl);(case h2=>exact rfl);(case h3=>exact rfl);(case h4=>exact rfl);(case h5=>exact (by first|(simp only [List.set_cons_succ,List.set_cons_zero,spl,ag4,mkD,List.take_succ_cons,List.take_zero,List.drop_succ_cons,List.drop_zero,List.length_cons,List.length_nil,List.nil_append,List.cons_append,Nat.reduceAdd,Nat.zero_add,List.append_nil,List.map_cons,List.map_nil];rfl)|rfl)))|((with_reducible refine' Sv.at 1 ?h1 ?h2 ?h3 ?h4 ?h5 ?_);(case h1=>exact rfl);(case h2=>exact rfl);(case h3=>exact rfl);(case h4=>exact rfl);(case h5=>exact (by first|(simp only [List.set_cons_succ,List.set_cons_zero,spl,ag4,mkD,List.take_succ_cons,List.take_zero,List.drop_succ_cons,List.drop_zero,List.length_cons,List.length_nil,List.nil_append,List.cons_append,Nat.reduceAdd,Nat.zero_add,List.append_nil,List.map_cons,List.map_nil];rfl)|rfl)))|((with_reducible refine' Sv.at 2 ?h1 ?h2 ?h3 ?h4 ?h5 ?_);(case h1=>exact rfl);(case h2=>exact rfl);(case h3=>exact rfl);(case h4=>exact rfl);(case h5=>exact (by first|(simp only [List.set_cons_succ,List.set_cons_zero,spl,ag4,mkD,List.take_succ_cons,List.take_zero,List.drop_succ_cons,List.drop_zero,List.length_cons,List.length_nil,List.nil_append,List.cons_append,Nat.reduceAdd,Nat.zero_add,List.append_nil,List.map_cons,List.map_nil];rfl)|rfl)))|((with_reducible refine' Ot.yd ?hyd ?_);(case hyd=>first|(refine' yd_sidx aa0 rfl rfl rfl rfl rfl ?hc ?h0;(case hc=>assumption);(case h0=>omega))|(refine yd_slto aa0 rfl rfl rfl rfl rfl ?_;first|omega|(simp only [List.length_map,List.length_take,List.length_append,List.length_cons,List.length_nil,List.length_replicate,Nat.reduceAdd];omega))|(refine aU7 aa0 rfl rfl rfl rfl rfl ?_;omega)|exact yd_bne rfl rfl rfl Tryz.underlying4|exact yd_min rfl rfl rfl|exact yd_max rfl rfl rfl))|((with_reducible refine' Rs.tc aa0 (m:=0) ?h ?hi ?hj ?hb ?ht ?hag ?hs ?_);(case h=>exact rfl);(case hi=>exact rfl);(case hj=>exact rfl);(case hb=>exact rfl);(case ht=>exact rfl);(case hag=>exact rfl);(case hs=>exact rfl))|((with_reducible refine' Rs.ct aa0 (m:=0) ?h ?hi ?hj ?hb ?ht ?hag ?hs ?_);(case h=>exact rfl);(case hi=>exact rfl);(case hj=>exact rfl);(case hb=>exact rfl);(case ht=>exact rfl);(case hag=>exact rfl);(case hs=>exact rfl))|((with_reducible refine' Rs.c aa0 (m:=0) ?h ?hj ?hb ?ht ?hag ?hs ?_);(case h=>exact rfl);(case hj=>exact rfl);(case hb=>exact rfl);(case ht=>exact rfl);(case hag=>exact rfl);(case hs=>exact rfl))|((with_reducible refine Br.dt ?h ?_);(case h=>omega))|((with_reducible refine Br.df ?h ?_);(case h=>omega))|((with_reducible refine Br.t ?h ?_);(case h=>assumption))|((with_reducible refine Br.f ?h ?_);(case h=>assumption))|((with_reducible refine Br.t ?h ?_);(case h=>(refine decide_eq_true ?_;omega)))|((with_reducible refine Br.f ?h ?_);(case h=>(refine decide_eq_false ?_;omega))));exact hk7q.run):A:=h ⟨k⟩
theorem sb1 {A B:Prop} (k:B) (h:Hd7 B→A:=by intro hk7q;(first|(with_reducible refine Bc.l ?_)|(with_reducible refine Bx.l ?_)|((with_reducible refine Dr.l ?h ?_);(case h=>decide +kernel))|(with_reducible refine Dr.r ?_)|((with_reducible refine Dm.l ?h ?_);(case h=>decide +kernel))|((with_reducible refine Cb.go ?h ?_);(case h=>decide +kernel)));exact hk7q.run):A:=h ⟨k⟩
theorem sk2 {A B:Prop} (k:B) (h:Hd7 B→A:=by intro hk7q;(first|refine sb0 ?_|refine sb1 ?_|((with_reducible refine' Cp.by ?hc ?_);(case hc=>fail))|((with_reducible refine' CE.pure ?hc ?_);(case hc=>fail)));exact hk7q.run):A:=h ⟨k⟩
theorem ak2 (x:Sch) (nm:ByteArray) (hl:x.kinds.length≤1000000):APure Tryz.prog 75 [schD x,sD nm] (iD (ab3 x nm)):=by
 refine APure.of_call (aa4 mixed aa0 Tryz.func75 (by kernel_rfl) rfl Tryz.ntmps75 rfl ?_);intro BB
 repeat' (first|refine sk2 ?_|(intro b;conv=>whnf)|refine IxM.mk fun y hy=>?_)
 refine ak7 mixed aa0 (γ:=Nat) (fun k=>[(5,iD k)]) (fun _=>[]) (fun k=>k≤x.kinds.length∧∀ i y,i<k→x.kinds[i]?=some y→seq y.name nm=false) (fun k=>x.kinds.length - k) 0 rfl rfl ⟨by omega,by omega⟩ ?_
 rintro k ⟨hk,hno⟩
 repeat' (first|refine sk2 ?_|(intro b;conv=>whnf)|refine IxM.mk fun y hy=>?_|(with_reducible refine Br.d (fun hc=>?_) (fun hc=>?_))|(with_reducible refine Br.b (fun hc=>?_) (fun hc=>?_)))
 ·refine Rt.pure (congrArg iD ?_)
  exact (ad6 hy ‹_› hno).symm
 ·exact ⟨k+1,rfl,rfl,⟨by omega,fun i z hi hz=>by
   by_cases e:i=k
   ·subst e;rw [show ((i:Int)).toNat=i from rfl,hz] at hy;cases hy;assumption
   ·exact hno i z (by omega) hz⟩,by omega⟩
 ·refine Rt.pure (congrArg iD ?_)
  exact (an9 fun i y hy=>hno i y (by have:=(List.getElem?_eq_some_iff.1 hy).1;omega) hy).symm
def hasB (x:Sch) (i j:Int):Bool:=(fieldAt x i j).isSome
theorem aj7 {x:Sch} {i j:Int} (h:i<0∨(x.kinds.length:Int)≤i∨j<0):fieldAt x i j=none:=by
 unfold fieldAt ad9
 by_cases hi:0≤i
 ·rw [if_pos hi]
  cases hk:x.kinds[i.toNat]? with
  | none=>rfl
  | some k=>
   have:=(List.getElem?_eq_some_iff.1 hk).1
   simp only
   rw [if_neg (by omega)]
 ·rw [if_neg hi]
theorem ah9 {x:Sch} {i j:Int} {k:Knd} (h0:0≤i) (h1:0≤j) (hk:x.kinds[i.toNat]?=some k):fieldAt x i j=k.fields[j.toNat]?:=by
 unfold fieldAt ad9
 rw [if_pos h0,hk]
 simp only
 rw [if_pos h1]
theorem ai1 (k:Knd) (nm:ByteArray) (hl:k.fields.length≤1000000):APure Tryz.prog 74 [kndD k,sD nm] (iD (ab6 k nm)):=by
 refine APure.of_call (aa4 mixed aa0 Tryz.func74 (by kernel_rfl) rfl Tryz.ntmps74 rfl ?_);intro BB
 repeat' (first|refine sk2 ?_|(intro b;conv=>whnf)|refine IxM.mk fun y hy=>?_)
 refine ak7 mixed aa0 (γ:=Nat) (fun q=>[(5,iD q)]) (fun _=>[]) (fun q=>q≤k.fields.length∧∀ i y,i<q→k.fields[i]?=some y→seq y.name nm=false) (fun q=>k.fields.length - q) 0 rfl rfl ⟨by omega,by omega⟩ ?_
 rintro q ⟨hq,hno⟩
 repeat' (first|refine sk2 ?_|(intro b;conv=>whnf)|refine IxM.mk fun y hy=>?_|(with_reducible refine Br.d (fun hc=>?_) (fun hc=>?_))|(with_reducible refine Br.b (fun hc=>?_) (fun hc=>?_)))
 ·refine Rt.pure (congrArg iD ?_)
  exact (ad6 hy ‹_› hno).symm
 ·exact ⟨q+1,rfl,rfl,⟨by omega,fun i z hi hz=>by
   by_cases e:i=q
   ·subst e;rw [show ((i:Int)).toNat=i from rfl,hz] at hy;cases hy;assumption
   ·exact hno i z (by omega) hz⟩,by omega⟩
 ·refine Rt.pure (congrArg iD ?_)
  exact (an9 fun i y hy=>hno i y (by have:=(List.getElem?_eq_some_iff.1 hy).1;omega) hy).symm
theorem aG1 (x:Sch) (i j:Int):APure Tryz.prog 73 [schD x,iD i,iD j] (bD (hasB x i j)):=by
 refine APure.of_call (aa4 mixed aa0 Tryz.func73 (by kernel_rfl) rfl Tryz.ntmps73 rfl ?_);intro BB
 repeat' (first|refine sk2 ?_|(intro b;conv=>whnf)|refine IxM.mk fun y hy=>?_|(with_reducible refine Br.d (fun hc=>?_) (fun hc=>?_))|(with_reducible refine Br.b (fun hc=>?_) (fun hc=>?_)))
 ·refine Rt.pure (congrArg bD ?_)
  simp [hasB,aj7 (x:=x) (i:=i) (j:=j) (by omega)]
 ·refine Rt.pure (congrArg bD ?_)
  simp [hasB,aj7 (x:=x) (i:=i) (j:=j) (by omega)]
 ·refine Rt.pure (congrArg bD ?_)
  simp [hasB,aj7 (x:=x) (i:=i) (j:=j) (by omega)]
 ·refine Rt.pure (congrArg bD ?_)
  rw [hasB,ah9 (by omega) (by omega) hy]
  by_cases hlt:j<y.fields.length
  ·rw [List.getElem?_eq_getElem (by omega)];simpa using hlt
  ·rw [List.getElem?_eq_none (by omega)];simpa using hlt
theorem ae3 {x:Sch} {i j:Int} {f:Fld} (h:fieldAt x i j=some f):0≤i∧0≤j∧∃ k,x.kinds[i.toNat]?=some k∧k.fields[j.toNat]?=some f:=by
 unfold fieldAt ad9 at h
 by_cases hi:0≤i
 ·rw [if_pos hi] at h
  cases hk:x.kinds[i.toNat]? with
  | none=>simp [hk] at h
  | some k=>
   simp only [hk] at h
   by_cases hj:0≤j
   ·rw [if_pos hj] at h;exact ⟨hi,hj,k,rfl,h⟩
   ·rw [if_neg hj] at h;cases h
 ·rw [if_neg hi] at h;cases h
theorem aF6 {x:Sch} {i j:Int} {f:Fld} {k:Knd} (hfa:fieldAt x i j=some f) (hka:ad9 x i=some k):upIx x i j=if f.kind=7∨f.kind=8 then au6 x i (aD4 (ab6 k f.up) j (fieldAt x i (ab6 k f.up))) else if f.kind=1 then refUp x i f else -1:=by
 simp only [upIx,hfa,upField,hka]
theorem aq0 (k:Knd) (nm:ByteArray):ab6 k nm<k.fields.length:=aT3 _ _
theorem aN9 (x:Sch) (nm:ByteArray):ab3 x nm<x.kinds.length:=aT3 _ _
theorem sk3 {A B:Prop} (k:B) (h:Hd7 B→A:=by intro hk7q;(first|refine sb0 ?_|refine sb1 ?_|((with_reducible refine' Cp.by ?hc ?_);(case hc=>first|exact aG1 _ _ _|exact ak2 _ _ (by assumption)|exact ai1 _ _ (by assumption)))|((with_reducible refine' CE.pure ?hc ?_);(case hc=>first|exact aG1 _ _ _|exact ak2 _ _ (by assumption)|exact ai1 _ _ (by assumption))));exact hk7q.run):A:=h ⟨k⟩
theorem aC8 (x:Sch) (i j:Int) (hl:x.kinds.length≤1000000) (hf:∀ k∈x.kinds,k.fields.length≤1000000):APure Tryz.prog 53 [schD x,iD i,iD j] (iD (upIx x i j)):=by
 refine APure.of_call (aa4 mixed aa0 Tryz.func53 (by kernel_rfl) rfl Tryz.ntmps53 rfl ?_);intro BB
 cases hfa:fieldAt x i j with
 | none=>
  have hh:hasB x i j=false:=by simp [hasB,hfa]
  repeat' (first|refine sk3 ?_|(intro b;conv=>whnf))
  refine Rt.pure (congrArg iD ?_);simp [upIx,hfa]
 | some f=>
  have hh:hasB x i j=true:=by simp [hasB,hfa]
  obtain ⟨h0,h1,k,hk,hkf⟩:=ae3 hfa
  have hfk:=hf k (List.mem_of_getElem? hk)
  have hka:ad9 x i=some k:=by simp [ad9,h0,hk]
  have hlt:=aq0 k f.up
  have hU:=aF6 hfa hka
  cases hg:fieldAt x i (ab6 k f.up) with
  | none=>
   have hneg:ab6 k f.up<0:=by
    refine Int.not_le.1 fun h=>?_
    rw [ah9 h0 h hk,List.getElem?_eq_getElem (by omega)] at hg;cases hg
   simp only [hg,aD4,au6] at hU
   repeat' (first|refine sk3 ?_|(intro b;conv=>whnf)|(with_reducible refine Br.d (fun hc=>?_) (fun hc=>?_))|(with_reducible refine Br.b (fun hc=>?_) (fun hc=>?_)))
   all_goals (refine Rt.pure (congrArg iD ?_);rw [hU];unfold refUp;(repeat' split) <;> first|rfl|omega)
  | some g=>
   obtain ⟨_,hpos,k',hk',hg0⟩:=ae3 hg
   obtain rfl:k=k':=by rw [hk] at hk';exact Option.some.inj hk'
   simp only [hg,aD4] at hU
   repeat' (first|refine sk3 ?_|(intro b;conv=>whnf)|(with_reducible refine Br.d (fun hc=>?_) (fun hc=>?_))|(with_reducible refine Br.b (fun hc=>?_) (fun hc=>?_)))
   all_goals (refine Rt.pure (congrArg iD ?_);rw [hU];unfold refUp;(repeat' split) <;> first|rfl|omega|(unfold au6;simp only;unfold refUp;(repeat' split) <;> first|rfl|omega))
end
section
open Go
abbrev Wd:=List (List (List Int))
abbrev Sb:=List (List Bool)
structure Rf where
 kind:Nat
 field:Nat
 up:Int
 least:Int
def refF (x:Sch) (k:Nat) (kd:Knd) (i:Nat):List Rf:=match kd.fields[i]? with
 | some f=>if f.kind=1 then [⟨k,i,upIx x k i,f.lo⟩] else []
 | none=>[]
def refK (x:Sch) (k:Nat):List Rf:=match x.kinds[k]? with
 | some kd=>upTo kd.fields.length (refF x k kd)
 | none=>[]
def aa6 (x:Sch):List Rf:=upTo x.kinds.length (refK x)
theorem aW4 (x:Sch) (k:Nat) (kd:Knd) (i:Nat):(refF x k kd i).length≤1:=by unfold refF;split <;> (try split) <;> simp
theorem aW3 (x:Sch) (k:Nat) (h:∀ k∈x.kinds,k.fields.length≤1000):(refK x k).length≤1000:=by
 unfold refK
 split
 ·rename_i kd hk
  have h1:=aj1 (aW4 x k kd) kd.fields.length
  have h2:=h kd (List.mem_of_getElem? hk)
  omega
 ·simp
theorem az4 {α:Type} {q:Nat} {g:Nat→List α} {a:α}:a∈upTo q g↔∃ i,i<q∧a∈g i:=by
 unfold upTo;rw [List.mem_flatMap];constructor
 ·rintro ⟨i,hi,ha⟩;exact ⟨i,List.mem_range.1 hi,ha⟩
 ·rintro ⟨i,hi,ha⟩;exact ⟨i,List.mem_range.2 hi,ha⟩
theorem az5 {x:Sch} {r:Rf} (h:r∈aa6 x):∃ kd f,x.kinds[r.kind]?=some kd∧kd.fields[r.field]?=some f∧f.kind=1∧r.up=upIx x r.kind r.field∧r.least=f.lo:=by
 obtain ⟨k,hk,h⟩:=az4.1 h
 unfold refK at h
 split at h
 ·rename_i kd hkd
  obtain ⟨i,hi,h⟩:=az4.1 h
  unfold refF at h
  split at h
  ·rename_i f hf
   split at h
   ·rename_i h1
    rw [List.mem_singleton] at h
    subst h
    exact ⟨kd,f,hkd,hf,h1,rfl,rfl⟩
   ·cases h
  ·cases h
 ·cases h
def ar5 (w:Wd) (k i:Nat):List Int:=(w.getD k []).getD i []
def am0 (w:Wd) (k i f:Nat):Int:=(ar5 w k i).getD f 0
def keptB (s:Sb) (k i:Nat):Bool:=(s.getD k []).getD i false
def ah6 (s:Sb) (k i:Nat):Sb:=s.set k ((s.getD k []).set i false)
def refOk (w:Wd) (r:Rf) (l:List Int):Bool:=!(decide (l.getD r.field 0<0) || decide ((w.getD r.up.toNat []).length≤l.getD r.field 0))
def lenOk (x:Sch) (k:Nat) (l:List Int):Bool:=decide (l.length=(match x.kinds[k]? with|some kd=>kd.fields.length|none=>0))
def be7 (x:Sch) (w:Wd):Bool:=(List.range w.length).all fun k=>(w.getD k []).all (lenOk x k)
def aA6 (w:Wd):Nat:=(w.map List.length).sum
def aw8 (x:Sch) (w:Wd):Bool:=decide (w.length=x.kinds.length) && be7 x w && (aa6 x).all (fun r=>(w.getD r.kind []).all (refOk w r)) && decide (aA6 w≤512)
def ap2 (w:Wd) (s:Sb):Bool:=decide (w.map List.length=s.map List.length)
def ab8 (x:Sch) (w:Wd) (s:Sb):Int:=if (au4 x).length≠0 then 1 else if aw8 x w=false then 2 else if ap2 w s=false then 1 else 0
def al8 (s:Sb):Nat:=(s.map (fun l=>l.countP id)).sum
def ad4 (w:Wd) (s:Sb) (r:Rf) (i:Int):Nat:=(List.range (w.getD r.kind []).length).countP fun j=>keptB s r.kind j && decide (am0 w r.kind j r.field=i)
def aA4 (w:Wd) (s:Sb) (k i:Nat) (r:Rf):Bool:=(decide (r.kind=k) && !keptB s r.up.toNat (am0 w k i r.field).toNat) || (decide (r.up=k) && decide ((ad4 w s r i:Int)<r.least))
def aw3 (x:Sch) (w:Wd) (s:Sb) (k i:Nat):Bool:=(aa6 x).any (aA4 w s k i)
def aw7 (s:Sb):List (Nat × Nat):=upTo s.length fun k=>(List.range (s.getD k []).length).map fun i=>(k,i)
def ae5 (s:Sb):List (Nat × Nat):=(aw7 s).filter fun p=>keptB s p.1 p.2
def ad8 (x:Sch) (w:Wd) (t:Sb × Bool) (p:Nat × Nat):Sb × Bool:=if keptB t.1 p.1 p.2 && aw3 x w t.1 p.1 p.2 then (ah6 t.1 p.1 p.2,true) else t
def al4 (x:Sch) (w:Wd) (s:Sb):Sb × Bool:=(aw7 s).foldl (ad8 x w) (s,false)
def ax1 (x:Sch) (w:Wd):Nat→Sb→Sb
 | 0,s=>s
 | n+1,s=>if (al4 x w s).2 then ax1 x w n (al4 x w s).1 else (al4 x w s).1
def ah0 (x:Sch) (w:Wd) (s:Sb):Sb:=ax1 x w (al8 s+1) s
def ai0 (x:Sch) (w:Wd) (s:Sb):Bool:=decide (ab8 x w s=0) && (aw7 s).all fun p=>!(keptB s p.1 p.2 && aw3 x w s p.1 p.2)
def ai4 (w:Wd):Sb:=w.map fun l=>List.replicate l.length true
def ao6 (s:Sb) (k i:Int):Bool:=decide (0≤k) && decide (0≤i) && keptB s k.toNat i.toNat
def aI1 (x:Sch) (w:Wd) (s:Sb):Sb × Int:=if ab8 x w s≠0 then ([],ab8 x w s) else (ah0 x w s,0)
def ad1 (x:Sch) (w:Wd) (s:Sb) (k i:Int):Sb × Int:=
 if ab8 x w s≠0 then ([],ab8 x w s) else if ao6 s k i=false then ([],6) else (ah0 x w (ah6 s k.toNat i.toNat),0)
def am2 (x:Sch) (w:Wd) (s:Sb) (k i:Int):List (Nat × Nat) × Int:=
 if (ad1 x w s k i).2≠0 then ([],(ad1 x w s k i).2) else ((ae5 s).filter (fun p=>!keptB (ad1 x w s k i).1 p.1 p.2),0)
def sameLens (a b:Sb):Bool:=decide (a.map List.length=b.map List.length)
/-! ### Laws -/
theorem aa3 {α:Type} {l:List α} {i:Nat} {a:α} (h:l[i]?=some a) (d:α):l.getD i d=a:=by simp [List.getD_eq_getElem?_getD,h]
theorem aw2 (s:Sb) (k i:Nat):(ah6 s k i).length=s.length:=by simp [ah6]
theorem clearB_row (s:Sb) (k i j:Nat):((ah6 s k i).getD j []).length=(s.getD j []).length:=by
 unfold ah6
 simp only [List.getD_eq_getElem?_getD,List.getElem?_set]
 by_cases h:k=j
 ·subst h
  by_cases hl:k<s.length
  ·simp [hl]
  ·simp [hl]
 ·simp [h]
theorem aq7 (s:Sb) (k i k' i':Nat):keptB (ah6 s k i) k' i'=(keptB s k' i' && !(decide (k=k') && decide (i=i'))):=by
 unfold keptB ah6
 simp only [List.getD_eq_getElem?_getD,List.getElem?_set]
 by_cases h:k=k'
 ·subst h
  by_cases hl:k<s.length
  ·simp only [if_pos,hl,Option.getD_some,List.getElem?_set,decide_true,Bool.true_and]
   by_cases hi:i=i'
   ·subst hi
    simp [hl]
    split <;> rfl
   ·simp [hi]
  ·simp [hl]
 ·simp [h]
theorem posOf_clear (s:Sb) (k i:Nat):aw7 (ah6 s k i)=aw7 s:=by
 unfold aw7
 rw [aw2]
 unfold upTo
 congr 1
 funext j
 rw [clearB_row]
theorem be3 {s:Sb} {p:Nat × Nat}:p∈aw7 s↔p.1<s.length∧p.2<(s.getD p.1 []).length:=by
 unfold aw7
 rw [az4]
 constructor
 ·rintro ⟨k,hk,h⟩
  obtain ⟨i,hi,rfl⟩:=List.mem_map.1 h
  exact ⟨hk,List.mem_range.1 hi⟩
 ·rintro ⟨h1,h2⟩
  exact ⟨p.1,h1,List.mem_map.2 ⟨p.2,List.mem_range.2 h2,rfl⟩⟩
theorem aB1 (s:Sb):(aw7 s).Nodup:=by
 unfold aw7 upTo
 refine List.pairwise_flatMap.2 ⟨fun k _=>?_,?_⟩
 ·exact List.pairwise_map.2 (List.nodup_range.imp fun h e=>h (by cases e;rfl))
 ·refine List.pairwise_iff_getElem.2 fun i j hi hj hij=>?_
  simp only [List.getElem_range]
  intro p h1 q h2 e
  subst e
  obtain ⟨a,_,rfl⟩:=List.mem_map.1 h1
  obtain ⟨b,_,e⟩:=List.mem_map.1 h2
  cases e
  omega
theorem ax9 {s:Sb} {p:Nat × Nat} (h:keptB s p.1 p.2=true):p∈aw7 s:=by
 rw [be3]
 unfold keptB at h
 simp only [List.getD_eq_getElem?_getD] at h ⊢
 cases h1:s[p.1]? with
 | none=>simp [h1] at h
 | some l=>
  have hl:=(List.getElem?_eq_some_iff.1 h1).1
  simp only [h1,Option.getD_some] at h ⊢
  refine ⟨hl,?_⟩
  cases h2:l[p.2]? with
  | none=>simp [h2] at h
  | some b=>exact (List.getElem?_eq_some_iff.1 h2).1
theorem bg3 {l:List Bool}:l.countP id=(List.range l.length).countP fun i=>l.getD i false:=by
 induction l with
 | nil=>rfl
 | cons b l ih=>
  rw [List.length_cons,List.range_succ_eq_map,List.countP_cons,List.countP_cons,List.countP_map,ih]
  simp [Function.comp_def]
theorem aC7 (s:Sb):al8 s=(ae5 s).length:=by
 unfold al8 ae5
 rw [← List.countP_eq_length_filter]
 unfold aw7 upTo
 rw [List.countP_flatMap]
 congr 1
 apply List.ext_getElem?
 intro k
 simp only [List.getElem?_map]
 by_cases hk:k<s.length
 ·rw [List.getElem?_eq_getElem hk,List.getElem?_range hk]
  simp only [Option.map_some,Option.some.injEq,Function.comp_apply]
  have:s.getD k []=s[k]:=by simp [List.getD_eq_getElem?_getD,hk]
  rw [bg3,this,List.countP_map]
  simp only [Function.comp_def,keptB,this]
 ·simp [hk]
end
section
open Go
def rfC (r:Rf):List D:=[iD r.kind,iD r.field,iD r.up,iD r.least]
def slRf (l:List Rf):D:=.sl 4 (l.map rfC)
def slW1 (l:List (List Int)):D:=.sl 1 (l.map fun r=>[slI r])
def slW (w:Wd):D:=.sl 1 (w.map fun l=>[slW1 l])
def slB (l:List Bool):D:=.sl 1 (l.map fun b=>[bD b])
def slS2 (s:Sb):D:=.sl 1 (s.map fun l=>[slB l])
def atC (k i:Int):List D:=[iD k,iD i]
abbrev atD (k i:Int):D:=.agg (atC k i)
def slAt (l:List (Nat × Nat)):D:=.sl 2 (l.map fun p=>atC p.1 p.2)
end
section
open Go
def I64n (n:Int):Prop:=-9223372036854775808≤n∧n≤9223372036854775807
def posN (a:Int):Int:=if a<0 then -(a+1) else a
def arE (a n:Int):Int:=if n<1 then 0 else (posN a).tmod n
def atE (xs:List Int) (i n:Int):Int:=if i<0∨xs.length≤i then 0 else arE (xs.getD i.toNat 0) n
theorem arE_in (a n:Int):0≤arE a n∧(1≤n→arE a n<n)∧(n<1→arE a n=0):=by
 unfold arE
 have hp:0≤posN a:=by unfold posN;split <;> omega
 split
 ·exact ⟨by omega,fun h=>by omega,fun _=>rfl⟩
 ·refine ⟨Int.tmod_nonneg _ hp,fun h=>Int.tmod_lt_of_pos _ (by omega),fun h=>by omega⟩
theorem ae0 (xs:List Int) (i n:Int):0≤atE xs i n∧(1≤n→atE xs i n<n):=by
 unfold atE
 split
 ·exact ⟨by omega,fun h=>by omega⟩
 ·have:=arE_in (xs.getD i.toNat 0) n
  exact ⟨this.1,this.2.1⟩
theorem aa5 (a n:Int) (ha:I64n a):APure Tryz.prog 11 [iD a,iD n] (iD (arE a n)):=by
 obtain ⟨h1,h2⟩:=ha
 refine APure.of_call (aa4 mixed aa0 Tryz.func11 (by kernel_rfl) rfl Tryz.ntmps11 rfl ?_);intro BB
 repeat' (first|refine sk2 ?_|(intro b;conv=>whnf)|(with_reducible refine Br.d (fun hc=>?_) (fun hc=>?_))|(with_reducible refine Br.b (fun hc=>?_) (fun hc=>?_)))
 all_goals
  refine Rt.pure (congrArg iD ?_)
  unfold arE posN
  simp [*]
def I64s (xs:List Int):Prop:=(∀ x∈xs,I64n x)∧xs.length≤140737488355328
theorem sk4 {A B:Prop} (k:B) (h:Hd7 B→A:=by intro hk7q;(first|refine sb0 ?_|refine sb1 ?_|((with_reducible refine' Cp.by ?hc ?_);(case hc=>exact HA))|((with_reducible refine' CE.pure ?hc ?_);(case hc=>exact HA)));exact hk7q.run):A:=h ⟨k⟩
theorem bd4 (xs:List Int) (hx:I64s xs) (i n:Int):APure Tryz.prog 52 [slI xs,iD i,iD n] (iD (atE xs i n)):=by
 have hxl:=hx.2
 by_cases h0:i<0
 ·have HA:=True.intro
  refine APure.of_call (aa4 mixed aa0 Tryz.func52 (by kernel_rfl) rfl Tryz.ntmps52 rfl ?_);intro BB
  repeat' (first|refine sk4 ?_|(intro b;conv=>whnf))
  refine Rt.pure (congrArg iD ?_)
  unfold atE;rw [if_pos (.inl h0)]
 ·by_cases h1:i.toNat<xs.length
  ·obtain ⟨a,ha⟩:∃ a,xs[i.toNat]?=some a:=⟨_,List.getElem?_eq_getElem h1⟩
   have HA:=aa5 a n (hx.1 a (List.mem_of_getElem? ha))
   refine APure.of_call (aa4 mixed aa0 Tryz.func52 (by kernel_rfl) rfl Tryz.ntmps52 rfl ?_);intro BB
   repeat' (first|refine sk4 ?_|(intro b;conv=>whnf))
   refine Rt.pure (congrArg iD ?_)
   unfold atE;rw [if_neg (by omega)]
   simp [List.getD_eq_getElem?_getD,ha]
  ·have HA:=True.intro
   refine APure.of_call (aa4 mixed aa0 Tryz.func52 (by kernel_rfl) rfl Tryz.ntmps52 rfl ?_);intro BB
   repeat' (first|refine sk4 ?_|(intro b;conv=>whnf))
   refine Rt.pure (congrArg iD ?_)
   unfold atE;rw [if_pos (by omega)]
abbrev mkB (b:Nat) (xs:List Int) (pos:Int):Nat × Blk:=(b,.cells 93 [slI xs,iD pos])
abbrev ptr (b:Nat):D:=.v (.pointer (some ⟨b,0,none⟩))
theorem ACall.imp {P:Program} {f:FuncId} {args:List D} {σ:aa1} {R R':D→aa1→Prop} (h:ACall P f args σ R) (k:∀ d s,R d s→R' d s):ACall P f args σ R':=
 ⟨h.ent,fun w X vs hv hs=>(h.run w X vs hv hs).mono fun e w' ⟨u,d,s,g1,g2,g3⟩=>⟨u,d,s,g1,k d s g2,g3⟩⟩
theorem aa7 (xs:List Int) (hx:I64s xs) (bm:Nat) (pos n:Int) (hp:0≤pos∧pos≤1000000000):ACall Tryz.prog 49 [ptr bm,iD n] [mkB bm xs pos] (fun d σ=>d=iD (atE xs pos n)∧σ=[mkB bm xs (pos+1)]):=by
 have HA:=bd4 xs hx (pos+1 - 1) n
 refine aa4 mixed aa0 Tryz.func49 (by kernel_rfl) rfl Tryz.ntmps49 rfl ?_;intro BB
 repeat' (first|refine sk4 ?_|(intro b;conv=>whnf))
 refine Rt.same ⟨?_,rfl⟩
 rw [show pos+1 - 1=pos by omega]
theorem am3 (xs:List Int) (hx:I64s xs) (bm:Nat) (pos n:Int) (hp:0≤pos∧pos≤1000000000):ACall Tryz.prog 49 [ptr bm,iD n] [mkB bm xs pos] (fun d σ=>∃ r,d=iD r∧(0≤r∧(1≤n→r<n))∧σ=[mkB bm xs (pos+1)]):=
 (aa7 xs hx bm pos n hp).imp fun d s ⟨h1,h2⟩=>⟨_,h1,ae0 xs pos n,h2⟩
end
section
open Go
def am4 (l:List Fld) (nm:ByteArray):Int:=idx (fun f=>seq f.name nm) l
def ao4 (n:Int):Bool:=!decide (n=0) && !decide (n=1) && !decide (n=6) && !decide (n=7)
def ap5 (k:Knd):Int:=idx (fun f=>ao4 f.kind) k.fields
theorem aM7 (l:List Fld) (nm:ByteArray) (hl:l.length≤1000000):APure Tryz.prog 71 [slF l,sD nm] (iD (am4 l nm)):=by
 refine APure.of_call (aa4 mixed aa0 Tryz.func71 (by kernel_rfl) rfl Tryz.ntmps71 rfl ?_);intro BB
 repeat' (first|refine sk2 ?_|(intro b;conv=>whnf)|refine IxM.mk fun y hy=>?_)
 refine ak7 mixed aa0 (γ:=Nat) (fun q=>[(5,iD q)]) (fun _=>[]) (fun q=>q≤l.length∧∀ i y,i<q→l[i]?=some y→seq y.name nm=false) (fun q=>l.length - q) 0 rfl rfl ⟨by omega,by omega⟩ ?_
 rintro q ⟨hq,hno⟩
 repeat' (first|refine sk2 ?_|(intro b;conv=>whnf)|refine IxM.mk fun y hy=>?_|(with_reducible refine Br.d (fun hc=>?_) (fun hc=>?_))|(with_reducible refine Br.b (fun hc=>?_) (fun hc=>?_)))
 ·refine Rt.pure (congrArg iD ?_)
  exact (ad6 hy ‹_› hno).symm
 ·exact ⟨q+1,rfl,rfl,⟨by omega,fun i z hi hz=>by
   by_cases e:i=q
   ·subst e;rw [show ((i:Int)).toNat=i from rfl,hz] at hy;cases hy;assumption
   ·exact hno i z (by omega) hz⟩,by omega⟩
 ·refine Rt.pure (congrArg iD ?_)
  exact (an9 fun i y hy=>hno i y (by have:=(List.getElem?_eq_some_iff.1 hy).1;omega) hy).symm
theorem cl2 {p:Prop} (h:p:=by repeat (first|exact Chk.nil|refine Chk.cons rfl ?_)):p:=h
theorem cl3 {p:Prop} (h:p:=by repeat (first|exact List.Sublist.refl _|exact List.nil_sublist _|apply List.Sublist.cons)):p:=h
theorem r09_copied (k:Knd) (hl:k.fields.length≤1000000):APure Tryz.prog 70 [kndD k] (iD (ap5 k)):=by
 refine APure.of_call (aa4 mixed aa0 Tryz.func70 (by kernel_rfl) rfl Tryz.ntmps70 rfl ?_);intro BB
 repeat' (first|refine sk2 ?_|(intro b;conv=>whnf))
 refine aa9 mixed aa0 (γ:=Nat) (fun q=>[(3,iD q)]) (fun _=>[]) (fun q=>q≤k.fields.length∧∀ i y,i<q→k.fields[i]?=some y→ao4 y.kind=false) (fun q=>k.fields.length - q) 0 (aa2 cl2) cl3 ⟨by omega,by omega⟩ ?_
 rintro q ⟨hq,hno⟩
 by_cases hql:q<k.fields.length
 ·obtain ⟨y,hy0⟩:∃ y,k.fields[q]?=some y:=⟨_,List.getElem?_eq_getElem hql⟩
  have hy:k.fields[((q:Nat):Int).toNat]?=some y:=hy0
  have nxt:ao4 y.kind=false→∀ i z,i<q+1→k.fields[i]?=some z→ao4 z.kind=false:=fun h i z hi hz=>by
   by_cases e:i=q
   ·subst e;cases hy0.symm.trans hz;exact h
   ·exact hno i z (by omega) hz
  by_cases h0:y.kind=0
  ·have hp:ao4 y.kind=false:=by unfold ao4;simp [h0]
   repeat' (first|refine sk2 ?_|(intro b;conv=>whnf))
   exact ⟨q+1,(aa2 cl2),cl3,⟨by omega,nxt hp⟩,by omega⟩
  ·by_cases h1:y.kind=1
   ·have hp:ao4 y.kind=false:=by unfold ao4;simp [h1]
    repeat' (first|refine sk2 ?_|(intro b;conv=>whnf))
    exact ⟨q+1,(aa2 cl2),cl3,⟨by omega,nxt hp⟩,by omega⟩
   ·by_cases h6:y.kind=6
    ·have hp:ao4 y.kind=false:=by unfold ao4;simp [h6]
     repeat' (first|refine sk2 ?_|(intro b;conv=>whnf))
     exact ⟨q+1,(aa2 cl2),cl3,⟨by omega,nxt hp⟩,by omega⟩
    ·by_cases h7:y.kind=7
     ·have hp:ao4 y.kind=false:=by unfold ao4;simp [h7]
      repeat' (first|refine sk2 ?_|(intro b;conv=>whnf))
      exact ⟨q+1,(aa2 cl2),cl3,⟨by omega,nxt hp⟩,by omega⟩
     ·have hp:ao4 y.kind=true:=by unfold ao4;simp [h0,h1,h6,h7]
      repeat' (first|refine sk2 ?_|(intro b;conv=>whnf))
      refine Rt.pure (congrArg iD ?_)
      exact (ad6 hy0 hp hno).symm
 ·obtain rfl:q=k.fields.length:=by omega
  repeat' (first|refine sk2 ?_|(intro b;conv=>whnf))
  refine Rt.pure (congrArg iD ?_)
  exact (an9 fun i y hy=>hno i y (List.getElem?_eq_some_iff.1 hy).1 hy).symm
end
section
open Go
abbrev nE:ByteArray:=⟨#[]⟩
abbrev nSize:ByteArray:=⟨#[115,105,122,101]⟩
abbrev nTag:ByteArray:=⟨#[116,97,103]⟩
abbrev aJ0:ByteArray:=⟨#[98,111,114,110]⟩
abbrev nLeft:ByteArray:=⟨#[108,101,102,116]⟩
abbrev nState:ByteArray:=⟨#[115,116,97,116,101]⟩
abbrev nLife:ByteArray:=⟨#[108,105,102,101]⟩
abbrev nLow:ByteArray:=⟨#[108,111,119]⟩
abbrev nHigh:ByteArray:=⟨#[104,105,103,104]⟩
abbrev nRed:ByteArray:=⟨#[114,101,100]⟩
abbrev aN4:ByteArray:=⟨#[103,114,101,101,110]⟩
abbrev nBlue:ByteArray:=⟨#[98,108,117,101]⟩
inductive PlainF:List Fld→Prop
 | none:PlainF []
 | size (a b:Int) (ha:-5≤a∧a≤5) (hb:0≤b∧b<20):PlainF [⟨nSize,nE,nE,2,a,a+b,[],[]⟩]
 | tag (n:Nat) (ws:List Int) (hn:1≤n∧n≤3) (hw:ws.length=n) (h0:∀ w∈ws,0≤w∧w≤4) (h1:∃ w∈ws,1≤w):PlainF [⟨nTag,nE,nE,3,0,0,[nRed,aN4,nBlue].take n,ws⟩]
 | born (a b c d:Int) (ha:-200≤a∧a<200) (hb:0≤b∧b<60) (hc:0≤c∧c<3) (hd:0≤d∧d<30):PlainF [⟨aJ0,nE,nE,4,a,a+b,[],[]⟩,⟨nLeft,aJ0,nE,4,c,3+d,[],[]⟩]
 | state (a b:Int) (ha:0≤a∧a<3) (hb:0≤b∧b<4):PlainF [⟨nState,nLife,nE,5,a,a+b,[],[]⟩]
 | low (a b c d:Int) (ha:0≤a∧a<5) (hb:0≤b∧b<10) (hc:0≤c∧c<5) (hd:0≤d∧d<10):PlainF [⟨nLow,nE,nE,2,a,5+b,[],[]⟩,⟨nHigh,nE,nE,2,c,10+d,[],[]⟩]
abbrev nilD:D:=.v (.slice .none 0 0)
abbrev fldR (f:Fld) (w g:D):List D:=[sD f.name,sD f.of,sD f.up,iD f.kind,iD f.lo,iD f.hi,w,g]
theorem Vd.nil {σ τ:aa1} (k:Nat):Vd σ τ (.v (.slice .none 0 0)) (.sl k []):=fun w X u _ h=>by
 rw [h.val rfl]
 exact .sl k [] .none 0 (fun _ _=>undef) (by simp) (fun y hy=>by cases hy) (fun i y hy=>by simp at hy) (fun i y hy=>by simp at hy)
theorem Vd.row {σ τ ρ:aa1} {e:TypeId} {k:Nat} {xs:List (List D)} {v:Value} {s:aa1} (h:RowIs e k xs v s) (hp:σ.Perm (s ++ ρ)) (hsub:∀ b,b∈ab2 τ→b∈ab2 ρ):Vd σ τ (.v v) (.sl k xs):=
 fun w X u hs hr=>ah1 ((Vs.row h hp).run w X u hs hr).2 hsub
theorem sb5 {A B:Prop} (k:B) (h:Hd7 B→A:=by intro hk7q;(first|(with_reducible refine Bc.l ?_)|(with_reducible refine Bx.l ?_)|fail|((with_reducible refine Cb.go ?h ?_);(case h=>decide +kernel)));exact hk7q.run):A:=h ⟨k⟩
theorem sk6 {A B:Prop} (k:B) (h:Hd7 B→A:=by intro hk7q;(first|refine sb0 ?_|refine sb5 ?_|((with_reducible refine' Cp.by ?hc ?_);(case hc=>fail))|((with_reducible refine' CE.pure ?hc ?_);(case hc=>fail)));exact hk7q.run):A:=h ⟨k⟩
theorem cl4 {p:Prop} (h:p:=by repeat' (first|exact Vd3.nil|exact Vd2.nil|refine Vd3.cons ?_ ?_|refine Vd2.cons ?_ ?_|exact Vd.nil _|exact Vd.same (fun _ h=>h) _)):p:=h
theorem cl5 {p:Prop} (h:p:=by (refine ac3 fun a=>?_;simp only [List.append_eq,List.nil_append,ac4,ae4,ae6,rfC,atC,iD,bD];omega)):p:=h
theorem cl6 {p:Prop} (h:p:=by (refine ac3 fun a=>?_;simp only [List.append_eq,List.nil_append,ac4,ae4,ae6,rfC,atC,iD,bD];omega)):p:=h
theorem cl7 {p:Prop} (h:p:=by repeat (first|exact Chk.nil|refine Chk.cons rfl ?_|(refine Chk.cons (congrArg (fun n=>some (iD n)) ?h) ?_;(case h=>(first|omega|((try simp only [List.length_map,List.length_take,List.length_append,List.length_cons,List.length_nil,List.length_replicate,Nat.reduceAdd]);omega)))))):p:=h
theorem aC9 (xs:List Int) (hx:I64s xs) (bm:Nat) (pos:Int) (hp:0≤pos∧pos≤100000000):ACall Tryz.prog 72 [ptr bm] [mkB bm xs pos] (fun d σ=>∃ pos' fs,(pos≤pos'∧pos'≤pos+20)∧d=slF fs∧σ=[mkB bm xs pos']∧PlainF fs):=by
 refine aa4 mixed aa0 Tryz.func72 (by kernel_rfl) rfl Tryz.ntmps72 rfl ?_;intro BB
 repeat' (first|refine sk6 ?_|(intro b;conv=>whnf))
 (refine CE.own (am3 xs hx bm _ _ ⟨by omega,by omega⟩) (List.Perm.refl ([mkB bm xs _] ++ _)) (fun s'=>s' ++ _) (fun s'=>List.Perm.refl _) ?_)
 rintro _ _ ⟨r,rfl,⟨hr,hr'⟩,rfl⟩
 have hr':=hr' (by omega)
 by_cases e0:r=0
 ·repeat' (first|refine sk6 ?_|(intro b;conv=>whnf))
  (refine CE.own (am3 xs hx bm _ _ ⟨by omega,by omega⟩) (List.Perm.refl ([mkB bm xs _] ++ _)) (fun s'=>s' ++ _) (fun s'=>List.Perm.refl _) ?_)
  rintro _ _ ⟨a,rfl,⟨ha,ha'⟩,rfl⟩
  have ha':=ha' (by omega)
  repeat' (first|refine sk6 ?_|(intro b;conv=>whnf))
  (refine CE.own (am3 xs hx bm _ _ ⟨by omega,by omega⟩) (List.Perm.refl ([mkB bm xs _] ++ _)) (fun s'=>s' ++ _) (fun s'=>List.Perm.refl _) ?_)
  rintro _ _ ⟨b,rfl,⟨hb,hb'⟩,rfl⟩
  have hb':=hb' (by omega)
  repeat' (first|refine sk6 ?_|(intro b;conv=>whnf))
  exact Rt.by (Vs.vd ⟨[],List.Perm.refl _⟩ (Vd.sl (fun _ h=>h) cl4)) ⟨_,_,⟨by omega,by omega⟩,rfl,rfl,PlainF.size (a - 5) b ⟨by omega,by omega⟩ ⟨by omega,by omega⟩⟩
 by_cases e1:r=1
 ·repeat' (first|refine sk6 ?_|(intro b;conv=>whnf))
  (refine CE.own (am3 xs hx bm _ _ ⟨by omega,by omega⟩) (List.Perm.refl ([mkB bm xs _] ++ _)) (fun s'=>s' ++ _) (fun s'=>List.Perm.refl _) ?_)
  rintro _ _ ⟨c,rfl,⟨hc,hc'⟩,rfl⟩
  have hc':=hc' (by omega)
  obtain ⟨n,hn,rfl⟩:∃ n:Nat,n<3∧c=n:=⟨c.toNat,by omega,by omega⟩
  repeat' (first|refine sk6 ?_|(intro b;conv=>whnf))
  generalize hW:(List.take (1+(n:Int)).toNat [[D.v (Value.string nRed)],[D.v (Value.string aN4)],[D.v (Value.string nBlue)]])=Wd
  have hWl:Wd.length=n+1:=by rw [← hW,List.length_take];simp;omega
  refine lp_perm (List.Perm.swap _ _ _) ?_
  refine aa9 mixed aa0 (γ:=List Int × Value × aa1) (fun g=>[(6,iD g.1.length)]) (fun g=>mkB bm xs (pos+2+g.1.length) :: (b,.cells 111 (fldR ⟨nTag,nE,nE,3,0,0,[],[]⟩ (.sl 1 Wd) (.v g.2.1))) :: g.2.2) (fun g=>g.1.length≤n+1∧(∀ z∈g.1,0≤z∧z≤4)∧RowIs 3 1 (g.1.map fun z=>[iD z]) g.2.1 g.2.2) (fun g=>n+1 - g.1.length) ([],.slice none 0 0,[]) (aa2 cl2) (by simp only [List.length_nil];rw [show pos+2+((0:Nat):Int)=pos+1+1 by omega];exact cl3) ⟨Nat.zero_le _,(by simp),RowIs.nil _ _⟩ ?_
  ·rintro ⟨ws,v,s⟩ ⟨hwl,hw,hrow⟩
   simp only at hwl hw hrow ⊢
   by_cases hlt:ws.length<n+1
   ·have hb:=ae0 xs (pos+2+ws.length) 5
    have hb':=hb.2 (by omega)
    repeat' (first|refine sk6 ?_|(intro b;conv=>whnf))
    (refine Dr.r ?_;(((with_reducible refine W.mk ?_);(conv=>whnf)));refine Dm.r ?_;refine W.mk ?_)
    refine ax6 mixed aa0 rfl [0,2] 6 (.two 1 (.one 3 (.one 4 (.one 5 (.one 6 (.one 7 .done))))) 3 (.two 1 (.one 4 (.one 5 (.one 6 (.one 7 .done)))) 4 (.one 1 (.one 5 (.one 6 (.one 7 .done)))))) (γ:=Value × aa1) (fun g=>[(39,.v v),(41,iD (atE xs (pos+2+ws.length) 5)),(42,.sl 1 [[iD (atE xs (pos+2+ws.length) 5)]]),(43,.v g.1),(44,.v (.pointer (some ⟨b,0+7,none⟩)))]) (fun g=>mkB bm xs (pos+2+ws.length+1) :: (b,.cells 111 (fldR ⟨nTag,nE,nE,3,0,0,[],[]⟩ (.sl 1 Wd) (.v g.1))) :: g.2) (fun g=>RowIs 3 1 ((ws ++ [atE xs (pos+2+ws.length) 5]).map fun z=>[iD z]) g.1 g.2) (by decide +kernel) ?_ ?_
    ·repeat' (first|refine sk6 ?_|(intro b;conv=>whnf))
     repeat' (first|refine sk6 ?_|(intro b;conv=>whnf)|(refine And.intro ?_ ?_ <;> (conv=>whnf))|((refine CE.own (aa7 xs hx bm _ _ ⟨by omega,by omega⟩) (List.Perm.refl ([mkB bm xs _] ++ _)) (fun s'=>s' ++ _) (fun s'=>List.Perm.refl _) ?_);(rintro _ _ ⟨rfl,rfl⟩))|((refine CE.own (aa7 xs hx bm _ _ ⟨by omega,by omega⟩) (show List.Perm (_ :: mkB bm xs _ :: _) ([mkB bm xs _] ++ (_ :: _)) from List.Perm.swap _ _ _) (fun s'=>s' ++ (_ :: _)) (fun s'=>List.Perm.refl _) ?_);(rintro _ _ ⟨rfl,rfl⟩))|(refine Ap.go rfl rfl rfl rfl hrow (τ:=[mkB bm xs (pos+2+ws.length+1),(b,.cells 111 (fldR ⟨nTag,nE,nE,3,0,0,[],[]⟩ (.sl 1 Wd) (.v v)))]) cl5 rfl (zs:=(ws ++ [atE xs (pos+2+ws.length) 5]).map fun z=>[iD z]) (by simp) (by simp;omega) (by simp;omega) (fun s'=>mkB bm xs (pos+2+ws.length+1) :: (b,.cells 111 (fldR ⟨nTag,nE,nE,3,0,0,[],[]⟩ (.sl 1 Wd) (.v v))) :: s') (fun s'=>cl6) (fun a2 c2 s2 hr2=>?_)))
     all_goals exact ⟨(_,s2),(aa2 cl2),rfl,hr2⟩
    ·rintro ⟨v2,s2⟩ hr2
     generalize atE xs (pos+2+ws.length) 5=B at *
     simp only at hr2 ⊢
     repeat' (first|refine sk6 ?_|(intro b;conv=>whnf))
     refine ⟨(ws ++ [B],v2,s2),?_,?_,⟨by simp;omega,fun z hz=>?_,hr2⟩,by simp only [List.length_append,List.length_cons,List.length_nil];omega⟩
     ·simp only [List.length_append,List.length_cons,List.length_nil];exact (aa2 cl7)
     ·simp only [List.length_append,List.length_cons,List.length_nil]
      rw [show pos+2+((ws.length+(0+1):Nat):Int)=pos+2+ws.length+1 by omega]
      exact cl3
     ·rcases List.mem_append.1 hz with h|h
      ·exact hw z h
      ·rw [List.mem_singleton] at h;subst h;exact ⟨hb.1,by omega⟩
   ·have hwn:ws.length=n+1:=by omega
    rw [hwn]
    have hcn:=ae0 xs (pos+2+(n+1:Nat)) (Wd.length:Nat)
    have hcn':=hcn.2 (by omega)
    have hdn:=ae0 xs (pos+2+(n+1:Nat)+1) 3
    have hdn':=hdn.2 (by omega)
    obtain ⟨c,hcc⟩:∃ c:Nat,atE xs (pos+2+(n+1:Nat)) (Wd.length:Nat)=c:=⟨(atE xs (pos+2+(n+1:Nat)) (Wd.length:Nat)).toNat,by omega⟩
    have hcl:c<ws.length:=by omega
    obtain ⟨z,hz⟩:∃ z,ws[c]?=some z:=⟨_,List.getElem?_eq_getElem hcl⟩
    obtain ⟨b1,cap1,cs1,rfl,rfl,hc1,hset⟩:=aW1 (g:=iD) hrow hz
    have hc1l:=(List.getElem?_eq_some_iff.1 hc1).1
    repeat' (first|refine sk6 ?_|(intro b;conv=>whnf))
    (refine Dr.r ?_;(((with_reducible refine W.mk ?_);(conv=>whnf)));refine Dm.r ?_;refine W.mk ?_)
    refine ax6 mixed aa0 rfl [0,2,3,4,6] 6 (.two 1 (.one 5 (.one 7 (.one 8 (.one 9 (.one 10 .done))))) 5 (.two 1 (.one 7 (.one 8 (.one 9 (.one 10 .done)))) 7 (.two 1 (.one 8 (.one 9 (.one 10 .done))) 8 (.one 1 (.one 9 (.one 10 .done)))))) (γ:=Unit) (fun _=>[(46,.v (.slice (some ⟨b1,0,none⟩) ws.length cap1)),(50,iD (atE xs (pos+2+(n+1:Nat)) (Wd.length:Nat))),(52,iD (atE xs (pos+2+(n+1:Nat)+1) 3)),(53,iD (1+atE xs (pos+2+(n+1:Nat)+1) 3)),(54,.v (.pointer (some ⟨b1,0+(atE xs (pos+2+(n+1:Nat)) (Wd.length:Nat)).toNat*1,none⟩)))]) (fun _=>(b1,.cells 3 (cs1.set c (iD (1+atE xs (pos+2+(n+1:Nat)+1) 3)))) :: [mkB bm xs (pos+2+(n+1:Nat)+1+1),(b,.cells 111 (fldR ⟨nTag,nE,nE,3,0,0,[],[]⟩ (.sl 1 Wd) (.v (.slice (some ⟨b1,0,none⟩) ws.length cap1))))]) (fun _=>True) (by decide +kernel) ?_ ?_
    ·repeat' (first|refine sk6 ?_|(intro b;conv=>whnf))
     repeat' (first|refine sk6 ?_|(intro b;conv=>whnf)|(refine And.intro ?_ ?_ <;> (conv=>whnf))|((refine CE.own (aa7 xs hx bm _ _ ⟨by omega,by omega⟩) (List.Perm.refl ([mkB bm xs _] ++ _)) (fun s'=>s' ++ _) (fun s'=>List.Perm.refl _) ?_);(rintro _ _ ⟨rfl,rfl⟩))|((refine CE.own (aa7 xs hx bm _ _ ⟨by omega,by omega⟩) (show List.Perm (_ :: mkB bm xs _ :: _) ([mkB bm xs _] ++ (_ :: _)) from List.Perm.swap _ _ _) (fun s'=>s' ++ (_ :: _)) (fun s'=>List.Perm.refl _) ?_);(rintro _ _ ⟨rfl,rfl⟩))|(refine Sv.cellm (tb:=3) (cs:=cs1) (cs':=cs1.set c (iD (1+atE xs (pos+2+(n+1:Nat)+1) 3))) (τ:=[mkB bm xs (pos+2+(n+1:Nat)+1+1),(b,.cells 111 (fldR ⟨nTag,nE,nE,3,0,0,[],[]⟩ (.sl 1 Wd) (.v (.slice (some ⟨b1,0,none⟩) ws.length cap1))))]) cl5 (by rw [hcc,ix1];exact hc1l) rfl (by rw [hcc,ix1]) ?_))
     all_goals exact ⟨(),(aa2 cl2),rfl,trivial⟩
    ·rintro - -
     have hrow2:=hset (1+atE xs (pos+2+(n+1:Nat)+1) 3)
     generalize atE xs (pos+2+(n+1:Nat)+1) 3=E at *
     have hWd:Wd=([nRed,aN4,nBlue].take (n+1)).map fun x=>[sD x]:=by
      rw [← hW,show (1+(n:Int)).toNat=n+1 by omega,List.map_take];rfl
     repeat' (first|refine sk6 ?_|(intro b;conv=>whnf))
     rw [hWd]
     have hs:∀ x,x∈ab2 [mkB bm xs (pos+2+(n+1:Nat)+1+1)]→x∈ab2 ((b1,Blk.cells 3 (cs1.set c (iD (1+E)))) :: [mkB bm xs (pos+2+(n+1:Nat)+1+1),(b,.cells 111 (fldR ⟨nTag,nE,nE,3,0,0,[],[]⟩ (.sl 1 (([nRed,aN4,nBlue].take (n+1)).map fun x=>[sD x])) (.v (.slice (some ⟨b1,0,none⟩) ws.length cap1))))]):=fun x h=>by simp [ab2] at h ⊢;exact .inr (.inl h)
     refine Rt.by (Vs.vd ⟨[(b1,Blk.cells 3 (cs1.set c (iD (1+E)))),(b,.cells 111 (fldR ⟨nTag,nE,nE,3,0,0,[],[]⟩ (.sl 1 (([nRed,aN4,nBlue].take (n+1)).map fun x=>[sD x])) (.v (.slice (some ⟨b1,0,none⟩) ws.length cap1))))],by (refine ac3 fun a=>?_;simp only [List.append_eq,List.nil_append,ac4,ae4,ae6,rfC,atC,iD,bD];omega)⟩ (Vd.sl hs (.cons (.cons (Vd.same hs _) (.cons (Vd.same hs _) (.cons (Vd.same hs _) (.cons (Vd.same hs _) (.cons (Vd.same hs _) (.cons (Vd.same hs _) (.cons (Vd.same hs _) (.cons (Vd.row hrow2 (List.Perm.refl _) (fun x h=>by simp [ab2] at h ⊢;exact .inl h)) .nil)))))))) .nil))) ⟨_,_,⟨?_,?_⟩,rfl,rfl,PlainF.tag (n+1) (ws.set c (1+E)) ⟨by omega,by omega⟩ (by rw [List.length_set];omega) (fun z hz=>?_) ⟨1+E,?_,by omega⟩⟩
     ·omega
     ·omega
     ·rcases List.mem_or_eq_of_mem_set hz with h|rfl
      ·exact hw z h
      ·omega
     ·exact List.mem_set hcl _
 by_cases e2:r=2
 ·repeat' (first|refine sk6 ?_|(intro b;conv=>whnf))
  (refine CE.own (am3 xs hx bm _ _ ⟨by omega,by omega⟩) (List.Perm.refl ([mkB bm xs _] ++ _)) (fun s'=>s' ++ _) (fun s'=>List.Perm.refl _) ?_)
  rintro _ _ ⟨a,rfl,⟨ha,ha'⟩,rfl⟩
  have ha':=ha' (by omega)
  repeat' (first|refine sk6 ?_|(intro b;conv=>whnf))
  have hb:=ae0 xs (pos+1+1) 60
  have hb':=hb.2 (by omega)
  (refine Dr.r ?_;(((with_reducible refine W.mk ?_);(conv=>whnf)));refine Dm.r ?_;refine W.mk ?_)
  refine ax6 mixed aa0 rfl [0,2] 5 (.two 1 (.one 3 (.one 4 (.one 5 (.one 6 .done)))) 3 (.one 1 (.one 4 (.one 5 (.one 6 .done))))) (γ:=Unit) (fun _=>[(64,iD (a - 200)),(66,iD (atE xs (pos+1+1) 60)),(67,iD (a - 200+atE xs (pos+1+1) 60)),(68,.v (.pointer (some ⟨b,0+5,none⟩)))]) (fun _=>[mkB bm xs (pos+1+1+1),(b,.cells 111 (fldR ⟨aJ0,nE,nE,4,a - 200,a - 200+atE xs (pos+1+1) 60,[],[]⟩ nilD nilD))]) (fun _=>True) (by decide +kernel) ?_ ?_
  ·repeat' (first|refine sk6 ?_|(intro b;conv=>whnf))
   repeat' (first|refine sk6 ?_|(intro b;conv=>whnf)|(refine And.intro ?_ ?_ <;> (conv=>whnf))|((refine CE.own (aa7 xs hx bm _ _ ⟨by omega,by omega⟩) (List.Perm.refl ([mkB bm xs _] ++ _)) (fun s'=>s' ++ _) (fun s'=>List.Perm.refl _) ?_);(rintro _ _ ⟨rfl,rfl⟩))|((refine CE.own (aa7 xs hx bm _ _ ⟨by omega,by omega⟩) (show List.Perm (_ :: mkB bm xs _ :: _) ([mkB bm xs _] ++ (_ :: _)) from List.Perm.swap _ _ _) (fun s'=>s' ++ (_ :: _)) (fun s'=>List.Perm.refl _) ?_);(rintro _ _ ⟨rfl,rfl⟩)))
   all_goals exact ⟨(),(aa2 cl2),rfl,trivial⟩
  ·rintro - -
   generalize atE xs (pos+1+1) 60=B at *
   have hc:=ae0 xs (pos+1+1+1) 3
   have hc':=hc.2 (by omega)
   have hd:=ae0 xs (pos+1+1+1+1) 30
   have hd':=hd.2 (by omega)
   repeat' (first|refine sk6 ?_|(intro b;conv=>whnf))
   (refine Dr.r ?_;refine W.mk ?_)
   refine ax6 mixed aa0 rfl [1,3] 7 (.two 0 (.one 2 (.one 4 (.one 5 (.one 6 (.one 7 (.one 8 .done)))))) 2 (.two 0 (.one 4 (.one 5 (.one 6 (.one 7 (.one 8 .done))))) 4 (.two 0 (.one 5 (.one 6 (.one 7 (.one 8 .done)))) 5 (.two 0 (.one 6 (.one 7 (.one 8 .done))) 6 (.one 0 (.one 7 (.one 8 .done))))))) (γ:=Unit) (fun _=>[(2,.sl 8 [fldR ⟨aJ0,nE,nE,4,a - 200,a - 200+B,[],[]⟩ nilD nilD,fldR ⟨nLeft,aJ0,nE,4,atE xs (pos+1+1+1) 3,3+atE xs (pos+1+1+1+1) 30,[],[]⟩ nilD nilD])]) (fun _=>[mkB bm xs (pos+1+1+1+1+1),(b,.cells 111 (fldR ⟨aJ0,nE,nE,4,a - 200,a - 200+B,[],[]⟩ nilD nilD))]) (fun _=>True) (by decide +kernel) ?_ ?_
   ·repeat' (first|refine sk6 ?_|(intro b;conv=>whnf))
    repeat' (first|refine sk6 ?_|(intro b;conv=>whnf)|(refine And.intro ?_ ?_ <;> (conv=>whnf))|((refine CE.own (aa7 xs hx bm _ _ ⟨by omega,by omega⟩) (List.Perm.refl ([mkB bm xs _] ++ _)) (fun s'=>s' ++ _) (fun s'=>List.Perm.refl _) ?_);(rintro _ _ ⟨rfl,rfl⟩))|((refine CE.own (aa7 xs hx bm _ _ ⟨by omega,by omega⟩) (show List.Perm (_ :: mkB bm xs _ :: _) ([mkB bm xs _] ++ (_ :: _)) from List.Perm.swap _ _ _) (fun s'=>s' ++ (_ :: _)) (fun s'=>List.Perm.refl _) ?_);(rintro _ _ ⟨rfl,rfl⟩)))
    all_goals exact ⟨(),(aa2 cl2),rfl,trivial⟩
   ·rintro - -
    generalize atE xs (pos+1+1+1) 3=C at *
    generalize atE xs (pos+1+1+1+1) 30=E at *
    repeat' (first|refine sk6 ?_|(intro b;conv=>whnf))
    have hs:∀ x,x∈ab2 [mkB bm xs (pos+1+1+1+1+1)]→x∈ab2 [mkB bm xs (pos+1+1+1+1+1),(b,.cells 111 (fldR ⟨aJ0,nE,nE,4,a - 200,a - 200+B,[],[]⟩ nilD nilD))]:=fun x h=>by simp [ab2] at h ⊢;exact .inl h
    exact Rt.by (Vs.vd ⟨[_],List.Perm.swap _ _ _⟩ (Vd.sl hs (by repeat' (first|exact Vd3.nil|exact Vd2.nil|refine Vd3.cons ?_ ?_|refine Vd2.cons ?_ ?_|exact Vd.nil _|exact Vd.same hs _)))) ⟨_,_,⟨by omega,by omega⟩,rfl,rfl,PlainF.born (a - 200) B C E ⟨by omega,by omega⟩ ⟨by omega,by omega⟩ ⟨by omega,by omega⟩ ⟨by omega,by omega⟩⟩
 by_cases e3:r=3
 ·repeat' (first|refine sk6 ?_|(intro b;conv=>whnf))
  (refine CE.own (am3 xs hx bm _ _ ⟨by omega,by omega⟩) (List.Perm.refl ([mkB bm xs _] ++ _)) (fun s'=>s' ++ _) (fun s'=>List.Perm.refl _) ?_)
  rintro _ _ ⟨a,rfl,⟨ha,ha'⟩,rfl⟩
  have ha':=ha' (by omega)
  repeat' (first|refine sk6 ?_|(intro b;conv=>whnf))
  (refine CE.own (am3 xs hx bm _ _ ⟨by omega,by omega⟩) (List.Perm.refl ([mkB bm xs _] ++ _)) (fun s'=>s' ++ _) (fun s'=>List.Perm.refl _) ?_)
  rintro _ _ ⟨b,rfl,⟨hb,hb'⟩,rfl⟩
  have hb':=hb' (by omega)
  repeat' (first|refine sk6 ?_|(intro b;conv=>whnf))
  exact Rt.by (Vs.vd ⟨[],List.Perm.refl _⟩ (Vd.sl (fun _ h=>h) cl4)) ⟨_,_,⟨by omega,by omega⟩,rfl,rfl,PlainF.state a b ⟨by omega,by omega⟩ ⟨by omega,by omega⟩⟩
 by_cases e4:r=4
 ·repeat' (first|refine sk6 ?_|(intro b;conv=>whnf))
  (refine CE.own (am3 xs hx bm _ _ ⟨by omega,by omega⟩) (List.Perm.refl ([mkB bm xs _] ++ _)) (fun s'=>s' ++ _) (fun s'=>List.Perm.refl _) ?_)
  rintro _ _ ⟨a,rfl,⟨ha,ha'⟩,rfl⟩
  have ha':=ha' (by omega)
  repeat' (first|refine sk6 ?_|(intro b;conv=>whnf))
  (refine CE.own (am3 xs hx bm _ _ ⟨by omega,by omega⟩) (List.Perm.refl ([mkB bm xs _] ++ _)) (fun s'=>s' ++ _) (fun s'=>List.Perm.refl _) ?_)
  rintro _ _ ⟨b,rfl,⟨hb,hb'⟩,rfl⟩
  have hb':=hb' (by omega)
  repeat' (first|refine sk6 ?_|(intro b;conv=>whnf))
  (refine CE.own (am3 xs hx bm _ _ ⟨by omega,by omega⟩) (List.Perm.refl ([mkB bm xs _] ++ _)) (fun s'=>s' ++ _) (fun s'=>List.Perm.refl _) ?_)
  rintro _ _ ⟨c,rfl,⟨hc,hc'⟩,rfl⟩
  have hc':=hc' (by omega)
  repeat' (first|refine sk6 ?_|(intro b;conv=>whnf))
  (refine CE.own (am3 xs hx bm _ _ ⟨by omega,by omega⟩) (List.Perm.refl ([mkB bm xs _] ++ _)) (fun s'=>s' ++ _) (fun s'=>List.Perm.refl _) ?_)
  rintro _ _ ⟨d,rfl,⟨hd,hd'⟩,rfl⟩
  have hd':=hd' (by omega)
  repeat' (first|refine sk6 ?_|(intro b;conv=>whnf))
  exact Rt.by (Vs.vd ⟨[],List.Perm.refl _⟩ (Vd.sl (fun _ h=>h) cl4)) ⟨_,_,⟨by omega,by omega⟩,rfl,rfl,PlainF.low a b c d ⟨by omega,by omega⟩ ⟨by omega,by omega⟩ ⟨by omega,by omega⟩ ⟨by omega,by omega⟩⟩
 ·repeat' (first|refine sk6 ?_|(intro b;conv=>whnf))
  exact Rt.by (Vs.vd ⟨[],List.Perm.refl _⟩ (Vd.nil 8)) ⟨_,_,⟨by omega,by omega⟩,rfl,rfl,PlainF.none⟩
end
end Go.Proofs.YtjbbmjjildhfbaaGreatDoor
