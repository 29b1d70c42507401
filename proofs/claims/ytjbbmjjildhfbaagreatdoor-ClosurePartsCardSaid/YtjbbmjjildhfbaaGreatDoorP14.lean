/- A part of the proof: Ta Ka Kb Kc Kd Tb Tc Td. -/
import Derived.Test.YtjbbmjjildhfbaaGreatDoorP13
set_option maxRecDepth 100000
set_option maxHeartbeats 4000000
set_option linter.unusedVariables false
set_option linter.unusedSimpArgs false
namespace Go.Proofs.YtjbbmjjildhfbaaGreatDoor
section
open Go
theorem ty_kind1 (y:Knd) (nm:ByteArray):APure Tryz.prog 126 [kndD y,.ro [sD nm]] (bD (seq y.name nm)):=by
 refine APure.of_call (aa4 mixed aa0 Tryz.func126 (by kernel_rfl) rfl Tryz.ntmps126 rfl ?_);intro BB
 repeat' (first|refine sk2 ?_|(intro b;conv=>whnf))
 refine Rt.pure (congrArg bD ?_);rfl
theorem bb2 (y:Fld) (nm:ByteArray):APure Tryz.prog 105 [fldD y,.ro [sD nm]] (bD (seq y.name nm)):=by
 refine APure.of_call (aa4 mixed aa0 Tryz.func105 (by kernel_rfl) rfl Tryz.ntmps105 rfl ?_);intro BB
 repeat' (first|refine sk2 ?_|(intro b;conv=>whnf))
 refine Rt.pure (congrArg bD ?_);rfl
theorem sk46 {A B:Prop} (k:B) (h:Hd7 B→A:=by intro hk7q;(first|refine sb0 ?_|refine sb1 ?_|((with_reducible refine' Cp.by ?hc ?_);(case hc=>exact ix_knd x.kinds (fun y=>seq y.name nm) hl (fun y _=>ty_kind1 y nm)))|((with_reducible refine' CE.pure ?hc ?_);(case hc=>exact ix_knd x.kinds (fun y=>seq y.name nm) hl (fun y _=>ty_kind1 y nm))));exact hk7q.run):A:=h ⟨k⟩
theorem am1 (x:Sch) (nm:ByteArray) (hl:x.kinds.length≤1000000):APure Tryz.prog 102 [schD x,sD nm] (iD (ab3 x nm)):=by
 refine APure.of_call (aa4 mixed aa0 Tryz.func102 (by kernel_rfl) rfl Tryz.ntmps102 rfl ?_);intro BB
 repeat' (first|refine sk46 ?_|(intro b;conv=>whnf))
 refine Rt.pure (congrArg iD ?_);rfl
theorem sk47 {A B:Prop} (k:B) (h:Hd7 B→A:=by intro hk7q;(first|refine sb0 ?_|refine sb1 ?_|((with_reducible refine' Cp.by ?hc ?_);(case hc=>exact ix_fld k.fields (fun y=>seq y.name nm) hl (fun y _=>bb2 y nm)))|((with_reducible refine' CE.pure ?hc ?_);(case hc=>exact ix_fld k.fields (fun y=>seq y.name nm) hl (fun y _=>bb2 y nm))));exact hk7q.run):A:=h ⟨k⟩
theorem aj2 (k:Knd) (nm:ByteArray) (hl:k.fields.length≤1000000):APure Tryz.prog 79 [kndD k,sD nm] (iD (ab6 k nm)):=by
 refine APure.of_call (aa4 mixed aa0 Tryz.func79 (by kernel_rfl) rfl Tryz.ntmps79 rfl ?_);intro BB
 repeat' (first|refine sk47 ?_|(intro b;conv=>whnf))
 refine Rt.pure (congrArg iD ?_);rfl
theorem bb3 (x:Sch) (i j:Int):APure Tryz.prog 101 [schD x,iD i,iD j] (.tup [fldD (atR x i j).1,bD (atR x i j).2]):=by
 refine APure.of_call (aa4 mixed aa0 Tryz.func101 (by kernel_rfl) rfl Tryz.ntmps101 rfl ?_);intro BB
 repeat' (first|refine sk2 ?_|(intro b;conv=>whnf)|refine IxM.mk fun y hy=>?_|(with_reducible refine Br.d (fun hc=>?_) (fun hc=>?_))|(with_reducible refine Br.b (fun hc=>?_) (fun hc=>?_)))
 all_goals first
  | (have hr:atR x i j=(aK5,false):=(by unfold atR;rw [aj7 (by omega)]);rw [hr];exact Rt.vs (Vs.tup (VsL.cons ((Vs.le aE3).trans (Vs.drop (List.nil_sublist _))) (VsL.cons (Vs.refl _ _) (VsL.nil _)))))
  | (have hr:atR x i j=(aK5,false):=(by unfold atR;rw [ah9 (by omega) (by omega) hy,List.getElem?_eq_none (by omega)]);rw [hr];exact Rt.vs (Vs.tup (VsL.cons ((Vs.le aE3).trans (Vs.drop (List.nil_sublist _))) (VsL.cons (Vs.refl _ _) (VsL.nil _)))))
  | (have hr:=ba5 (x:=x) (i:=i) (j:=j) (by omega) ‹x.kinds[i.toNat]?=some _› (by omega) hy;rw [hr];exact Rt.vs (Vs.refl _ _))
theorem atR_fa {x:Sch} {i j:Int} {f:Fld} (h:fieldAt x i j=some f):atR x i j=(f,true):=by unfold atR;rw [h]
theorem atR_no {x:Sch} {i j:Int} (h:fieldAt x i j=none):atR x i j=(aK5,false):=by unfold atR;rw [h]
theorem sk48 {A B:Prop} (k:B) (h:Hd7 B→A:=by intro hk7q;(first|refine sb0 ?_|refine sb1 ?_|((with_reducible refine' Cp.by ?hc ?_);(case hc=>first|exact HA|exact am1 _ _ (by assumption)|exact aj2 _ _ (by assumption)))|((with_reducible refine' CE.pure ?hc ?_);(case hc=>first|exact HA|exact am1 _ _ (by assumption)|exact aj2 _ _ (by assumption))));exact hk7q.run):A:=h ⟨k⟩
theorem ty_up1 (x:Sch) (i j:Int) (f:Fld) (hl:x.kinds.length≤1000000) (hfa:fieldAt x i j=some f) (hk:f.kind=1):APure Tryz.prog 77 [schD x,iD i,iD j] (iD (refUp x i f)):=by
 have HA:=bb3 x i j
 rw [atR_fa hfa] at HA
 refine APure.of_call (aa4 mixed aa0 Tryz.func77 (by kernel_rfl) rfl Tryz.ntmps77 rfl ?_);intro BB
 repeat' (first|refine sk48 ?_|(intro b;conv=>whnf)|(with_reducible refine Br.d (fun hc=>?_) (fun hc=>?_))|(with_reducible refine Br.b (fun hc=>?_) (fun hc=>?_)))
 all_goals (refine Rt.pure (congrArg iD ?_);unfold refUp;first|rw [if_pos (by assumption)]|rw [if_neg (by assumption)])
theorem sk49 {A B:Prop} (k:B) (h:Hd7 B→A:=by intro hk7q;(first|refine sb0 ?_|refine sb1 ?_|((with_reducible refine' Cp.by ?hc ?_);(case hc=>first|exact HA|exact HB|exact HU|exact am1 _ _ (by assumption)|exact aj2 _ _ (by assumption)))|((with_reducible refine' CE.pure ?hc ?_);(case hc=>first|exact HA|exact HB|exact HU|exact am1 _ _ (by assumption)|exact aj2 _ _ (by assumption))));exact hk7q.run):A:=h ⟨k⟩
theorem bb1 (x:Sch) (i j:Int) (hl:x.kinds.length≤1000000) (hf:∀ k∈x.kinds,k.fields.length≤1000000):APure Tryz.prog 77 [schD x,iD i,iD j] (iD (upIx x i j)):=by
 have HA:=bb3 x i j
 cases hfa:fieldAt x i j with
 | none=>
  rw [atR_no hfa] at HA
  refine APure.of_call (aa4 mixed aa0 Tryz.func77 (by kernel_rfl) rfl Tryz.ntmps77 rfl ?_);intro BB
  repeat' (first|refine sk49 ?_|(intro b;conv=>whnf)|(with_reducible refine Br.d (fun hc=>?_) (fun hc=>?_))|(with_reducible refine Br.b (fun hc=>?_) (fun hc=>?_)))
  refine Rt.pure (congrArg iD ?_);simp [upIx,hfa]
 | some f=>
  rw [atR_fa hfa] at HA
  obtain ⟨h0,h1,k,hk,hkf⟩:=ae3 hfa
  have hfk:=hf k (List.mem_of_getElem? hk)
  have hka:ad9 x i=some k:=by simp [ad9,h0,hk]
  have hkl:=(List.getElem?_eq_some_iff.1 hk).1
  have hU:=aF6 hfa hka
  have HB:=bb3 x i (ab6 k f.up)
  cases hg:fieldAt x i (ab6 k f.up) with
  | none=>
   rw [atR_no hg] at HB
   simp only [hg,aD4,au6] at hU
   refine APure.of_call (aa4 mixed aa0 Tryz.func77 (by kernel_rfl) rfl Tryz.ntmps77 rfl ?_);intro BB
   repeat' (first|refine sk49 ?_|(intro b;conv=>whnf)|(with_reducible refine Br.d (fun hc=>?_) (fun hc=>?_))|(with_reducible refine Br.b (fun hc=>?_) (fun hc=>?_)))
   all_goals (refine Rt.pure (congrArg iD ?_);rw [hU];unfold refUp;(repeat' split) <;> first|rfl|omega)
  | some g=>
   rw [atR_fa hg] at HB
   simp only [hg,aD4] at hU
   by_cases hg1:g.kind=1
   ·have HU:=ty_up1 x i (ab6 k f.up) g hl hg hg1
    refine APure.of_call (aa4 mixed aa0 Tryz.func77 (by kernel_rfl) rfl Tryz.ntmps77 rfl ?_);intro BB
    repeat' (first|refine sk49 ?_|(intro b;conv=>whnf)|(with_reducible refine Br.d (fun hc=>?_) (fun hc=>?_))|(with_reducible refine Br.b (fun hc=>?_) (fun hc=>?_)))
    all_goals (refine Rt.pure (congrArg iD ?_);rw [hU];(repeat' split) <;> first|rfl|omega|(unfold refUp;(repeat' split) <;> first|rfl|omega)|(unfold au6;simp only;unfold refUp;(repeat' split) <;> first|rfl|omega))
   ·refine APure.of_call (aa4 mixed aa0 Tryz.func77 (by kernel_rfl) rfl Tryz.ntmps77 rfl ?_);intro BB
    repeat' (first|refine sk49 ?_|(intro b;conv=>whnf)|(with_reducible refine Br.d (fun hc=>?_) (fun hc=>?_))|(with_reducible refine Br.b (fun hc=>?_) (fun hc=>?_)))
    all_goals (refine Rt.pure (congrArg iD ?_);rw [hU];(repeat' split) <;> first|rfl|omega|(unfold refUp;(repeat' split) <;> first|rfl|omega)|(unfold au6;simp only;unfold refUp;(repeat' split) <;> first|rfl|omega))
end
section
open Go
theorem ba8 {x:Sch} (hV:Vld x):x.kinds.length≤1000000∧(∀ k∈x.kinds,k.fields.length≤1000000):=⟨by have:=hV.nk;omega,fun k hk=>by have:=hV.nf k hk;omega⟩
theorem sk50 {A B:Prop} (k:B) (h:Hd7 B→A:=by intro hk7q;(first|refine sb0 ?_|refine sb1 ?_|((with_reducible refine' Cp.by ?hc ?_);(case hc=>exact bb1 _ _ _ (by assumption) (by assumption)))|((with_reducible refine' CE.pure ?hc ?_);(case hc=>exact bb1 _ _ _ (by assumption) (by assumption))));exact hk7q.run):A:=h ⟨k⟩
theorem cl18 {p:Prop} (h:p:=by simp only [List.length_map,List.length_append,hS2,List.length_cons,List.length_nil];omega):p:=h
theorem aZ8 (x:Sch) (hV:Vld x):APure Tryz.prog 59 [schD x] (slRf (aa6 x)):=by
 obtain ⟨hl,hf⟩:=ba8 hV
 have hnk:=hV.nk
 have hkl:∀ k,(refK x k).length≤1000:=fun k=>aW3 x k (fun k hk=>by have:=hV.nf k hk;omega)
 refine APure.of_call (aa4 mixed aa0 Tryz.func59 (by kernel_rfl) rfl Tryz.ntmps59 rfl ?_);intro BB
 repeat' (first|refine sk50 ?_|(intro b;conv=>whnf)|refine IxM.mk fun y hy=>?_)
 refine aa9 mixed aa0 (γ:=Nat × Value × aa1) (fun g=>[(3,.v g.2.1),(11,iD g.1)]) (fun g=>g.2.2) (fun g=>g.1≤x.kinds.length∧RowIs 121 4 ((upTo g.1 (refK x)).map rfC) g.2.1 g.2.2) (fun g=>x.kinds.length - g.1) (0,.slice none 0 0,[]) (aa2 cl2) cl3 ⟨Nat.zero_le _,RowIs.nil _ _⟩ ?_
 rintro ⟨q,v,s⟩ ⟨hq,hrow⟩
 simp only at hq hrow ⊢
 have hlen:=aj1 hkl q
 repeat' (first|refine sk50 ?_|(intro b;conv=>whnf)|refine IxM.mk fun y hy=>?_|(with_reducible refine Br.d (fun hc=>?_) (fun hc=>?_))|(with_reducible refine Br.b (fun hc=>?_) (fun hc=>?_)))
 ·have hy:x.kinds[q]?=some y:=hy
  have hyf:=hV.nf y (List.mem_of_getElem? hy)
  have hS:=ag8 q (refK x)
  rw [show refK x q=upTo y.fields.length (refF x q y) by simp only [refK,hy]] at hS
  generalize b=b5
  refine aa9 mixed aa0 (γ:=Nat × Value × aa1) (fun g=>[(3,.v g.2.1),(19,iD g.1)]) (fun g=>(b5,.cells 97 (kndC y)) :: g.2.2) (fun g=>g.1≤y.fields.length∧RowIs 121 4 ((upTo q (refK x) ++ upTo g.1 (refF x q y)).map rfC) g.2.1 g.2.2) (fun g=>y.fields.length - g.1) (0,v,s) (aa2 cl2) cl3 ⟨Nat.zero_le _,by simpa [upTo] using hrow⟩ ?_
  rintro ⟨j,v,s⟩ ⟨hj,hrow⟩
  simp only at hj hrow ⊢
  have hlen2:=aj1 (aW4 x q y) j
  have hS2:=ag8 j (refF x q y)
  by_cases hjl:j<y.fields.length
  ·obtain ⟨f,hf0⟩:∃ f,y.fields[j]?=some f:=⟨_,List.getElem?_eq_getElem hjl⟩
   have hf0':y.fields[((j:Nat):Int).toNat]?=some f:=hf0
   rw [show refF x q y j=if f.kind=1 then [⟨q,j,upIx x q j,f.lo⟩] else [] by simp only [refF,hf0]] at hS2
   repeat' (first|refine sk50 ?_|(intro b;conv=>whnf)|refine IxM.mk fun y hy=>?_|(with_reducible refine Br.d (fun hc=>?_) (fun hc=>?_))|(with_reducible refine Br.b (fun hc=>?_) (fun hc=>?_)))
   ·rw [if_pos (by assumption)] at hS2
    refine Ap.go rfl rfl rfl rfl hrow (perm2 _ _ _) rfl (zs:=(upTo q (refK x) ++ upTo (j+1) (refF x q y)).map rfC) (by rw [hS2,← List.append_assoc];simp [rfC]) cl18 cl18 (fun s'=>_ :: _ :: s') (perm2' _ _) (fun a' c' s' hr'=>?_)
    repeat' (first|refine sk50 ?_|(intro b;conv=>whnf)|refine IxM.mk fun y hy=>?_)
    exact ⟨(j+1,_,s'),(aa2 cl2),cl3,⟨by simp only;omega,hr'⟩,by simp only;omega⟩
   ·rw [if_neg (by assumption),List.append_nil] at hS2
    exact ⟨(j+1,v,s),(aa2 cl2),cl3,⟨by simp only;omega,by simp only;rw [hS2];exact hrow⟩,by simp only;omega⟩
  ·obtain rfl:j=y.fields.length:=by omega
   repeat' (first|refine sk50 ?_|(intro b;conv=>whnf)|refine IxM.mk fun y hy=>?_|(with_reducible refine Br.d (fun hc=>?_) (fun hc=>?_))|(with_reducible refine Br.b (fun hc=>?_) (fun hc=>?_)))
   exact ⟨(q+1,v,s),(aa2 cl2),cl3,⟨by simp only;omega,by simp only;rw [hS];exact hrow⟩,by simp only;omega⟩
 ·obtain rfl:q=x.kinds.length:=by omega
  exact Rt.vs (Vs.row hrow (aM8 _))
theorem sk51 {A B:Prop} (k:B) (h:Hd7 B→A:=by intro hk7q;(first|refine sb0 ?_|refine sb1 ?_|((with_reducible refine' Cp.by ?hc ?_);(case hc=>exact aC8 _ _ _ (by assumption) (by assumption)))|((with_reducible refine' CE.pure ?hc ?_);(case hc=>exact aC8 _ _ _ (by assumption) (by assumption))));exact hk7q.run):A:=h ⟨k⟩
theorem r31_refs (x:Sch) (hV:Vld x):APure Tryz.prog 61 [schD x] (slRf (aa6 x)):=by
 obtain ⟨hl,hf⟩:=ba8 hV
 have hnk:=hV.nk
 have hkl:∀ k,(refK x k).length≤1000:=fun k=>aW3 x k (fun k hk=>by have:=hV.nf k hk;omega)
 refine APure.of_call (aa4 mixed aa0 Tryz.func61 (by kernel_rfl) rfl Tryz.ntmps61 rfl ?_);intro BB
 repeat' (first|refine sk51 ?_|(intro b;conv=>whnf))
 refine aa9 mixed aa0 (γ:=Nat × Value × aa1) (fun g=>[(3,.v g.2.1),(4,iD g.1)]) (fun g=>g.2.2) (fun g=>g.1≤x.kinds.length∧RowIs 125 4 ((upTo g.1 (refK x)).map rfC) g.2.1 g.2.2) (fun g=>x.kinds.length - g.1) (0,.slice none 0 0,[]) (aa2 cl2) cl3 ⟨Nat.zero_le _,RowIs.nil _ _⟩ ?_
 rintro ⟨q,v,s⟩ ⟨hq,hrow⟩
 simp only at hq hrow ⊢
 have hlen:=aj1 hkl q
 by_cases hql:q<x.kinds.length
 ·obtain ⟨y,hy⟩:∃ y,x.kinds[q]?=some y:=⟨_,List.getElem?_eq_getElem hql⟩
  have hy':x.kinds[((q:Nat):Int).toNat]?=some y:=hy
  have hyf:=hV.nf y (List.mem_of_getElem? hy)
  have hS:=ag8 q (refK x)
  rw [show refK x q=upTo y.fields.length (refF x q y) by simp only [refK,hy]] at hS
  repeat' (first|refine sk51 ?_|(intro b;conv=>whnf))
  refine aa9 mixed aa0 (γ:=Nat × Value × aa1) (fun g=>[(3,.v g.2.1),(5,iD g.1)]) (fun g=>g.2.2) (fun g=>g.1≤y.fields.length∧RowIs 125 4 ((upTo q (refK x) ++ upTo g.1 (refF x q y)).map rfC) g.2.1 g.2.2) (fun g=>y.fields.length - g.1) (0,v,s) (aa2 cl2) cl3 ⟨Nat.zero_le _,by simpa [upTo] using hrow⟩ ?_
  rintro ⟨j,v,s⟩ ⟨hj,hrow⟩
  simp only at hj hrow ⊢
  have hlen2:=aj1 (aW4 x q y) j
  have hS2:=ag8 j (refF x q y)
  by_cases hjl:j<y.fields.length
  ·obtain ⟨f,hf0⟩:∃ f,y.fields[j]?=some f:=⟨_,List.getElem?_eq_getElem hjl⟩
   have hf0':y.fields[((j:Nat):Int).toNat]?=some f:=hf0
   rw [show refF x q y j=if f.kind=1 then [⟨q,j,upIx x q j,f.lo⟩] else [] by simp only [refF,hf0]] at hS2
   repeat' (first|refine sk51 ?_|(intro b;conv=>whnf)|(with_reducible refine Br.d (fun hc=>?_) (fun hc=>?_))|(with_reducible refine Br.b (fun hc=>?_) (fun hc=>?_)))
   ·rw [if_pos (by assumption)] at hS2
    refine Ap.go rfl rfl rfl rfl hrow (aM8 _) rfl (zs:=(upTo q (refK x) ++ upTo (j+1) (refF x q y)).map rfC) (by rw [hS2,← List.append_assoc];simp [rfC]) cl18 cl18 (fun s'=>s') aS4 (fun a' c' s' hr'=>?_)
    repeat' (first|refine sk51 ?_|(intro b;conv=>whnf))
    exact ⟨(j+1,_,s'),(aa2 cl2),cl3,⟨by simp only;omega,hr'⟩,by simp only;omega⟩
   ·rw [if_neg (by assumption),List.append_nil] at hS2
    exact ⟨(j+1,v,s),(aa2 cl2),cl3,⟨by simp only;omega,by simp only;rw [hS2];exact hrow⟩,by simp only;omega⟩
  ·obtain rfl:j=y.fields.length:=by omega
   repeat' (first|refine sk51 ?_|(intro b;conv=>whnf)|(with_reducible refine Br.d (fun hc=>?_) (fun hc=>?_))|(with_reducible refine Br.b (fun hc=>?_) (fun hc=>?_)))
   exact ⟨(q+1,v,s),(aa2 cl2),cl3,⟨by simp only;omega,by simp only;rw [hS];exact hrow⟩,by simp only;omega⟩
 ·obtain rfl:q=x.kinds.length:=by omega
  repeat' (first|refine sk51 ?_|(intro b;conv=>whnf)|(with_reducible refine Br.d (fun hc=>?_) (fun hc=>?_))|(with_reducible refine Br.b (fun hc=>?_) (fun hc=>?_)))
  exact Rt.vs (Vs.row hrow (aM8 _))
end
section
open Go
structure Snd (x:Sch):Prop where
 no:au4 x=[]
 vld:Vld x
 up:∀ r∈aa6 x,0≤r.up∧r.up<r.kind∧r.kind<x.kinds.length
theorem aJ4 (x:Sch) (k i:Int) (h:0≤upIx x k i):upIx x k i<k:=by
 unfold upIx at h ⊢
 have key:∀ f,0≤refUp x k f→refUp x k f<k:=fun f h=>by
  unfold refUp at h ⊢
  split
  ·assumption
  ·rename_i hn;rw [if_neg hn] at h;omega
 split
 ·rename_i e;rw [e] at h;simp at h
 ·rename_i f e
  rw [e] at h
  simp only at h
  split
  ·rename_i h1
   rw [if_pos h1] at h
   cases hu:upField x k i f with
   | none=>rw [hu] at h;simp [au6] at h
   | some g=>rw [hu] at h;exact key g h
  ·rename_i h1
   rw [if_neg h1] at h
   split
   ·rename_i h2;rw [if_pos h2] at h;exact key f h
   ·rename_i h2;rw [if_neg h2] at h;omega
theorem one_nil {k f r e:Int} (h:one k f r e=[]):e=0:=by
 unfold one at h;split at h
 ·assumption
 ·cases h
theorem upTo_nil {α:Type} {q:Nat} {g:Nat→List α} (h:upTo q g=[]) (i:Nat) (hi:i<q):g i=[]:=by
 unfold upTo at h
 rw [List.flatMap_eq_nil_iff] at h
 exact h i (List.mem_range.2 hi)
theorem bb8 {x:Sch} (h:au4 x=[]) {k:Nat} {kd:Knd} {i:Nat} {f:Fld} (hk:x.kinds[k]?=some kd) (hf:kd.fields[i]?=some f):¬ ab6 kd f.name<i∧ac2 x k i f=0:=by
 unfold au4 at h
 split at h
 ·simp only [List.append_eq_nil_iff] at h
  have h1:=upTo_nil h.1.2 k (List.getElem?_eq_some_iff.1 hk).1
  simp only [ak8,hk,List.append_eq_nil_iff] at h1
  have h2:=upTo_nil h1.2 i (List.getElem?_eq_some_iff.1 hf).1
  simp only [ag3,hf] at h2
  have h3:=one_nil h2
  unfold aI5 at h3
  split at h3
  ·omega
  ·exact ⟨by assumption,h3⟩
 ·cases h
theorem snd_valid {x:Sch} (h:au4 x=[]):af9 x=0:=by
 unfold au4 at h
 split at h
 ·assumption
 ·cases h
theorem snd_of {x:Sch} (h:au4 x=[]):Snd x:=by
 refine ⟨h,vld_of0 (snd_valid h),fun r hr=>?_⟩
 obtain ⟨kd,f,h1,h2,h3,h4,_⟩:=az5 hr
 have h5:=(bb8 h h1 h2).2
 have h6:0≤upIx x r.kind r.field:=by
  unfold ac2 at h5
  rw [if_neg (by omega),if_neg (by omega),if_pos h3] at h5
  split at h5
  ·cases h5
  ·omega
 rw [h4]
 exact ⟨h6,aJ4 x _ _ h6,(List.getElem?_eq_some_iff.1 h1).1⟩
theorem ix_w1 {f:FuncId} {c1 c2:List D} (l:List (List Int)) (p:List Int→Bool) (hl:l.length≤1000000) (hp:∀ y∈l,APure Tryz.prog f [slI y,.ro c1,.ro c2] (bD (p y))):APure Tryz.prog 118 [slW1 l,.clo f [.ro c1,.ro c2]] (iD (idx p l)):=by
 refine APure.of_call (aa4 mixed aa0 Tryz.func118 (by kernel_rfl) rfl Tryz.ntmps118 rfl ?_);intro BB
 repeat' (first|refine sk41 ?_|(intro b;conv=>whnf))
 refine ak7 mixed aa0 (γ:=Nat) (fun k=>[(8,iD k)]) (fun _=>[]) (fun k=>k≤l.length∧∀ i y,i<k→l[i]?=some y→p y=false) (fun k=>l.length - k) 0 rfl rfl ⟨by omega,by omega⟩ ?_
 rintro k ⟨hk,hno⟩
 by_cases hlt:k<l.length
 ·obtain ⟨y,hy⟩:∃ y,l[(k:Int).toNat]?=some y:=⟨_,List.getElem?_eq_getElem hlt⟩
  repeat' (first|refine sk41 ?_|(intro b;conv=>whnf)|(with_reducible refine Br.d (fun hc=>?_) (fun hc=>?_))|(with_reducible refine Br.b (fun hc=>?_) (fun hc=>?_)))
  ·refine Rt.pure (congrArg iD ?_)
   exact (ad6 hy ‹_› hno).symm
  ·exact ⟨k+1,rfl,rfl,⟨by omega,fun i z hi hz=>by
    by_cases e:i=k
    ·subst e;rw [show ((i:Int)).toNat=i from rfl,hz] at hy;cases hy;assumption
    ·exact hno i z (by omega) hz⟩,by omega⟩
 ·repeat' (first|refine sk41 ?_|(intro b;conv=>whnf))
  refine Rt.pure (congrArg iD ?_)
  exact (an9 fun i y hy=>hno i y (by have:=(List.getElem?_eq_some_iff.1 hy).1;omega) hy).symm
theorem sk52 {A B:Prop} (k:B) (h:Hd7 B→A:=by intro hk7q;(first|refine sb0 ?_|refine sb1 ?_|((with_reducible refine' Cp.by ?hc ?_);(case hc=>exact ix_w1 l p hl hp))|((with_reducible refine' CE.pure ?hc ?_);(case hc=>exact ix_w1 l p hl hp)));exact hk7q.run):A:=h ⟨k⟩
theorem any_w1 {f:FuncId} {c1 c2:List D} (l:List (List Int)) (p:List Int→Bool) (hl:l.length≤1000000) (hp:∀ y∈l,APure Tryz.prog f [slI y,.ro c1,.ro c2] (bD (p y))):APure Tryz.prog 88 [slW1 l,.clo f [.ro c1,.ro c2]] (bD (l.any p)):=by
 refine APure.of_call (aa4 mixed aa0 Tryz.func88 (by kernel_rfl) rfl Tryz.ntmps88 rfl ?_);intro BB
 repeat' (first|refine sk52 ?_|(intro b;conv=>whnf))
 refine Rt.pure (congrArg bD ?_)
 exact an5 p l
theorem cl_fits1 (x:Sch) (k:Nat) (r:List Int) (hk:k<x.kinds.length):APure Tryz.prog 89 [slI r,.ro (schC x),.ro [iD k]] (bD (!lenOk x k r)):=by
 obtain ⟨y,hy⟩:∃ y,x.kinds[k]?=some y:=⟨_,List.getElem?_eq_getElem hk⟩
 have hy':x.kinds[((k:Nat):Int).toNat]?=some y:=hy
 refine APure.of_call (aa4 mixed aa0 Tryz.func89 (by kernel_rfl) rfl Tryz.ntmps89 rfl ?_);intro BB
 repeat' (first|refine sk2 ?_|(intro b;conv=>whnf))
 refine Rt.pure (congrArg bD ?_)
 simp [lenOk,hy]
 omega
theorem cl_fits2 (w:Wd) (r:Rf) (l:List Int) (hf:r.field<l.length) (h0:0≤r.up) (hu:r.up<w.length):APure Tryz.prog 90 [slI l,.ro (rfC r),.ro [slW w]] (bD (!refOk w r l)):=by
 obtain ⟨v,hv⟩:∃ v,l[r.field]?=some v:=⟨_,List.getElem?_eq_getElem hf⟩
 have hv':l[((r.field:Nat):Int).toNat]?=some v:=hv
 obtain ⟨z,hz⟩:∃ z,w[r.up.toNat]?=some z:=⟨_,List.getElem?_eq_getElem (by omega)⟩
 refine APure.of_call (aa4 mixed aa0 Tryz.func90 (by kernel_rfl) rfl Tryz.ntmps90 rfl ?_);intro BB
 repeat' (first|refine sk2 ?_|(intro b;conv=>whnf)|(with_reducible refine Br.d (fun hc=>?_) (fun hc=>?_))|(with_reducible refine Br.b (fun hc=>?_) (fun hc=>?_)))
 all_goals (refine Rt.pure (congrArg bD ?_);simp only [refOk,aa3 hv,aa3 hz];simp [*])
end
section
open Go
structure Ws (w:Wd):Prop where
 nk:w.length≤1000
 nr:∀ l∈w,l.length≤1000
 nf:∀ l∈w,∀ r∈l,r.length≤1000
theorem aq4:∀ {w:Wd} (_:∀ l∈w,l.length≤1000) (j:Nat),((w.take j).map List.length).sum≤j*1000
 | [],_,j=>by simp
 | l :: w,_,0=>by simp
 | l :: w,h,j+1=>by
  have h1:=h l (by simp)
  have h2:=aq4 (w:=w) (fun l hl=>h l (by simp [hl])) j
  simp only [List.take_succ_cons,List.map_cons,List.sum_cons]
  omega
theorem aC6 {w:Wd} {j:Nat} {l:List (List Int)} (h:w[j]?=some l):((w.take (j+1)).map List.length).sum=((w.take j).map List.length).sum+l.length:=by
 rw [List.take_add_one,h];simp
theorem aI4 {x:Sch} {w:Wd} {k:Nat} {l:List (List Int)} (hk:w[k]?=some l) (h:l.any (fun r=>!lenOk x k r)=true):aw8 x w=false:=by
 have:be7 x w=false:=by
  unfold be7
  rw [List.all_eq_false]
  refine ⟨k,List.mem_range.2 (List.getElem?_eq_some_iff.1 hk).1,?_⟩
  rw [aa3 hk]
  rw [List.any_eq_true] at h
  obtain ⟨r,hr,hn⟩:=h
  simp only [Bool.not_eq_true,List.all_eq_false]
  exact ⟨r,hr,by simpa using hn⟩
 unfold aw8;rw [this];simp
theorem aP0 {x:Sch} {w:Wd} (h:w.length≠x.kinds.length):aw8 x w=false:=by unfold aw8;simp [h]
theorem aB5 {x:Sch} {w:Wd} {r:Rf} (hr:r∈aa6 x) (h:(w.getD r.kind []).any (fun l=>!refOk w r l)=true):aw8 x w=false:=by
 have:(aa6 x).all (fun r=>(w.getD r.kind []).all (refOk w r))=false:=by
  rw [List.all_eq_false]
  refine ⟨r,hr,?_⟩
  rw [List.any_eq_true] at h
  obtain ⟨l,hl,hn⟩:=h
  simp only [Bool.not_eq_true,List.all_eq_false]
  exact ⟨l,hl,by simpa using hn⟩
 unfold aw8;rw [this];simp
theorem fits_yes {x:Sch} {w:Wd} (h1:w.length=x.kinds.length) (h2:∀ (k:Nat) l,w[k]?=some l→l.any (fun r=>!lenOk x k r)=false) (h3:∀ (q:Nat) r,(aa6 x)[q]?=some r→(w.getD r.kind []).any (fun l=>!refOk w r l)=false):aw8 x w=decide ((aA6 w:Int)≤512):=by
 have e1:be7 x w=true:=by
  unfold be7
  rw [List.all_eq_true]
  intro k hk
  obtain ⟨l,hl⟩:∃ l,w[k]?=some l:=⟨_,List.getElem?_eq_getElem (List.mem_range.1 hk)⟩
  rw [aa3 hl,List.all_eq_true]
  intro r hr
  have:=h2 k l hl
  rw [List.any_eq_false] at this
  simpa using this r hr
 have e2:(aa6 x).all (fun r=>(w.getD r.kind []).all (refOk w r))=true:=by
  rw [List.all_eq_true]
  intro r hr
  obtain ⟨q,hq⟩:=List.getElem?_of_mem hr
  rw [List.all_eq_true]
  intro l hl
  have:=h3 q r hq
  rw [List.any_eq_false] at this
  simpa using this l hl
 unfold aw8
 rw [e1,e2]
 simp [h1]
 omega
theorem aG3 {x:Sch} {w:Wd} {r:Rf} (hr:r∈aa6 x) (h2:∀ (k:Nat) l,w[k]?=some l→l.any (fun r=>!lenOk x k r)=false) {l:List (List Int)} (hl:w[r.kind]?=some l) {y:List Int} (hy:y∈l):r.field<y.length:=by
 obtain ⟨kd,f,h1,h3,_⟩:=az5 hr
 have:=h2 _ _ hl
 rw [List.any_eq_false] at this
 have h5:lenOk x r.kind y=true:=by simpa using this y hy
 simp only [lenOk,h1,decide_eq_true_eq] at h5
 rw [h5]
 exact (List.getElem?_eq_some_iff.1 h3).1
theorem az0 {x:Sch} (hV:Vld x):(aa6 x).length≤6000:=by
 have h1:=aj1 (fun k=>aW3 x k (fun k hk=>by have:=hV.nf k hk;omega)) x.kinds.length
 have:=hV.nk
 unfold aa6;omega
theorem sk53 {A B:Prop} (k:B) (h:Hd7 B→A:=by intro hk7q;(first|refine sb0 ?_|refine sb1 ?_|((with_reducible refine' Cp.by ?hc ?_);(case hc=>first|exact aZ8 _ (by assumption)|exact HR))|((with_reducible refine' CE.pure ?hc ?_);(case hc=>first|exact aZ8 _ (by assumption)|exact HR)));exact hk7q.run):A:=h ⟨k⟩
theorem cl_fits (x:Sch) (hS:Snd x) (w:Wd) (hw:Ws w):APure Tryz.prog 65 [schD x,slW w] (bD (aw8 x w)):=by
 have hV:=hS.vld
 have hnk:=hV.nk
 have hwl:=hw.nk
 have hrl:=az0 hV
 refine APure.of_call (aa4 mixed aa0 Tryz.func65 (by kernel_rfl) rfl Tryz.ntmps65 rfl ?_);intro BB
 repeat' (first|refine sk53 ?_|(intro b;conv=>whnf)|(with_reducible refine Br.d (fun hc=>?_) (fun hc=>?_))|(with_reducible refine Br.b (fun hc=>?_) (fun hc=>?_)))
 rotate_left
 ·refine Rt.pure (congrArg bD ?_);exact (aP0 (by omega)).symm
 ·have hlen:w.length=x.kinds.length:=by omega
  refine aa9 mixed aa0 (γ:=Nat) (fun j=>[(5,iD ((w.take j).map List.length).sum),(18,iD j)]) (fun _=>[]) (fun j=>j≤w.length∧∀ (k:Nat) l,k<j→w[k]?=some l→l.any (fun r=>!lenOk x k r)=false) (fun j=>w.length - j) 0 (aa2 cl2) cl3 ⟨Nat.zero_le _,fun k l h=>by omega⟩ ?_
  rintro j ⟨hj,hno⟩
  by_cases hjl:j<w.length
  ·obtain ⟨l,hl⟩:∃ l,w[j]?=some l:=⟨_,List.getElem?_eq_getElem hjl⟩
   have hl':w[((j:Nat):Int).toNat]?=some l:=hl
   have hs1:=aq4 hw.nr j
   have hs2:=aC6 hl
   have hll:=hw.nr l (List.mem_of_getElem? hl)
   have HR:APure Tryz.prog 88 [slW1 l,.clo 89 [.ro (schC x),.ro [iD j]]] (bD (l.any fun r=>!lenOk x j r)):=any_w1 l _ (by omega) (fun y hy=>cl_fits1 x j y (by omega))
   repeat' (first|refine sk53 ?_|(intro b;conv=>whnf))
   refine CE.pk (APk.peek (.cons (Pk.same _) (.cons (Pk.clo (.cons (Pk.same _) (.cons (Pk.ptr (j:=0) rfl (PkL.refl _)) .nil))) .nil)) HR rfl) ?_
   clear HR
   repeat' (first|refine sk53 ?_|(intro b;conv=>whnf)|(with_reducible refine Br.d (fun hc=>?_) (fun hc=>?_))|(with_reducible refine Br.b (fun hc=>?_) (fun hc=>?_)))
   ·refine Rt.pure (congrArg bD ?_);exact (aI4 hl ‹_›).symm
   ·refine ⟨j+1,(aa2 cl7),cl3,⟨by omega,fun k l' hk hl2=>?_⟩,by omega⟩
    by_cases e:k=j
    ·subst e;cases hl.symm.trans hl2;assumption
    ·exact hno k l' (by omega) hl2
  ·obtain rfl:j=w.length:=by omega
   have hall:∀ (k:Nat) l,w[k]?=some l→l.any (fun r=>!lenOk x k r)=false:=fun k l hk=>hno k l (List.getElem?_eq_some_iff.1 hk).1 hk
   have hs1:=aq4 hw.nr w.length
   repeat' (first|refine sk53 ?_|(intro b;conv=>whnf))
   refine aa9 mixed aa0 (γ:=Nat) (fun q=>[(34,iD q)]) (fun _=>[]) (fun q=>q≤(aa6 x).length∧∀ (k:Nat) r,k<q→(aa6 x)[k]?=some r→(w.getD r.kind []).any (fun l=>!refOk w r l)=false) (fun q=>(aa6 x).length - q) 0 (aa2 cl2) cl3 ⟨Nat.zero_le _,fun k r h=>by omega⟩ ?_
   rintro q ⟨hq,hno2⟩
   by_cases hql:q<(aa6 x).length
   ·obtain ⟨r,hr⟩:∃ r,(aa6 x)[q]?=some r:=⟨_,List.getElem?_eq_getElem hql⟩
    have hr':(aa6 x)[((q:Nat):Int).toNat]?=some r:=hr
    have hrm:=List.mem_of_getElem? hr
    obtain ⟨u1,u2,u3⟩:=hS.up r hrm
    obtain ⟨l,hl⟩:∃ l,w[r.kind]?=some l:=⟨_,List.getElem?_eq_getElem (by omega)⟩
    have hl':w[((r.kind:Nat):Int).toNat]?=some l:=hl
    have hll:=hw.nr l (List.mem_of_getElem? hl)
    have HR:APure Tryz.prog 88 [slW1 l,.clo 90 [.ro (rfC r),.ro [slW w]]] (bD (l.any fun y=>!refOk w r y)):=any_w1 l _ (by omega) (fun y hy=>cl_fits2 w r y (aG3 hrm hall hl hy) u1 (by omega))
    repeat' (first|refine sk53 ?_|(intro b;conv=>whnf))
    refine CE.pk (APk.peek (.cons (Pk.same _) (.cons (Pk.clo (.cons (Pk.ptr (j:=0) rfl (PkL.refl _)) (.cons (Pk.same _) .nil))) .nil)) HR rfl) ?_
    clear HR
    repeat' (first|refine sk53 ?_|(intro b;conv=>whnf)|(with_reducible refine Br.d (fun hc=>?_) (fun hc=>?_))|(with_reducible refine Br.b (fun hc=>?_) (fun hc=>?_)))
    ·refine Rt.pure (congrArg bD ?_);exact (aB5 hrm (by rw [aa3 hl];assumption)).symm
    ·refine ⟨q+1,(aa2 cl2),cl3,⟨by omega,fun k r' hk hr2=>?_⟩,by omega⟩
     by_cases e:k=q
     ·subst e;cases hr.symm.trans hr2;rw [aa3 hl];assumption
     ·exact hno2 k r' (by omega) hr2
   ·obtain rfl:q=(aa6 x).length:=by omega
    repeat' (first|refine sk53 ?_|(intro b;conv=>whnf))
    refine Rt.pure (congrArg bD ?_)
    rw [fits_yes hlen hall (fun q r h=>hno2 q r (List.getElem?_eq_some_iff.1 h).1 h)]
    unfold aA6
    rw [List.take_of_length_le (Nat.le_refl _)]
end
section
open Go
theorem any_no {α:Type} {p:α→Bool} {l:List α} (h:∀ (i:Nat) y,i<l.length→l[i]?=some y→p y=false):l.any p=false:=by
 rw [List.any_eq_false]
 intro y hy
 obtain ⟨i,hi⟩:=List.getElem?_of_mem hy
 simp [h i y (List.getElem?_eq_some_iff.1 hi).1 hi]
theorem any_at {α:Type} {p:α→Bool} {l:List α} {i:Nat} {y:α} (h:l[i]?=some y) (hp:p y=true):l.any p=true:=List.any_eq_true.2 ⟨y,List.mem_of_getElem? h,hp⟩
theorem sk54 {A B:Prop} (k:B) (h:Hd7 B→A:=by intro hk7q;(first|refine sb0 ?_|refine sb1 ?_|((with_reducible refine' Cp.by ?hc ?_);(case hc=>exact r31_refs _ (by assumption)))|((with_reducible refine' CE.pure ?hc ?_);(case hc=>exact r31_refs _ (by assumption))));exact hk7q.run):A:=h ⟨k⟩
theorem r31_fits (x:Sch) (hS:Snd x) (w:Wd) (hw:Ws w):APure Tryz.prog 37 [schD x,slW w] (bD (aw8 x w)):=by
 have hV:=hS.vld
 have hnk:=hV.nk
 have hwl:=hw.nk
 have hrl:=az0 hV
 refine APure.of_call (aa4 mixed aa0 Tryz.func37 (by kernel_rfl) rfl Tryz.ntmps37 rfl ?_);intro BB
 repeat' (first|refine sk54 ?_|(intro b;conv=>whnf)|(with_reducible refine Br.d (fun hc=>?_) (fun hc=>?_))|(with_reducible refine Br.b (fun hc=>?_) (fun hc=>?_)))
 rotate_left
 ·refine Rt.pure (congrArg bD ?_);exact (aP0 (by omega)).symm
 have hlen:w.length=x.kinds.length:=by omega
 refine aa9 mixed aa0 (γ:=Nat) (fun j=>[(5,iD ((w.take j).map List.length).sum),(6,iD j)]) (fun _=>[]) (fun j=>j≤w.length∧∀ (k:Nat) l,k<j→w[k]?=some l→l.any (fun r=>!lenOk x k r)=false) (fun j=>w.length - j) 0 (aa2 cl2) cl3 ⟨Nat.zero_le _,fun k l h=>by omega⟩ ?_
 rintro j ⟨hj,hno⟩
 by_cases hjl:j<w.length
 ·obtain ⟨l,hl⟩:∃ l,w[j]?=some l:=⟨_,List.getElem?_eq_getElem hjl⟩
  have hl':w[((j:Nat):Int).toNat]?=some l:=hl
  obtain ⟨kd,hkd⟩:∃ kd,x.kinds[j]?=some kd:=⟨_,List.getElem?_eq_getElem (by omega)⟩
  have hkd':x.kinds[((j:Nat):Int).toNat]?=some kd:=hkd
  have hs1:=aq4 hw.nr j
  have hs2:=aC6 hl
  have hll:=hw.nr l (List.mem_of_getElem? hl)
  repeat' (first|refine sk54 ?_|(intro b;conv=>whnf))
  refine aa9 mixed aa0 (γ:=Nat) (fun i=>[(7,iD i)]) (fun _=>[]) (fun i=>i≤l.length∧∀ (m:Nat) y,m<i→l[m]?=some y→(!lenOk x j y)=false) (fun i=>l.length - i) 0 (aa2 cl2) cl3 ⟨Nat.zero_le _,fun k l h=>by omega⟩ ?_
  rintro i ⟨hi,hni⟩
  by_cases hil:i<l.length
  ·obtain ⟨y,hy⟩:∃ y,l[i]?=some y:=⟨_,List.getElem?_eq_getElem hil⟩
   have hy':l[((i:Nat):Int).toNat]?=some y:=hy
   repeat' (first|refine sk54 ?_|(intro b;conv=>whnf)|(with_reducible refine Br.d (fun hc=>?_) (fun hc=>?_))|(with_reducible refine Br.b (fun hc=>?_) (fun hc=>?_)))
   ·refine ⟨i+1,(aa2 cl2),cl3,⟨by omega,fun m z hm hz=>?_⟩,by omega⟩
    by_cases e:m=i
    ·subst e;cases hy.symm.trans hz;simp only [lenOk,hkd];simp;omega
    ·exact hni m z (by omega) hz
   ·refine Rt.pure (congrArg bD ?_);exact (aI4 hl (any_at hy (by simp only [lenOk,hkd];simp;omega))).symm
  ·obtain rfl:i=l.length:=by omega
   repeat' (first|refine sk54 ?_|(intro b;conv=>whnf))
   refine ⟨j+1,(aa2 cl7),cl3,⟨by omega,fun k l' hk hl2=>?_⟩,by omega⟩
   by_cases e:k=j
   ·subst e;cases hl.symm.trans hl2;exact any_no (fun i y h h2=>hni i y h h2)
   ·exact hno k l' (by omega) hl2
 ·obtain rfl:j=w.length:=by omega
  have hall:∀ (k:Nat) l,w[k]?=some l→l.any (fun r=>!lenOk x k r)=false:=fun k l hk=>hno k l (List.getElem?_eq_some_iff.1 hk).1 hk
  have hs1:=aq4 hw.nr w.length
  repeat' (first|refine sk54 ?_|(intro b;conv=>whnf))
  refine aa9 mixed aa0 (γ:=Nat) (fun q=>[(9,iD q)]) (fun _=>[]) (fun q=>q≤(aa6 x).length∧∀ (k:Nat) r,k<q→(aa6 x)[k]?=some r→(w.getD r.kind []).any (fun l=>!refOk w r l)=false) (fun q=>(aa6 x).length - q) 0 (aa2 cl2) cl3 ⟨Nat.zero_le _,fun k r h=>by omega⟩ ?_
  rintro q ⟨hq,hno2⟩
  by_cases hql:q<(aa6 x).length
  ·obtain ⟨r,hr⟩:∃ r,(aa6 x)[q]?=some r:=⟨_,List.getElem?_eq_getElem hql⟩
   have hr':(aa6 x)[((q:Nat):Int).toNat]?=some r:=hr
   have hrm:=List.mem_of_getElem? hr
   obtain ⟨u1,u2,u3⟩:=hS.up r hrm
   obtain ⟨l,hl⟩:∃ l,w[r.kind]?=some l:=⟨_,List.getElem?_eq_getElem (by omega)⟩
   have hl':w[((r.kind:Nat):Int).toNat]?=some l:=hl
   obtain ⟨z,hz⟩:∃ z,w[r.up.toNat]?=some z:=⟨_,List.getElem?_eq_getElem (by omega)⟩
   have hll:=hw.nr l (List.mem_of_getElem? hl)
   repeat' (first|refine sk54 ?_|(intro b;conv=>whnf))
   refine aa9 mixed aa0 (γ:=Nat) (fun i=>[(11,iD i)]) (fun _=>[]) (fun i=>i≤l.length∧∀ (m:Nat) y,m<i→l[m]?=some y→(!refOk w r y)=false) (fun i=>l.length - i) 0 (aa2 cl2) cl3 ⟨Nat.zero_le _,fun k l h=>by omega⟩ ?_
   rintro i ⟨hi,hni⟩
   by_cases hil:i<l.length
   ·obtain ⟨y,hy⟩:∃ y,l[i]?=some y:=⟨_,List.getElem?_eq_getElem hil⟩
    have hy':l[((i:Nat):Int).toNat]?=some y:=hy
    have hfl:=aG3 hrm hall hl (List.mem_of_getElem? hy)
    obtain ⟨v,hv⟩:∃ v,y[r.field]?=some v:=⟨_,List.getElem?_eq_getElem hfl⟩
    have hv':y[((r.field:Nat):Int).toNat]?=some v:=hv
    have hok:(!refOk w r y)=(decide (v<0) || decide (z.length≤v)):=by simp only [refOk,aa3 hv,aa3 hz];simp
    repeat' (first|refine sk54 ?_|(intro b;conv=>whnf)|(with_reducible refine Br.d (fun hc=>?_) (fun hc=>?_))|(with_reducible refine Br.b (fun hc=>?_) (fun hc=>?_)))
    ·refine Rt.pure (congrArg bD ?_);exact (aB5 hrm (by rw [aa3 hl];exact any_at hy (by rw [hok];simp [*]))).symm
    ·refine Rt.pure (congrArg bD ?_);exact (aB5 hrm (by rw [aa3 hl];exact any_at hy (by rw [hok];simp [*]))).symm
    ·refine ⟨i+1,(aa2 cl2),cl3,⟨by omega,fun m z hm hz=>?_⟩,by omega⟩
     by_cases e:m=i
     ·subst e;cases hy.symm.trans hz;rw [hok];simp;omega
     ·exact hni m z (by omega) hz
   ·obtain rfl:i=l.length:=by omega
    repeat' (first|refine sk54 ?_|(intro b;conv=>whnf))
    refine ⟨q+1,(aa2 cl2),cl3,⟨by omega,fun k r' hk hr2=>?_⟩,by omega⟩
    by_cases e:k=q
    ·subst e;cases hr.symm.trans hr2;rw [aa3 hl];exact any_no (fun i y h h2=>hni i y h h2)
    ·exact hno2 k r' (by omega) hr2
  ·obtain rfl:q=(aa6 x).length:=by omega
   repeat' (first|refine sk54 ?_|(intro b;conv=>whnf))
   refine Rt.pure (congrArg bD ?_)
   rw [fits_yes hlen hall (fun q r h=>hno2 q r (List.getElem?_eq_some_iff.1 h).1 h)]
   unfold aA6
   rw [List.take_of_length_le (Nat.le_refl _)]
end
section
open Go
theorem sk55 {A B:Prop} (k:B) (h:Hd7 B→A:=by intro hk7q;(first|refine sb0 ?_|refine sb1 ?_|((with_reducible refine' Cp.by ?hc ?_);(case hc=>first|exact am1 _ _ (by assumption)|exact bb1 _ _ _ (by assumption) (by assumption)))|((with_reducible refine' CE.pure ?hc ?_);(case hc=>first|exact am1 _ _ (by assumption)|exact bb1 _ _ _ (by assumption) (by assumption))));exact hk7q.run):A:=h ⟨k⟩
theorem aF7 (x:Sch) (i:Int) (f:Fld) (hi:0≤i) (hl:x.kinds.length≤1000000) (hf:∀ k∈x.kinds,k.fields.length≤1000000):APure Tryz.prog 103 [schD x,iD i,fldD f] (.tup [iD (al7 x i f).1,slI (al7 x i f).2]):=by
 refine APure.of_call (aa4 mixed aa0 Tryz.func103 (by kernel_rfl) rfl Tryz.ntmps103 rfl ?_);intro BB
 have hkl:=aN9 x f.of
 have hno:f.kind≠6∨ab3 x f.of≤i→al7 x i f=(-1,[]):=fun h=>by unfold al7;rw [aH2 h];rfl
 repeat' (first|refine sk55 ?_|(intro b;conv=>whnf)|refine IxM.mk fun y hy=>?_|(with_reducible refine Br.d (fun hc=>?_) (fun hc=>?_))|(with_reducible refine Br.b (fun hc=>?_) (fun hc=>?_)))
 ·rw [hno (by omega)]
  exact Rt.vs (Vs.tup (VsL.cons (Vs.refl _ _) (VsL.cons (vs_nil _ _) (VsL.nil _))))
 ·obtain ⟨ko,rfl⟩:∃ ko,ko=y:=⟨_,rfl⟩
  have hko:=hy
  clear hy
  have h6:f.kind=6:=by omega
  have hno':=aH3 (x:=x) (i:=i) h6 (by omega)
  obtain ⟨o,ho⟩:=Int.eq_ofNat_of_zero_le (show 0≤ab3 x f.of by omega)
  rw [ho] at hko
  have hko:x.kinds[o]?=some ko:=hko
  have hS:al7 x i f=((o:Int),ai5 x o i f ko.fields ko.fields.length):=by
   unfold al7;rw [hno',aL9 x i f o ko ho hko,ho];rfl
  have hfk:=hf ko (List.mem_of_getElem? hko)
  rw [ho]
  refine aa9 mixed aa0 (γ:=Nat × Value × aa1) (fun g=>[(9,.v g.2.1),(31,iD g.1)]) (fun g=>g.2.2) (fun g=>g.1≤ko.fields.length∧RowIs 3 1 (slN (ai5 x o i f ko.fields g.1)) g.2.1 g.2.2) (fun g=>ko.fields.length - g.1) (0,.slice none 0 0,[]) rfl cl3 ⟨Nat.zero_le _,RowIs.nil _ _⟩ ?_
  rintro ⟨q,v,s⟩ ⟨hq,hrow⟩
  simp only at hq hrow ⊢
  repeat' (first|refine sk55 ?_|(intro b;conv=>whnf)|refine IxM.mk fun y hy=>?_|(with_reducible refine Br.d (fun hc=>?_) (fun hc=>?_))|(with_reducible refine Br.b (fun hc=>?_) (fun hc=>?_)))
  ·have hsh:aq8 x o i f y q=true:=by simp [aq8,seq, *]
   have Hs:=ap6 x o i f ko.fields q y hy
   rw [hsh,if_pos rfl] at Hs
   have hlen:=aH1 x o i f ko.fields (q+1)
   refine Ap.go rfl rfl rfl rfl hrow (perm1 _ _) rfl (zs:=slN (ai5 x o i f ko.fields (q+1))) (by rw [Hs];simp only [slN,List.map_append];rfl) (by simp [slN];omega) (by simp [slN];omega) (fun s'=>_ :: s') (bd6 _) (fun a c s' hr=>?_)
   repeat' (first|refine sk55 ?_|(intro b;conv=>whnf)|refine IxM.mk fun y hy=>?_)
   exact ⟨(q+1,_,s'),rfl,List.Sublist.cons _ (List.Sublist.refl _),⟨by simp only;omega,hr⟩,by simp only;omega⟩
  iterate 3
   have hsh:aq8 x o i f y q=false:=by simp [aq8,seq, *]
   have Hs:=ap6 x o i f ko.fields q y hy
   rw [hsh,if_neg (by simp),List.append_nil] at Hs
   exact ⟨(q+1,v,s),rfl,List.Sublist.cons _ (List.Sublist.refl _),⟨by simp only;omega,by simp only;rw [Hs];exact hrow⟩,by simp only;omega⟩
  ·obtain rfl:q=ko.fields.length:=by omega
   rw [hS]
   exact Rt.vs (Vs.tup (VsL.cons (Vs.refl _ _) (VsL.cons (Vs.row hrow (aM8 _)) (VsL.nil _))))
 ·rw [hno (by omega)]
  exact Rt.vs (Vs.tup (VsL.cons (Vs.refl _ _) (VsL.cons (vs_nil _ _) (VsL.nil _))))
theorem HS1 {x:Sch} {i j:Int} {f:Fld} {o:Int} {l:List Int} (hfa:fieldAt x i j=some f) (hs:al7 x i f=(o,l)):ac6 x i j=aX6 o l:=by
 simp only [ac6,hfa,hs]
theorem sk56 {A B:Prop} (k:B) (h:Hd7 B→A:=by intro hk7q;(first|refine sb0 ?_|refine sb1 ?_|((with_reducible refine' Cp.by ?hc ?_);(case hc=>first|exact HA|exact HS))|((with_reducible refine' CE.pure ?hc ?_);(case hc=>first|exact HA|exact HS)));exact hk7q.run):A:=h ⟨k⟩
theorem ty_Shares (x:Sch) (i j:Int) (hl:x.kinds.length≤1000000) (hf:∀ k∈x.kinds,k.fields.length≤1000000):APure Tryz.prog 78 [schD x,iD i,iD j] (.tup [iD (ac6 x i j).1,iD (ac6 x i j).2]):=by
 have HA:=bb3 x i j
 cases hfa:fieldAt x i j with
 | none=>
  rw [atR_no hfa] at HA
  refine APure.of_call (aa4 mixed aa0 Tryz.func78 (by kernel_rfl) rfl Tryz.ntmps78 rfl ?_);intro BB
  repeat' (first|refine sk56 ?_|(intro b;conv=>whnf)|(with_reducible refine Br.d (fun hc=>?_) (fun hc=>?_))|(with_reducible refine Br.b (fun hc=>?_) (fun hc=>?_)))
  exact Rt.pure (by simp only [ac6,hfa])
 | some f=>
  rw [atR_fa hfa] at HA
  have HS:=aF7 x i f (ae3 hfa).1 hl hf
  rcases hs:al7 x i f with ⟨o,l⟩
  have hsr:=HS1 hfa hs
  rw [hs] at HS
  simp only at HS
  by_cases hl1:l.length=1
  ·obtain ⟨m,rfl⟩:=List.length_eq_one_iff.1 hl1
   refine APure.of_call (aa4 mixed aa0 Tryz.func78 (by kernel_rfl) rfl Tryz.ntmps78 rfl ?_);intro BB
   repeat' (first|refine sk56 ?_|(intro b;conv=>whnf)|(with_reducible refine Br.d (fun hc=>?_) (fun hc=>?_))|(with_reducible refine Br.b (fun hc=>?_) (fun hc=>?_)))
   exact Rt.pure (by rw [hsr];rfl)
  ·have hsr':ac6 x i j=(-1,-1):=by rw [hsr,pick1_no hl1]
   refine APure.of_call (aa4 mixed aa0 Tryz.func78 (by kernel_rfl) rfl Tryz.ntmps78 rfl ?_);intro BB
   repeat' (first|refine sk56 ?_|(intro b;conv=>whnf)|(with_reducible refine Br.d (fun hc=>?_) (fun hc=>?_))|(with_reducible refine Br.b (fun hc=>?_) (fun hc=>?_)))
   exact Rt.pure (by rw [hsr'])
end
section
open Go
theorem aV3 (fs:List (Bool × Int)) (hl:fs.length≤1000):APure Tryz.prog 85 [.sl 2 (fs.map fun p=>[bD p.1,iD p.2])] (iD (am5 fs)):=by
 refine APure.of_call (aa4 mixed aa0 Tryz.func85 (by kernel_rfl) rfl Tryz.ntmps85 rfl ?_);intro BB
 repeat' (first|refine sk2 ?_|(intro b;conv=>whnf)|refine IxM.mk fun y hy=>?_)
 refine aa9 mixed aa0 (γ:=Nat) (fun q=>[(7,iD q)]) (fun _=>[]) (fun q=>q≤fs.length∧∀ (m:Nat) y,m<q→fs[m]?=some y→y.1=false) (fun q=>fs.length - q) 0 rfl cl3 ⟨by omega,fun m y hm=>by omega⟩ ?_
 rintro q ⟨hq,hno⟩
 repeat' (first|refine sk2 ?_|(intro b;conv=>whnf)|refine IxM.mk fun y hy=>?_|(with_reducible refine Br.d (fun hc=>?_) (fun hc=>?_))|(with_reducible refine Br.b (fun hc=>?_) (fun hc=>?_)))
 ·refine Rt.pure (congrArg iD ?_);exact (firstC_at hno hy (by assumption)).symm
 ·exact ⟨q+1,rfl,cl3,⟨by omega,fun m z hm hz=>by
   by_cases e:m=q
   ·subst e;rw [show ((m:Int)).toNat=m from rfl,hz] at hy;cases hy;assumption
   ·exact hno m z (by omega) hz⟩,by omega⟩
 ·refine Rt.pure (congrArg iD ?_);exact (firstC_none (fun m y hy=>hno m y (by have:=(List.getElem?_eq_some_iff.1 hy).1;omega) hy)).symm
theorem ac9 (b:Bool) (c:Int):APure Tryz.prog 85 [.sl 2 [[bD b,iD c]]] (iD (am5 [(b,c)])):=aV3 [(b,c)] (by simp)
theorem ac8 (b:Bool) (c:Int) (b':Bool) (c':Int):APure Tryz.prog 85 [.sl 2 [[bD b,iD c],[bD b',iD c']]] (iD (am5 [(b,c),(b',c')])):=aV3 [(b,c),(b',c')] (by simp)
theorem ao2 (b1 b2 b3 b4:Bool) (c1 c2 c3 c4:Int):APure Tryz.prog 85 [.sl 2 [[bD b1,iD c1],[bD b2,iD c2],[bD b3,iD c3],[bD b4,iD c4]]] (iD (am5 [(b1,c1),(b2,c2),(b3,c3),(b4,c4)])):=aV3 [(b1,c1),(b2,c2),(b3,c3),(b4,c4)] (by simp)
def spotC (x:Sch) (i j:Int) (f:Fld):List D:=[iD x.version,slK x.kinds,slL x.lives,slR x.rules,iD i,iD j,sD f.name,sD f.of,sD f.up,iD f.kind,iD f.lo,iD f.hi,slS f.words,slI f.weights]
abbrev aV6 (x:Sch) (i j:Int) (f:Fld):D:=.agg (spotC x i j f)
theorem sk57 {A B:Prop} (k:B) (h:Hd7 B→A:=by intro hk7q;(first|refine sb0 ?_|refine sb1 ?_|((with_reducible refine' Cp.by ?hc ?_);(case hc=>exact bb1 x _ _ hl hf))|((with_reducible refine' CE.pure ?hc ?_);(case hc=>exact bb1 x _ _ hl hf)));exact hk7q.run):A:=h ⟨k⟩
theorem aV2 (x:Sch) (i j:Int) (f:Fld) (hl:x.kinds.length≤1000000) (hf:∀ k∈x.kinds,k.fields.length≤1000000):APure Tryz.prog 209 [aV6 x i j f] (bD (decide (upIx x i j<0))):=by
 refine APure.of_call (aa4 mixed aa0 Tryz.func209 (by kernel_rfl) rfl Tryz.ntmps209 rfl ?_);intro BB
 repeat' (first|refine sk57 ?_|(intro b;conv=>whnf))
 refine Rt.pure (congrArg bD ?_);rfl
theorem sk58 {A B:Prop} (k:B) (h:Hd7 B→A:=by intro hk7q;(first|refine sb0 ?_|refine sb1 ?_|((with_reducible refine' Cp.by ?hc ?_);(case hc=>first|exact bb1 x _ _ hl hf|exact HA|exact aj2 _ _ (by assumption)))|((with_reducible refine' CE.pure ?hc ?_);(case hc=>first|exact bb1 x _ _ hl hf|exact HA|exact aj2 _ _ (by assumption))));exact hk7q.run):A:=h ⟨k⟩
theorem ty_top (x:Sch) (i j:Int) (f:Fld) (hl:x.kinds.length≤1000000) (hf:∀ k∈x.kinds,k.fields.length≤1000000):APure Tryz.prog 219 [aV6 x i j f] (.tup [fldD (topR x i j f).1,bD (topR x i j f).2]):=by
 have hul:=aV1 x i j
 refine APure.of_call (aa4 mixed aa0 Tryz.func219 (by kernel_rfl) rfl Tryz.ntmps219 rfl ?_);intro BB
 by_cases hu:upIx x i j<0
 ·have ht:topR x i j f=(aK5,false):=by unfold topR;rw [topF_no hu]
  repeat' (first|refine sk58 ?_|(intro b;conv=>whnf)|(with_reducible refine Br.d (fun hc=>?_) (fun hc=>?_))|(with_reducible refine Br.b (fun hc=>?_) (fun hc=>?_)))
  rw [ht]
  exact Rt.vs (Vs.tup (VsL.cons (Vs.le aE3) (VsL.cons (Vs.refl _ _) (VsL.nil _))))
 ·obtain ⟨ko,hko⟩:∃ ko,x.kinds[(upIx x i j).toNat]?=some ko:=⟨_,List.getElem?_eq_getElem (by omega)⟩
  have hfk:=hf ko (List.mem_of_getElem? hko)
  have htf:=topF_at (f:=f) hu hko
  have HA:=bb3 x (upIx x i j) (ab6 ko f.of)
  have ht:topR x i j f=atR x (upIx x i j) (ab6 ko f.of):=by unfold topR atR;rw [htf]
  repeat' (first|refine sk58 ?_|(intro b;conv=>whnf)|(with_reducible refine Br.d (fun hc=>?_) (fun hc=>?_))|(with_reducible refine Br.b (fun hc=>?_) (fun hc=>?_)))
  rw [ht]
  exact Rt.vs (Vs.refl _ _)
end
section
open Go
theorem ap0 (b:Bool) (c:Int):am5 [(b,c)]=if b=true then c else 0:=by cases b <;> rfl
theorem ar1 (b b':Bool) (c c':Int):am5 [(b,c),(b',c')]=if b=true then c else if b'=true then c' else 0:=by cases b <;> cases b' <;> rfl
theorem leads0 {x:Sch} {i j:Int} {f:Fld} (hk:f.kind=0):ac2 x i j f=if 0<j then 13 else 0:=by
 unfold ac2;by_cases h:0<j <;> simp [hk,h]
theorem leads1 {x:Sch} {i j:Int} {f:Fld} (hk:f.kind=1):ac2 x i j f=if upIx x i j<0 then 12 else 0:=by simp [ac2,hk]
theorem leads4 {x:Sch} {i j:Int} {f:Fld} (hk:f.kind=4):ac2 x i j f=dayE x i j f:=by simp [ac2,hk]
theorem leads5 {x:Sch} {i j:Int} {f:Fld} (hk:f.kind=5):ac2 x i j f=if x.lives.any (fun l=>seq l.name f.of) then 0 else 12:=by simp only [ac2,hk];simp
theorem leads6 {x:Sch} {i j:Int} {f:Fld} (hk:f.kind=6):ac2 x i j f=if (al7 x i f).1<0 then 12 else if (al7 x i f).2.length=1 then 0 else 11:=by simp [ac2,hk]
theorem leads7 {x:Sch} {i j:Int} {f:Fld} (hk:f.kind=7):ac2 x i j f=if upIx x i j<0 then 12 else if (abvR x i j f).1=6∧ab3 x (abvR x i j f).2.of=i then 0 else 13:=by simp [ac2,aP8,hk]
theorem leads8 {x:Sch} {i j:Int} {f:Fld} (hk:f.kind=8):ac2 x i j f=if upIx x i j<0 then 12 else if (abvR x i j f).1<0∨(abvR x i j f).1=0∨(abvR x i j f).1=1∨(abvR x i j f).1=6∨(abvR x i j f).1=7 then 13 else 0:=by simp [ac2,aP8,hk]
theorem sk59 {A B:Prop} (k:B) (h:Hd7 B→A:=by intro hk7q;(first|refine sb0 ?_|refine sb1 ?_|((with_reducible refine' Cp.by ?hc ?_);(case hc=>first|exact ac9 _ _|exact ac8 _ _ _ _))|((with_reducible refine' CE.pure ?hc ?_);(case hc=>first|exact ac9 _ _|exact ac8 _ _ _ _)));exact hk7q.run):A:=h ⟨k⟩
theorem ty_check1 (x:Sch) (i j:Int) (f:Fld) (hk:f.kind=0):APure Tryz.prog 212 [aV6 x i j f] (iD (ac2 x i j f)):=by
 refine APure.of_call (aa4 mixed aa0 Tryz.func212 (by kernel_rfl) rfl Tryz.ntmps212 rfl ?_);intro BB
 repeat' (first|refine sk59 ?_|(intro b;conv=>whnf))
 refine Rt.pure (congrArg iD ?_)
 rw [ap0,leads0 hk]
 simp
theorem sk60 {A B:Prop} (k:B) (h:Hd7 B→A:=by intro hk7q;(first|refine sb0 ?_|refine sb1 ?_|((with_reducible refine' Cp.by ?hc ?_);(case hc=>first|exact ac9 _ _|exact ac8 _ _ _ _|exact aV2 x i j f hl hf))|((with_reducible refine' CE.pure ?hc ?_);(case hc=>first|exact ac9 _ _|exact ac8 _ _ _ _|exact aV2 x i j f hl hf)));exact hk7q.run):A:=h ⟨k⟩
theorem ty_check2 (x:Sch) (i j:Int) (f:Fld) (hl:x.kinds.length≤1000000) (hf:∀ k∈x.kinds,k.fields.length≤1000000) (hk:f.kind=1):APure Tryz.prog 213 [aV6 x i j f] (iD (ac2 x i j f)):=by
 refine APure.of_call (aa4 mixed aa0 Tryz.func213 (by kernel_rfl) rfl Tryz.ntmps213 rfl ?_);intro BB
 repeat' (first|refine sk60 ?_|(intro b;conv=>whnf))
 refine Rt.pure (congrArg iD ?_)
 rw [ap0,leads1 hk]
 simp
theorem sk61 {A B:Prop} (k:B) (h:Hd7 B→A:=by intro hk7q;(first|refine sb0 ?_|refine sb1 ?_|((with_reducible refine' Cp.by ?hc ?_);(case hc=>first|exact ac9 _ _|exact ac8 _ _ _ _|exact HA|exact aj2 _ _ (by assumption)))|((with_reducible refine' CE.pure ?hc ?_);(case hc=>first|exact ac9 _ _|exact ac8 _ _ _ _|exact HA|exact aj2 _ _ (by assumption))));exact hk7q.run):A:=h ⟨k⟩
theorem ty_check3 (x:Sch) (i j:Int) (f:Fld) (hl:x.kinds.length≤1000000) (hf:∀ k∈x.kinds,k.fields.length≤1000000) (hfa:fieldAt x i j=some f) (hk:f.kind=4):APure Tryz.prog 214 [aV6 x i j f] (iD (ac2 x i j f)):=by
 obtain ⟨h0,h1,k,hk0,hkf⟩:=ae3 hfa
 have hfk:=hf k (List.mem_of_getElem? hk0)
 have hka:ad9 x i=some k:=by simp [ad9,h0,hk0]
 have hfl:=aq0 k f.of
 rw [leads4 hk]
 simp only [dayE,hka]
 have HA:=bb3 x i (ab6 k f.of)
 by_cases hn:ab6 k f.of<0
 ·rw [atR_none hn] at HA
  refine APure.of_call (aa4 mixed aa0 Tryz.func214 (by kernel_rfl) rfl Tryz.ntmps214 rfl ?_);intro BB
  repeat' (first|refine sk61 ?_|(intro b;conv=>whnf)|(with_reducible refine Br.d (fun hc=>?_) (fun hc=>?_))|(with_reducible refine Br.b (fun hc=>?_) (fun hc=>?_)))
  all_goals (refine Rt.pure (congrArg iD ?_);rw [ap0,← eqE];generalize (f.of.toList == ({ data:=#[] }:ByteArray).toList)=e at *;simp [*])
 ·obtain ⟨g,hg⟩:∃ g,k.fields[(ab6 k f.of).toNat]?=some g:=⟨_,List.getElem?_eq_getElem (by omega)⟩
  rw [ba5 h0 hk0 (by omega) hg] at HA
  rw [hg]
  refine APure.of_call (aa4 mixed aa0 Tryz.func214 (by kernel_rfl) rfl Tryz.ntmps214 rfl ?_);intro BB
  repeat' (first|refine sk61 ?_|(intro b;conv=>whnf)|(with_reducible refine Br.d (fun hc=>?_) (fun hc=>?_))|(with_reducible refine Br.b (fun hc=>?_) (fun hc=>?_)))
  all_goals (refine Rt.pure (congrArg iD ?_);rw [ap0,← eqE];generalize (f.of.toList == ({ data:=#[] }:ByteArray).toList)=e at *;simp [*])
theorem aR0 (x:Sch) (i j:Int) (f:Fld) (y:Lif):APure Tryz.prog 216 [lifD y,.ro (spotC x i j f)] (bD (seq y.name f.of)):=by
 refine APure.of_call (aa4 mixed aa0 Tryz.func216 (by kernel_rfl) rfl Tryz.ntmps216 rfl ?_);intro BB
 repeat' (first|refine sk2 ?_|(intro b;conv=>whnf))
 refine Rt.pure (congrArg bD ?_);rfl
theorem sk62 {A B:Prop} (k:B) (h:Hd7 B→A:=by intro hk7q;(first|refine sb0 ?_|refine sb1 ?_|((with_reducible refine' Cp.by ?hc ?_);(case hc=>first|exact ac9 _ _|exact ac8 _ _ _ _|exact any_lif x.lives (fun y=>seq y.name f.of) hll (fun y _=>aR0 x i j f y)))|((with_reducible refine' CE.pure ?hc ?_);(case hc=>first|exact ac9 _ _|exact ac8 _ _ _ _|exact any_lif x.lives (fun y=>seq y.name f.of) hll (fun y _=>aR0 x i j f y))));exact hk7q.run):A:=h ⟨k⟩
theorem ty_check4 (x:Sch) (i j:Int) (f:Fld) (hll:x.lives.length≤1000000) (hk:f.kind=5):APure Tryz.prog 215 [aV6 x i j f] (iD (ac2 x i j f)):=by
 refine APure.of_call (aa4 mixed aa0 Tryz.func215 (by kernel_rfl) rfl Tryz.ntmps215 rfl ?_);intro BB
 repeat' (first|refine sk62 ?_|(intro b;conv=>whnf))
 refine Rt.pure (congrArg iD ?_)
 rw [ap0,leads5 hk]
 cases x.lives.any (fun l=>seq l.name f.of) <;> rfl
theorem sk63 {A B:Prop} (k:B) (h:Hd7 B→A:=by intro hk7q;(first|refine sb0 ?_|refine sb1 ?_|((with_reducible refine' Cp.by ?hc ?_);(case hc=>first|exact ac9 _ _|exact ac8 _ _ _ _|exact aF7 x i f h0 hl hf))|((with_reducible refine' CE.pure ?hc ?_);(case hc=>first|exact ac9 _ _|exact ac8 _ _ _ _|exact aF7 x i f h0 hl hf)));exact hk7q.run):A:=h ⟨k⟩
theorem ty_check5 (x:Sch) (i j:Int) (f:Fld) (h0:0≤i) (hl:x.kinds.length≤1000000) (hf:∀ k∈x.kinds,k.fields.length≤1000000) (hk:f.kind=6):APure Tryz.prog 217 [aV6 x i j f] (iD (ac2 x i j f)):=by
 refine APure.of_call (aa4 mixed aa0 Tryz.func217 (by kernel_rfl) rfl Tryz.ntmps217 rfl ?_);intro BB
 repeat' (first|refine sk63 ?_|(intro b;conv=>whnf))
 refine Rt.pure (congrArg iD ?_)
 rw [ar1,leads6 hk]
 simp only [List.length_map]
 by_cases h1:(al7 x i f).1<0 <;> by_cases h2:(al7 x i f).2.length=1 <;> simp [h1,h2] <;> omega
theorem abv_top {x:Sch} {i j:Int} {f:Fld}:(abvR x i j f).1=(if (topR x i j f).2=true then (topR x i j f).1.kind else -1)∧(abvR x i j f).2=(topR x i j f).1:=by
 unfold abvR topR;cases topF x i j f <;> simp
theorem copy_eq {k u:Int} (B:Bool) (p:Bool) (h:0≤k∧k≤8) (hB:B=true↔(k=0∨k=1∨k=6∨k=7)) {_hp:p=decide (u<0)} :
  (if p=true then (12:Int) else if B=true then 13 else 0)=if u<0 then 12 else if (if true=true then k else -1)<0∨(if true=true then k else -1)=0∨(if true=true then k else -1)=1∨(if true=true then k else -1)=6∨(if true=true then k else -1)=7 then 13 else 0:=by
 subst _hp
 simp only [if_true,decide_eq_true_eq]
 by_cases hu:u<0
 ·rw [if_pos hu,if_pos hu]
 ·rw [if_neg hu,if_neg hu]
  by_cases hb:B=true
  ·rw [if_pos hb,if_pos (by have:=hB.1 hb;omega)]
  ·rw [if_neg hb,if_neg (by intro h';exact hb (hB.2 (by omega)))]
theorem sk64 {A B:Prop} (k:B) (h:Hd7 B→A:=by intro hk7q;(first|refine sb0 ?_|refine sb1 ?_|((with_reducible refine' Cp.by ?hc ?_);(case hc=>first|exact ac9 _ _|exact ac8 _ _ _ _|exact aV2 x i j f hl hf|exact HT|exact am1 _ _ (by assumption)))|((with_reducible refine' CE.pure ?hc ?_);(case hc=>first|exact ac9 _ _|exact ac8 _ _ _ _|exact aV2 x i j f hl hf|exact HT|exact am1 _ _ (by assumption))));exact hk7q.run):A:=h ⟨k⟩
theorem ty_check6 (x:Sch) (i j:Int) (f:Fld) (hl:x.kinds.length≤1000000) (hf:∀ k∈x.kinds,k.fields.length≤1000000) (hk:f.kind=7):APure Tryz.prog 218 [aV6 x i j f] (iD (ac2 x i j f)):=by
 rw [leads7 hk,abv_top.1,abv_top.2]
 have HT:=ty_top x i j f hl hf
 rcases ht:topR x i j f with ⟨g,b⟩
 rw [ht] at HT
 simp only at HT ⊢
 refine APure.of_call (aa4 mixed aa0 Tryz.func218 (by kernel_rfl) rfl Tryz.ntmps218 rfl ?_);intro BB
 cases b
 ·repeat' (first|refine sk64 ?_|(intro b;conv=>whnf)|(with_reducible refine Br.d (fun hc=>?_) (fun hc=>?_))|(with_reducible refine Br.b (fun hc=>?_) (fun hc=>?_)))
  all_goals (refine Rt.pure (congrArg iD ?_);rw [ar1];simp [*])
 ·repeat' (first|refine sk64 ?_|(intro b;conv=>whnf)|(with_reducible refine Br.d (fun hc=>?_) (fun hc=>?_))|(with_reducible refine Br.b (fun hc=>?_) (fun hc=>?_)))
  all_goals (refine Rt.pure (congrArg iD ?_);rw [ar1];simp [*])
theorem ty_check7 (x:Sch) (i j:Int) (f:Fld) (hl:x.kinds.length≤1000000) (hf:∀ k∈x.kinds,k.fields.length≤1000000) (hg:∀ k∈x.kinds,∀ g∈k.fields,0≤g.kind∧g.kind≤8) (hk:f.kind=8):APure Tryz.prog 220 [aV6 x i j f] (iD (ac2 x i j f)):=by
 rw [leads8 hk,abv_top.1]
 have HT:=ty_top x i j f hl hf
 have hgk:(topR x i j f).2=true→0≤(topR x i j f).1.kind∧(topR x i j f).1.kind≤8:=by
  unfold topR
  cases ht:topF x i j f with
  | none=>intro h;cases h
  | some g=>
   intro _
   unfold topF at ht
   split at ht
   ·cases ht
   ·split at ht
    ·obtain ⟨_,_,k',hk',hkf⟩:=ae3 ht
     exact hg k' (List.mem_of_getElem? hk') g (List.mem_of_getElem? hkf)
    ·cases ht
 rcases ht:topR x i j f with ⟨g,b⟩
 rw [ht] at HT hgk
 simp only at HT hgk ⊢
 refine APure.of_call (aa4 mixed aa0 Tryz.func220 (by kernel_rfl) rfl Tryz.ntmps220 rfl ?_);intro BB
 cases b
 ·repeat' (first|refine sk64 ?_|(intro b;conv=>whnf)|(with_reducible refine Br.d (fun hc=>?_) (fun hc=>?_))|(with_reducible refine Br.b (fun hc=>?_) (fun hc=>?_)))
  all_goals (refine Rt.pure (congrArg iD ?_);rw [ar1];simp [*])
 ·have hgk:=hgk rfl
  repeat' (first|refine sk64 ?_|(intro b;conv=>whnf)|(with_reducible refine Br.d (fun hc=>?_) (fun hc=>?_))|(with_reducible refine Br.b (fun hc=>?_) (fun hc=>?_)))
  all_goals (clear HT;refine Rt.pure (congrArg iD ?_);rw [ar1];refine copy_eq _ _ hgk ?_ (_hp:=rfl);first|(simp;omega)|(simp only [Bool.false_eq_true,false_iff];omega)|(simp only [true_iff];omega))
end
end Go.Proofs.YtjbbmjjildhfbaaGreatDoor
