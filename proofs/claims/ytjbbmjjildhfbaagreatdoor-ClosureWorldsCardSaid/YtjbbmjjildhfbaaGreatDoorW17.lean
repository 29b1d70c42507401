/- A part of the proof: Td Te Ml R10f. -/
import Derived.Test.YtjbbmjjildhfbaaGreatDoorW16
set_option maxRecDepth 100000
set_option maxHeartbeats 4000000
set_option linter.unusedVariables false
set_option linter.unusedSimpArgs false
namespace Go.Proofs.YtjbbmjjildhfbaaGreatDoor
section
open Go
theorem aq8 (b:Bool) (c:Int):ao4 [(b,c)]=if b=true then c else 0:=by cases b <;> rfl
theorem au0 (b b':Bool) (c c':Int):ao4 [(b,c),(b',c')]=if b=true then c else if b'=true then c' else 0:=by cases b <;> cases b' <;> rfl
theorem leads0 {x:Sch} {i j:Int} {f:Fld} (hk:f.kind=0):ac2 x i j f=if 0<j then 13 else 0:=by
 unfold ac2;by_cases h:0<j <;> simp [hk,h]
theorem leads1 {x:Sch} {i j:Int} {f:Fld} (hk:f.kind=1):ac2 x i j f=if upIx x i j<0 then 12 else 0:=by simp [ac2,hk]
theorem leads4 {x:Sch} {i j:Int} {f:Fld} (hk:f.kind=4):ac2 x i j f=dayE x i j f:=by simp [ac2,hk]
theorem leads5 {x:Sch} {i j:Int} {f:Fld} (hk:f.kind=5):ac2 x i j f=if x.lives.any (fun l=>seq l.name f.of) then 0 else 12:=by simp only [ac2,hk];simp
theorem leads6 {x:Sch} {i j:Int} {f:Fld} (hk:f.kind=6):ac2 x i j f=if (am0 x i f).1<0 then 12 else if (am0 x i f).2.length=1 then 0 else 11:=by simp [ac2,hk]
theorem leads7 {x:Sch} {i j:Int} {f:Fld} (hk:f.kind=7):ac2 x i j f=if upIx x i j<0 then 12 else if (abvR x i j f).1=6∧ab3 x (abvR x i j f).2.of=i then 0 else 13:=by simp [ac2,aR7,hk]
theorem leads8 {x:Sch} {i j:Int} {f:Fld} (hk:f.kind=8):ac2 x i j f=if upIx x i j<0 then 12 else if (abvR x i j f).1<0∨(abvR x i j f).1=0∨(abvR x i j f).1=1∨(abvR x i j f).1=6∨(abvR x i j f).1=7 then 13 else 0:=by simp [ac2,aR7,hk]
theorem sk59 {A B:Prop} (k:B) (h:Hd7 B→A:=by intro hk7q;(first|refine sb0 ?_|refine sb1 ?_|((with_reducible refine' Cp.by ?hc ?_);(case hc=>first|exact ad2 _ _|exact ad1 _ _ _ _))|((with_reducible refine' CE.pure ?hc ?_);(case hc=>first|exact ad2 _ _|exact ad1 _ _ _ _)));exact hk7q.run):A:=h ⟨k⟩
theorem ty_check1 (x:Sch) (i j:Int) (f:Fld) (hk:f.kind=0):APure Tryz.prog 212 [aW6 x i j f] (iD (ac2 x i j f)):=by
 refine APure.of_call (aa3 mixed aa0 Tryz.func212 (by kernel_rfl) rfl Tryz.ntmps212 rfl ?_);intro BB
 repeat' (first|refine sk59 ?_|(intro b;conv=>whnf))
 refine Rt.pure (congrArg iD ?_)
 rw [aq8,leads0 hk]
 simp
theorem sk60 {A B:Prop} (k:B) (h:Hd7 B→A:=by intro hk7q;(first|refine sb0 ?_|refine sb1 ?_|((with_reducible refine' Cp.by ?hc ?_);(case hc=>first|exact ad2 _ _|exact ad1 _ _ _ _|exact aW2 x i j f hl hf))|((with_reducible refine' CE.pure ?hc ?_);(case hc=>first|exact ad2 _ _|exact ad1 _ _ _ _|exact aW2 x i j f hl hf)));exact hk7q.run):A:=h ⟨k⟩
theorem ty_check2 (x:Sch) (i j:Int) (f:Fld) (hl:x.kinds.length≤1000000) (hf:∀ k∈x.kinds,k.fields.length≤1000000) (hk:f.kind=1):APure Tryz.prog 213 [aW6 x i j f] (iD (ac2 x i j f)):=by
 refine APure.of_call (aa3 mixed aa0 Tryz.func213 (by kernel_rfl) rfl Tryz.ntmps213 rfl ?_);intro BB
 repeat' (first|refine sk60 ?_|(intro b;conv=>whnf))
 refine Rt.pure (congrArg iD ?_)
 rw [aq8,leads1 hk]
 simp
theorem sk61 {A B:Prop} (k:B) (h:Hd7 B→A:=by intro hk7q;(first|refine sb0 ?_|refine sb1 ?_|((with_reducible refine' Cp.by ?hc ?_);(case hc=>first|exact ad2 _ _|exact ad1 _ _ _ _|exact HA|exact ak3 _ _ (by assumption)))|((with_reducible refine' CE.pure ?hc ?_);(case hc=>first|exact ad2 _ _|exact ad1 _ _ _ _|exact HA|exact ak3 _ _ (by assumption))));exact hk7q.run):A:=h ⟨k⟩
theorem ty_check3 (x:Sch) (i j:Int) (f:Fld) (hl:x.kinds.length≤1000000) (hf:∀ k∈x.kinds,k.fields.length≤1000000) (hfa:fieldAt x i j=some f) (hk:f.kind=4):APure Tryz.prog 214 [aW6 x i j f] (iD (ac2 x i j f)):=by
 obtain ⟨h0,h1,k,hk0,hkf⟩:=af7 hfa
 have hfk:=hf k (List.mem_of_getElem? hk0)
 have hka:af0 x i=some k:=by simp [af0,h0,hk0]
 have hfl:=as8 k f.of
 rw [leads4 hk]
 simp only [dayE,hka]
 have HA:=bc9 x i (ab7 k f.of)
 by_cases hn:ab7 k f.of<0
 ·rw [atR_none hn] at HA
  refine APure.of_call (aa3 mixed aa0 Tryz.func214 (by kernel_rfl) rfl Tryz.ntmps214 rfl ?_);intro BB
  repeat' (first|refine sk61 ?_|(intro b;conv=>whnf)|(with_reducible refine Br.d (fun hc=>?_) (fun hc=>?_))|(with_reducible refine Br.b (fun hc=>?_) (fun hc=>?_)))
  all_goals (refine Rt.pure (congrArg iD ?_);rw [aq8,← eqE];generalize (f.of.toList == ({ data:=#[] }:ByteArray).toList)=e at *;simp [*])
 ·obtain ⟨g,hg⟩:∃ g,k.fields[(ab7 k f.of).toNat]?=some g:=⟨_,List.getElem?_eq_getElem (by omega)⟩
  rw [bc1 h0 hk0 (by omega) hg] at HA
  rw [hg]
  refine APure.of_call (aa3 mixed aa0 Tryz.func214 (by kernel_rfl) rfl Tryz.ntmps214 rfl ?_);intro BB
  repeat' (first|refine sk61 ?_|(intro b;conv=>whnf)|(with_reducible refine Br.d (fun hc=>?_) (fun hc=>?_))|(with_reducible refine Br.b (fun hc=>?_) (fun hc=>?_)))
  all_goals (refine Rt.pure (congrArg iD ?_);rw [aq8,← eqE];generalize (f.of.toList == ({ data:=#[] }:ByteArray).toList)=e at *;simp [*])
theorem aT0 (x:Sch) (i j:Int) (f:Fld) (y:Lif):APure Tryz.prog 216 [lifD y,.ro (spotC x i j f)] (bD (seq y.name f.of)):=by
 refine APure.of_call (aa3 mixed aa0 Tryz.func216 (by kernel_rfl) rfl Tryz.ntmps216 rfl ?_);intro BB
 repeat' (first|refine sk2 ?_|(intro b;conv=>whnf))
 refine Rt.pure (congrArg bD ?_);rfl
theorem sk62 {A B:Prop} (k:B) (h:Hd7 B→A:=by intro hk7q;(first|refine sb0 ?_|refine sb1 ?_|((with_reducible refine' Cp.by ?hc ?_);(case hc=>first|exact ad2 _ _|exact ad1 _ _ _ _|exact any_lif x.lives (fun y=>seq y.name f.of) hll (fun y _=>aT0 x i j f y)))|((with_reducible refine' CE.pure ?hc ?_);(case hc=>first|exact ad2 _ _|exact ad1 _ _ _ _|exact any_lif x.lives (fun y=>seq y.name f.of) hll (fun y _=>aT0 x i j f y))));exact hk7q.run):A:=h ⟨k⟩
theorem ty_check4 (x:Sch) (i j:Int) (f:Fld) (hll:x.lives.length≤1000000) (hk:f.kind=5):APure Tryz.prog 215 [aW6 x i j f] (iD (ac2 x i j f)):=by
 refine APure.of_call (aa3 mixed aa0 Tryz.func215 (by kernel_rfl) rfl Tryz.ntmps215 rfl ?_);intro BB
 repeat' (first|refine sk62 ?_|(intro b;conv=>whnf))
 refine Rt.pure (congrArg iD ?_)
 rw [aq8,leads5 hk]
 cases x.lives.any (fun l=>seq l.name f.of) <;> rfl
theorem sk63 {A B:Prop} (k:B) (h:Hd7 B→A:=by intro hk7q;(first|refine sb0 ?_|refine sb1 ?_|((with_reducible refine' Cp.by ?hc ?_);(case hc=>first|exact ad2 _ _|exact ad1 _ _ _ _|exact aH7 x i f h0 hl hf))|((with_reducible refine' CE.pure ?hc ?_);(case hc=>first|exact ad2 _ _|exact ad1 _ _ _ _|exact aH7 x i f h0 hl hf)));exact hk7q.run):A:=h ⟨k⟩
theorem ty_check5 (x:Sch) (i j:Int) (f:Fld) (h0:0≤i) (hl:x.kinds.length≤1000000) (hf:∀ k∈x.kinds,k.fields.length≤1000000) (hk:f.kind=6):APure Tryz.prog 217 [aW6 x i j f] (iD (ac2 x i j f)):=by
 refine APure.of_call (aa3 mixed aa0 Tryz.func217 (by kernel_rfl) rfl Tryz.ntmps217 rfl ?_);intro BB
 repeat' (first|refine sk63 ?_|(intro b;conv=>whnf))
 refine Rt.pure (congrArg iD ?_)
 rw [au0,leads6 hk]
 simp only [List.length_map]
 by_cases h1:(am0 x i f).1<0 <;> by_cases h2:(am0 x i f).2.length=1 <;> simp [h1,h2] <;> omega
theorem abv_top {x:Sch} {i j:Int} {f:Fld}:(abvR x i j f).1=(if (topR x i j f).2=true then (topR x i j f).1.kind else -1)∧(abvR x i j f).2=(topR x i j f).1:=by
 unfold abvR topR;cases topF x i j f <;> simp
theorem copy_eq {k u:Int} (B:Bool) (p:Bool) (h:0≤k∧k≤8) (hB:B=true↔(k=0∨k=1∨k=6∨k=7)) {_hp:p=decide (u<0)} :
  (if p=true then (12:Int) else if B=true then 13 else 0)=if u<0 then 12 else if (if true=true then k else -1)<0∨(if true=true then k else -1)=0∨(if true=true then k else -1)=1∨(if true=true then k else -1)=6∨(if true=true then k else -1)=7 then 13 else 0:=by
 subst _hp
 simp only [if_true,decide_eq_true_eq]
 by_cases hu:u<0
 ·rw [if_pos hu,if_pos hu]
 ·rw [if_neg hu,if_neg hu]
  by_cases hb:B=true
  ·rw [if_pos hb,if_pos (by have:=hB.1 hb;omega)]
  ·rw [if_neg hb,if_neg (by intro h';exact hb (hB.2 (by omega)))]
theorem sk64 {A B:Prop} (k:B) (h:Hd7 B→A:=by intro hk7q;(first|refine sb0 ?_|refine sb1 ?_|((with_reducible refine' Cp.by ?hc ?_);(case hc=>first|exact ad2 _ _|exact ad1 _ _ _ _|exact aW2 x i j f hl hf|exact HT|exact an0 _ _ (by assumption)))|((with_reducible refine' CE.pure ?hc ?_);(case hc=>first|exact ad2 _ _|exact ad1 _ _ _ _|exact aW2 x i j f hl hf|exact HT|exact an0 _ _ (by assumption))));exact hk7q.run):A:=h ⟨k⟩
theorem ty_check6 (x:Sch) (i j:Int) (f:Fld) (hl:x.kinds.length≤1000000) (hf:∀ k∈x.kinds,k.fields.length≤1000000) (hk:f.kind=7):APure Tryz.prog 218 [aW6 x i j f] (iD (ac2 x i j f)):=by
 rw [leads7 hk,abv_top.1,abv_top.2]
 have HT:=ty_top x i j f hl hf
 rcases ht:topR x i j f with ⟨g,b⟩
 rw [ht] at HT
 simp only at HT ⊢
 refine APure.of_call (aa3 mixed aa0 Tryz.func218 (by kernel_rfl) rfl Tryz.ntmps218 rfl ?_);intro BB
 cases b
 ·repeat' (first|refine sk64 ?_|(intro b;conv=>whnf)|(with_reducible refine Br.d (fun hc=>?_) (fun hc=>?_))|(with_reducible refine Br.b (fun hc=>?_) (fun hc=>?_)))
  all_goals (refine Rt.pure (congrArg iD ?_);rw [au0];simp [*])
 ·repeat' (first|refine sk64 ?_|(intro b;conv=>whnf)|(with_reducible refine Br.d (fun hc=>?_) (fun hc=>?_))|(with_reducible refine Br.b (fun hc=>?_) (fun hc=>?_)))
  all_goals (refine Rt.pure (congrArg iD ?_);rw [au0];simp [*])
theorem ty_check7 (x:Sch) (i j:Int) (f:Fld) (hl:x.kinds.length≤1000000) (hf:∀ k∈x.kinds,k.fields.length≤1000000) (hg:∀ k∈x.kinds,∀ g∈k.fields,0≤g.kind∧g.kind≤8) (hk:f.kind=8):APure Tryz.prog 220 [aW6 x i j f] (iD (ac2 x i j f)):=by
 rw [leads8 hk,abv_top.1]
 have HT:=ty_top x i j f hl hf
 have hgk:(topR x i j f).2=true→0≤(topR x i j f).1.kind∧(topR x i j f).1.kind≤8:=by
  unfold topR
  cases ht:topF x i j f with
  | none=>intro h;cases h
  | some g=>
   intro _
   unfold topF at ht
   split at ht
   ·cases ht
   ·split at ht
    ·obtain ⟨_,_,k',hk',hkf⟩:=af7 ht
     exact hg k' (List.mem_of_getElem? hk') g (List.mem_of_getElem? hkf)
    ·cases ht
 rcases ht:topR x i j f with ⟨g,b⟩
 rw [ht] at HT hgk
 simp only at HT hgk ⊢
 refine APure.of_call (aa3 mixed aa0 Tryz.func220 (by kernel_rfl) rfl Tryz.ntmps220 rfl ?_);intro BB
 cases b
 ·repeat' (first|refine sk64 ?_|(intro b;conv=>whnf)|(with_reducible refine Br.d (fun hc=>?_) (fun hc=>?_))|(with_reducible refine Br.b (fun hc=>?_) (fun hc=>?_)))
  all_goals (refine Rt.pure (congrArg iD ?_);rw [au0];simp [*])
 ·have hgk:=hgk rfl
  repeat' (first|refine sk64 ?_|(intro b;conv=>whnf)|(with_reducible refine Br.d (fun hc=>?_) (fun hc=>?_))|(with_reducible refine Br.b (fun hc=>?_) (fun hc=>?_)))
  all_goals (clear HT;refine Rt.pure (congrArg iD ?_);rw [au0];refine copy_eq _ _ hgk ?_ (_hp:=rfl);first|(simp;omega)|(simp only [Bool.false_eq_true,false_iff];omega)|(simp only [true_iff];omega))
end
section
open Go
theorem sk65 {A B:Prop} (k:B) (h:Hd7 B→A:=by intro hk7q;(first|refine sb0 ?_|refine sb1 ?_|((with_reducible refine' Cp.by ?hc ?_);(case hc=>first|exact ad2 _ _|exact ad1 _ _ _ _|exact ap7 _ _ _ _ _ _ _ _|exact an0 _ _ (by assumption)))|((with_reducible refine' CE.pure ?hc ?_);(case hc=>first|exact ad2 _ _|exact ad1 _ _ _ _|exact ap7 _ _ _ _ _ _ _ _|exact an0 _ _ (by assumption))));exact hk7q.run):A:=h ⟨k⟩
theorem ty_kindE (x:Sch) (i:Nat) (k:Knd) (hl:x.kinds.length≤1000000) (hk:x.kinds[i]?=some k):APure Tryz.prog 86 [schD x,iD i] (iD (af8 x i k)):=by
 have hk:x.kinds[((i:Nat):Int).toNat]?=some k:=hk
 have hil:=(List.getElem?_eq_some_iff.1 hk).1
 refine APure.of_call (aa3 mixed aa0 Tryz.func86 (by kernel_rfl) rfl Tryz.ntmps86 rfl ?_);intro BB
 rcases hfs:k.fields with _|⟨g,r⟩
 ·have h0:k.fields.length=0:=by rw [hfs];rfl
  repeat' (first|refine sk65 ?_|(intro b;conv=>whnf)|(with_reducible refine Br.d (fun hc=>?_) (fun hc=>?_))|(with_reducible refine Br.b (fun hc=>?_) (fun hc=>?_)))
  all_goals (refine Rt.pure (congrArg iD ?_);rw [au0];unfold af8 bh6;rw [hfs];simp [*])
 ·have hg:k.fields[(0:Int).toNat]?=some g:=by rw [hfs];rfl
  have h0:0<k.fields.length:=by rw [hfs];simp
  repeat' (first|refine sk65 ?_|(intro b;conv=>whnf)|(with_reducible refine Br.d (fun hc=>?_) (fun hc=>?_))|(with_reducible refine Br.b (fun hc=>?_) (fun hc=>?_)))
  all_goals (refine Rt.pure (congrArg iD ?_);rw [au0];unfold af8 bh6;rw [hfs];simp [*])
theorem ty_rule1 (y r:Rul):APure Tryz.prog 117 [rulD y,.ro (rulC r)] (bD (seq y.name r.name)):=by
 refine APure.of_call (aa3 mixed aa0 Tryz.func117 (by kernel_rfl) rfl Tryz.ntmps117 rfl ?_);intro BB
 repeat' (first|refine sk2 ?_|(intro b;conv=>whnf))
 refine Rt.pure (congrArg bD ?_);rfl
def ruI (x:Sch) (k:Knd) (o:Int) (r:Rul) (g:Nat × Bool × Bool):Prop:=(g.1=0∧g.2.1=false∧g.2.2=false)∨(g.1=1∧g.2.1=ai6 x k o r.a∧g.2.2=ae8 x k o r.a)∨(g.1=2∧g.2.1=(ai6 x k o r.a || ai6 x k o r.b)∧g.2.2=(ae8 x k o r.a || ae8 x k o r.b))
theorem sk66 {A B:Prop} (k:B) (h:Hd7 B→A:=by intro hk7q;(first|refine sb0 ?_|refine sb1 ?_|((with_reducible refine' Cp.by ?hc ?_);(case hc=>first|exact ad2 _ _|exact ad1 _ _ _ _|exact ap7 _ _ _ _ _ _ _ _|exact HR|exact HF|exact HAT|exact an0 _ _ (by assumption)))|((with_reducible refine' CE.pure ?hc ?_);(case hc=>first|exact ad2 _ _|exact ad1 _ _ _ _|exact ap7 _ _ _ _ _ _ _ _|exact HR|exact HF|exact HAT|exact an0 _ _ (by assumption))));exact hk7q.run):A:=h ⟨k⟩
theorem ty_rule_no (x:Sch) (i:Nat) (r:Rul) (hl:x.kinds.length≤1000000) (hrl:x.rules.length≤1000000) (hr:x.rules[i]?=some r) (hk:ab3 x r.kind<0):APure Tryz.prog 87 [schD x,iD i] (iD (az8 x i r)):=by
 have hr:x.rules[((i:Nat):Int).toNat]?=some r:=hr
 have hil:=(List.getElem?_eq_some_iff.1 hr).1
 have HR:APure Tryz.prog 116 [.sl 5 ((x.rules.map rulC).take i),.clo 117 [.ro (rulC r)]] (bD (ai2 x i r)):=by
  rw [← List.map_take];exact any_rul (x.rules.take i) (fun s=>seq s.name r.name) (by simp;omega) (fun y _=>ty_rule1 y r)
 have hE:az8 x i r=ao4 [(ai2 x i r,7),(true,12),(false,13),(seq r.a r.b,1)]:=by
  have:af0 x (ab3 x r.kind)=none:=by unfold af0;rw [if_neg (by omega)]
  simp only [az8,this]
 refine APure.of_call (aa3 mixed aa0 Tryz.func87 (by kernel_rfl) rfl Tryz.ntmps87 rfl ?_);intro BB
 repeat' (first|refine sk66 ?_|(intro b;conv=>whnf))
 refine CE.pk (APk.peek (.cons (Pk.same _) (.cons (Pk.clo (.cons (Pk.ptr (j:=0) rfl (PkL.refl _)) .nil)) .nil)) HR rfl) ?_
 repeat' (first|refine sk66 ?_|(intro b;conv=>whnf))
 refine aa6 mixed aa0 (γ:=Nat) (fun j=>[(37,iD j),(8,bD (decide (ab3 x r.kind<0))),(9,bD false)]) (fun _=>[(b,.cells 105 (rulC r))]) (fun j=>j≤2) (fun j=>2 - j) 0 (aa2 cl2) cl3 (by omega) ?_
 rintro j hj
 obtain rfl|rfl|rfl:j=0∨j=1∨j=2:=by omega
 ·repeat' (first|refine sk66 ?_|(intro b;conv=>whnf)|(with_reducible refine Br.d (fun hc=>?_) (fun hc=>?_))|(with_reducible refine Br.b (fun hc=>?_) (fun hc=>?_)))
  all_goals exact ⟨1,(aa2 cl2),cl3,by omega,by omega⟩
 ·repeat' (first|refine sk66 ?_|(intro b;conv=>whnf)|(with_reducible refine Br.d (fun hc=>?_) (fun hc=>?_))|(with_reducible refine Br.b (fun hc=>?_) (fun hc=>?_)))
  all_goals exact ⟨2,(aa2 cl2),cl3,by omega,by omega⟩
 ·repeat' (first|refine sk66 ?_|(intro b;conv=>whnf)|(with_reducible refine Br.d (fun hc=>?_) (fun hc=>?_))|(with_reducible refine Br.b (fun hc=>?_) (fun hc=>?_)))
  refine Rt.pure (congrArg iD ?_)
  rw [hE,decide_eq_true hk];rfl
theorem sk67 {A B:Prop} (k:B) (h:Hd7 B→A:=by intro hk7q;(first|refine sb0 ?_|refine sb1 ?_|((with_reducible refine' Cp.by ?hc ?_);(case hc=>first|exact ad2 _ _|exact ad1 _ _ _ _|exact ap7 _ _ _ _ _ _ _ _|exact HR|exact bc9 _ _ _|exact an0 _ _ (by assumption)|exact ak3 _ _ (by assumption)))|((with_reducible refine' CE.pure ?hc ?_);(case hc=>first|exact ad2 _ _|exact ad1 _ _ _ _|exact ap7 _ _ _ _ _ _ _ _|exact HR|exact bc9 _ _ _|exact an0 _ _ (by assumption)|exact ak3 _ _ (by assumption))));exact hk7q.run):A:=h ⟨k⟩
theorem ty_rule_yes (x:Sch) (i:Nat) (r:Rul) (k:Knd) (hl:x.kinds.length≤1000000) (hf:∀ k∈x.kinds,k.fields.length≤1000000) (hrl:x.rules.length≤1000000) (hr:x.rules[i]?=some r) (h0:0≤ab3 x r.kind) (hk:x.kinds[(ab3 x r.kind).toNat]?=some k):APure Tryz.prog 87 [schD x,iD i] (iD (az8 x i r)):=by
 have hr:x.rules[((i:Nat):Int).toNat]?=some r:=hr
 have hil:=(List.getElem?_eq_some_iff.1 hr).1
 have hfk:=hf k (List.mem_of_getElem? hk)
 have HR:APure Tryz.prog 116 [.sl 5 ((x.rules.map rulC).take i),.clo 117 [.ro (rulC r)]] (bD (ai2 x i r)):=by
  rw [← List.map_take];exact any_rul (x.rules.take i) (fun s=>seq s.name r.name) (by simp;omega) (fun y _=>ty_rule1 y r)
 have hE:az8 x i r=ao4 [(ai2 x i r,7),(ai6 x k (ab3 x r.kind) r.a || ai6 x k (ab3 x r.kind) r.b,12),(ae8 x k (ab3 x r.kind) r.a || ae8 x k (ab3 x r.kind) r.b,13),(seq r.a r.b,1)]:=by
  have:af0 x (ab3 x r.kind)=some k:=by unfold af0;rw [if_pos h0];exact hk
  simp only [az8,this]
 refine APure.of_call (aa3 mixed aa0 Tryz.func87 (by kernel_rfl) rfl Tryz.ntmps87 rfl ?_);intro BB
 repeat' (first|refine sk67 ?_|(intro b;conv=>whnf))
 refine CE.pk (APk.peek (.cons (Pk.same _) (.cons (Pk.clo (.cons (Pk.ptr (j:=0) rfl (PkL.refl _)) .nil)) .nil)) HR rfl) ?_
 clear HR
 repeat' (first|refine sk67 ?_|(intro b;conv=>whnf))
 refine aa6 mixed aa0 (γ:=Nat × Bool × Bool) (fun g=>[(37,iD g.1),(8,bD g.2.1),(9,bD g.2.2)]) (fun _=>[(b,.cells 105 (rulC r))]) (ruI x k (ab3 x r.kind) r) (fun g=>2 - g.1) (0,decide (ab3 x r.kind<0),false) (aa2 cl2) cl3 (.inl ⟨rfl,by simp;omega,rfl⟩) ?_
 rintro ⟨j,m,w⟩ (⟨rfl,rfl,rfl⟩|⟨rfl,rfl,rfl⟩|⟨rfl,rfl,rfl⟩)
 ·repeat' (first|refine sk67 ?_|(intro b;conv=>whnf)|(with_reducible refine Br.d (fun hc=>?_) (fun hc=>?_))|(with_reducible refine Br.b (fun hc=>?_) (fun hc=>?_)))
  all_goals (refine ⟨(1,ai6 x k (ab3 x r.kind) r.a,ae8 x k (ab3 x r.kind) r.a),aa2 (.cons rfl (.cons ?_ (.cons ?_ cl2))),cl3,.inr (.inl ⟨rfl,rfl,rfl⟩),by simp only;omega⟩ <;> (refine congrArg (fun b=>some (bD b)) ?_;clear hE;simp only [ai6,ae8,← eqE];generalize (r.a.toList == ({ data:=#[] }:ByteArray).toList)=ea at *;generalize (atR x (ab3 x r.kind) (ab7 k r.a)).1.kind=K at *;first|(simp [*];done)|(by_cases h4:K=4 <;> by_cases h2:K=2 <;> simp_all)))
 ·repeat' (first|refine sk67 ?_|(intro b;conv=>whnf)|(with_reducible refine Br.d (fun hc=>?_) (fun hc=>?_))|(with_reducible refine Br.b (fun hc=>?_) (fun hc=>?_)))
  all_goals (refine ⟨(2,ai6 x k (ab3 x r.kind) r.a || ai6 x k (ab3 x r.kind) r.b,ae8 x k (ab3 x r.kind) r.a || ae8 x k (ab3 x r.kind) r.b),aa2 (.cons rfl (.cons ?_ (.cons ?_ cl2))),cl3,.inr (.inr ⟨rfl,rfl,rfl⟩),by simp only;omega⟩ <;> (refine congrArg (fun b=>some (bD b)) ?_;clear hE;generalize ai6 x k (ab3 x r.kind) r.a=na at *;generalize ae8 x k (ab3 x r.kind) r.a=nb at *;simp only [ai6,ae8,← eqE];generalize (r.b.toList == ({ data:=#[] }:ByteArray).toList)=eb at *;generalize (atR x (ab3 x r.kind) (ab7 k r.b)).1.kind=K at *;first|(simp [*];done)|(by_cases h4:K=4 <;> by_cases h2:K=2 <;> simp_all)))
 ·repeat' (first|refine sk67 ?_|(intro b;conv=>whnf)|(with_reducible refine Br.d (fun hc=>?_) (fun hc=>?_))|(with_reducible refine Br.b (fun hc=>?_) (fun hc=>?_)))
  refine Rt.pure (congrArg iD ?_)
  rw [hE];rfl
theorem ty_ruleE (x:Sch) (i:Nat) (r:Rul) (hl:x.kinds.length≤1000000) (hf:∀ k∈x.kinds,k.fields.length≤1000000) (hrl:x.rules.length≤1000000) (hr:x.rules[i]?=some r):APure Tryz.prog 87 [schD x,iD i] (iD (az8 x i r)):=by
 by_cases h0:ab3 x r.kind<0
 ·exact ty_rule_no x i r hl hrl hr h0
 ·have hlt:ab3 x r.kind<x.kinds.length:=aU7 _ _
  exact ty_rule_yes x i r _ hl hf hrl hr (by omega) (List.getElem?_eq_getElem (by omega))
end
section
open Go Go.Maps Go.MapKept
theorem ae4 {ρ:Operand→D} {σ:aa1} {o:Oper} (ho:o.op = .load 161 (.global 0)) (hρ:ρ (.global 0) = .v (.pointer (some ⟨0,0,none⟩))) :
  Yd Tryz.prog o ρ σ (.gl 0):=by
 intro w X η hη hst
 obtain ⟨dst,op,ty,pos,aft,g⟩:=o
 simp only at ho
 subst ho
 have hp:=(hη (.global 0) (by simp [Op.operands])).val hρ
 obtain ⟨r,h1,h2,h3⟩:=hst.gok.checks
 obtain ⟨g1,g2⟩:=aT1 (aa0 161 _ rfl) w
 refine ah4 (s:=Instr.loadAt 161 (η (.global 0))) (u:=.map (some r)) ?_ (Ex.refl w) (.gl _ _ (hst.gok.no _ (by decide)) (Nat.lt_of_lt_of_le (by decide) hst.gok.sz) h1)
 rw [hp]
 exact au8 g1 h1
def chkB (n:Int):Bool:=(aggF chkM (.int .i64 n)).isSome
def chkD (n:Int):D:=.agg [.v (((chkM (.int .i64 n))).getD .nilFunc)]
theorem yd_look {ρ:Operand→D} {σ:aa1} {o:Oper} {x i:Operand} {n:Int} (ho:o.op = .lookup 161 x i true) (hx:ρ x = .gl 0) (hi:ρ i = .v (.int .i64 n)) (hn:0≤n∧n≤8) :
  Yd Tryz.prog o ρ σ (.tup [chkD n,.v (.bool (chkB n))]):=by
 intro w X η hη hst
 obtain ⟨dst,op,ty,pos,aft,g⟩:=o
 simp only at ho
 subst ho
 have h0:=hη x (by simp [Op.operands])
 rw [hx] at h0
 have hv:=(hη i (by simp [Op.operands])).val hi
 obtain ⟨r,h1,h2,h3⟩:=hst.gok.checks
 have hxv:η x = .map (some r):=by
  generalize hq:D.gl 0=q at h0
  generalize η x=u at h0
  cases h0 <;> cases hq
  rename_i q' _ _ hc
  rw [h1] at hc;cases hc;rfl
 have hwf:(Lit.int .i64 n).wf=true:=by
  have:n=0∨n=1∨n=2∨n=3∨n=4∨n=5∨n=6∨n=7∨n=8:=by omega
  rcases this with rfl|rfl|rfl|rfl|rfl|rfl|rfl|rfl|rfl <;> rfl
 have hz:(zeroValue 159).run Tryz.prog w = .ok (.agg #[.nilFunc]) w:=by
  have:(Tryz.prog.info? 159).map (fun i=>i.zero)=some (some (.agg #[.nilFunc])):=by kernel_rfl
  cases hi:Tryz.prog.info? 159 with
  | none=>rw [hi] at this;cases this
  | some inf=>
   rw [hi] at this
   simp only [Option.map_some,Option.some.injEq] at this
   simp [zeroValue,typeInfo,program,Sem.run,hi,this]
 have hrun:=h3.look_ok (int_keyed Tryz.underlying3) Tryz.underlying161 hz (keyOf_int_mk Tryz.underlying3 hwf)
 refine ah4 (s:=Instr.lookup 161 (η x) (η i) true) (by rw [hxv,hv];exact hrun) (Ex.refl w) ?_
 have e:(aggF chkM (.int .i64 n)).getD (.agg #[.nilFunc]) = .agg #[(chkM (.int .i64 n)).getD .nilFunc]:=by
  unfold aggF;cases chkM (.int .i64 n) <;> rfl
 rw [e]
 have h5:=RdL.cons (w:=w) (O:=Own σ X) (Rd.agg [.v ((chkM (.int .i64 n)).getD .nilFunc)] [(chkM (.int .i64 n)).getD .nilFunc] rfl (RdL.vals [(chkM (.int .i64 n)).getD .nilFunc]).at_) (RdL.cons (Rd.v (.bool (chkB n))) RdL.nil)
 exact Rd.tup [chkD n,.v (.bool (chkB n))] _ h5.len h5.at_
end
section
open Go
theorem ba1 {x:Sch} {i m:Nat} {l s:Lif} (hm:m<i) (hs:x.lives[m]?=some s) (h:seq s.name l.name=true):aq2 x i l=true:=by
 unfold aq2
 rw [List.any_eq_true]
 exact ⟨s,List.mem_of_getElem? (i:=m) (by rw [List.getElem?_take,if_pos hm];exact hs),h⟩
theorem bg9 {x:Sch} {i:Nat} {l:Lif} (h:∀ (m:Nat) y,m<i→x.lives[m]?=some y→seq y.name l.name=false):aq2 x i l=false:=by
 unfold aq2
 rw [List.any_eq_false]
 intro s hs
 obtain ⟨m,hm⟩:=List.getElem?_of_mem hs
 rw [List.getElem?_take] at hm
 split at hm
 ·rename_i hlt;simp [h m s hlt hm]
 ·cases hm
theorem sk68 {A B:Prop} (k:B) (h:Hd7 B→A:=by intro hk7q;(first|refine sb0 ?_|refine sb1 ?_|((with_reducible refine' Cp.by ?hc ?_);(case hc=>first|exact HV|exact be8 _|exact al7 _ _ (by assumption)|exact ai3 _ _ (by assumption)|exact be7 _ _ _ _ (by assumption) (by assumption) (by assumption) (by assumption)|exact be6 _ _ _ (by assumption) (by assumption) (by assumption) (by assumption)))|((with_reducible refine' CE.pure ?hc ?_);(case hc=>first|exact HV|exact be8 _|exact al7 _ _ (by assumption)|exact ai3 _ _ (by assumption)|exact be7 _ _ _ _ (by assumption) (by assumption) (by assumption) (by assumption)|exact be6 _ _ _ (by assumption) (by assumption) (by assumption) (by assumption))));exact hk7q.run):A:=h ⟨k⟩
theorem r10_check (x:Sch) (HV:APure Tryz.prog 94 [schD x] (iD (ac9 x))):APure Tryz.prog 68 [schD x] (.sl 4 ((ap8 x).map prbC)):=by
 refine APure.of_call (aa3 mixed aa0 Tryz.func68 (by kernel_rfl) rfl Tryz.ntmps68 rfl ?_);intro BB
 repeat' (first|refine sk68 ?_|(intro b;conv=>whnf)|refine IxM.mk fun y hy=>?_)
 by_cases hv:ac9 x=0
 ·have hV:=vld_of0 hv
  have hl:x.kinds.length≤1000000:=by have:=hV.nk;omega
  have hf:∀ k∈x.kinds,k.fields.length≤1000000:=fun k hk=>by have:=hV.nf k hk;omega
  have hll:x.lives.length≤1000000:=by have:=hV.nl;omega
  have hrl:x.rules.length≤1000000:=by have:=hV.nr;omega
  have hP:ap8 x=upTo x.lives.length (aA2 x) ++ upTo x.kinds.length (ae5 x) ++ upTo x.rules.length (aD1 x):=by unfold ap8;rw [if_pos hv]
  have hnk:=hV.nk
  have hnl:=hV.nl
  have hnr:=hV.nr
  have hnf:=hV.nf
  clear HV hV
  repeat' (first|refine sk68 ?_|(intro b;conv=>whnf)|refine IxM.mk fun y hy=>?_)
  refine ae3 mixed aa0 (γ:=Nat × Value × aa1) (fun g=>[(4,.v g.2.1),(5,iD g.1)]) (fun g=>g.2.2) (fun g=>g.1≤x.lives.length∧RowIs 194 4 ((upTo g.1 (aA2 x)).map prbC) g.2.1 g.2.2) (fun g=>x.lives.length - g.1) (0,.slice none 0 0,[]) rfl rfl ⟨Nat.zero_le _,RowIs.nil _ _⟩ ?_
  rintro ⟨q,v,s⟩ ⟨hq,hrow⟩
  simp only at hq hrow ⊢
  repeat' (first|refine sk68 ?_|(intro b;conv=>whnf)|refine IxM.mk fun y hy=>?_|(with_reducible refine Br.d (fun hc=>?_) (fun hc=>?_))|(with_reducible refine Br.b (fun hc=>?_) (fun hc=>?_)))
  ·obtain ⟨l,hlq⟩:∃ l,x.lives[q]?=some l:=⟨_,List.getElem?_eq_getElem (by omega)⟩
   have hS:=ac8 q (aA2 x)
   have hlen:=af6 (aG1 x) q
   rw [show aA2 x q=one (-1) q (-1) (if aq2 x q l then 7 else 0) by simp only [aA2,hlq]] at hS
   refine ae3 mixed aa0 (γ:=Nat) (fun m=>[(6,iD m),(4,.v v),(5,iD q)]) (fun _=>s) (fun m=>m≤q∧∀ (n:Nat) y,n<m→x.lives[n]?=some y→seq y.name l.name=false) (fun m=>q - m) 0 rfl rfl ⟨by omega,fun n y hn=>by omega⟩ ?_
   rintro m ⟨hm,hno⟩
   repeat' (first|refine sk68 ?_|(intro b;conv=>whnf)|refine IxM.mk fun y hy=>?_|(with_reducible refine Br.d (fun hc=>?_) (fun hc=>?_))|(with_reducible refine Br.b (fun hc=>?_) (fun hc=>?_)))
   ·have ht:=ba1 (x:=x) (i:=q) (l:=l) (m:=m) (by omega) hy ‹_›
    rw [ht] at hS
    refine CE.own (at4 (upTo q (aA2 x)) _ _ _ _ _ _ (by assumption) (by (try simp only [List.length_append]);omega)) (as1 _) (fun s'=>s') aq0 ?_;rintro _ s' ⟨v',rfl,hr'⟩
    repeat' (first|refine sk68 ?_|(intro b;conv=>whnf)|refine IxM.mk fun y hy=>?_)
    exact ⟨(q+1,v',s'),rfl,rfl,⟨by simp only;omega,by simp only;rw [hS];exact hr'⟩,by simp only;omega⟩
   ·exact ⟨m+1,rfl,rfl,⟨by omega,fun n z hn hz=>by
     by_cases e:n=m
     ·subst e;rw [show ((n:Int)).toNat=n from rfl,hz] at hy;cases hy;assumption
     ·exact hno n z (by omega) hz⟩,by omega⟩
   ·obtain rfl:m=q:=by omega
    rw [bg9 hno] at hS
    simp only [Bool.false_eq_true,if_false,one0,List.append_nil] at hS
    exact ⟨(m+1,v,s),rfl,rfl,⟨by simp only;omega,by simp only;rw [hS];exact hrow⟩,by simp only;omega⟩
  ·obtain rfl:q=x.lives.length:=by omega
   have hlen1:=af6 (aG1 x) x.lives.length
   generalize hL:upTo x.lives.length (aA2 x)=L at *
   refine ae3 mixed aa0 (γ:=Nat × Value × aa1) (fun g=>[(4,.v g.2.1),(7,iD g.1)]) (fun g=>g.2.2) (fun g=>g.1≤x.kinds.length∧RowIs 194 4 ((L ++ upTo g.1 (ae5 x)).map prbC) g.2.1 g.2.2) (fun g=>x.kinds.length - g.1) (0,v,s) rfl rfl ⟨Nat.zero_le _,by simpa [upTo] using hrow⟩ ?_
   rintro ⟨q,v,s⟩ ⟨hq,hrow⟩
   simp only at hq hrow ⊢
   have hlen2:=af6 (fun i=>bh4 x i hnf) q
   repeat' (first|refine sk68 ?_|(intro b;conv=>whnf)|refine IxM.mk fun y hy=>?_|(with_reducible refine Br.d (fun hc=>?_) (fun hc=>?_))|(with_reducible refine Br.b (fun hc=>?_) (fun hc=>?_)))
   ·have hE:af8 x q y=7:=by unfold af8;rw [if_pos (by assumption)]
    have hyf:=hnf y (List.mem_of_getElem? hy)
    have hyl:y.fields.length≤1000000:=by omega
    have ho1:=aA0 q (-1) (-1) (af8 x q y)
    have hy:x.kinds[q]?=some y:=hy
    have hSK:=ac8 q (ae5 x)
    rw [show ae5 x q=one q (-1) (-1) (af8 x q y) ++ upTo y.fields.length (ac5 x q y) by simp only [ae5,hy]] at hSK
    refine CE.own (at4 (L ++ upTo q (ae5 x)) _ _ _ _ _ _ (by assumption) (by (try simp only [List.length_append]);omega)) (as1 _) (fun s'=>s') aq0 ?_;rintro _ s' ⟨v',rfl,hr'⟩
    repeat' (first|refine sk68 ?_|(intro b;conv=>whnf)|refine IxM.mk fun y hy=>?_)
    have hrow1:RowIs 194 4 ((L ++ upTo q (ae5 x) ++ one q (-1) (-1) (af8 x q y)).map prbC) v' s':=by rw [hE];exact hr'
    refine ae3 mixed aa0 (γ:=Nat × Value × aa1) (fun g=>[(4,.v g.2.1),(9,iD g.1)]) (fun g=>g.2.2) (fun g=>g.1≤y.fields.length∧RowIs 194 4 ((L ++ upTo q (ae5 x) ++ one q (-1) (-1) (af8 x q y) ++ upTo g.1 (ac5 x q y)).map prbC) g.2.1 g.2.2) (fun g=>y.fields.length - g.1) (0,v',s') rfl rfl ⟨Nat.zero_le _,by simpa [upTo] using hrow1⟩ ?_
    rintro ⟨j,v,s⟩ ⟨hj,hrow2⟩
    simp only at hj hrow2 ⊢
    have hlen3:=af6 (ax8 x q y) j
    have hS:=ac8 j (ac5 x q y)
    by_cases hjl:j<y.fields.length
    ·obtain ⟨f,hf0⟩:∃ f,y.fields[j]?=some f:=⟨_,List.getElem?_eq_getElem hjl⟩
     have hfa:fieldAt x q j=some f:=by rw [af3 (by omega) (by omega) hy];exact hf0
     rw [show ac5 x q y j=one q j (-1) (al1 x q y j f) by simp only [ac5,hf0]] at hS
     repeat' (first|refine sk68 ?_|(intro b;conv=>whnf)|refine IxM.mk fun y hy=>?_|(with_reducible refine Br.d (fun hc=>?_) (fun hc=>?_))|(with_reducible refine Br.b (fun hc=>?_) (fun hc=>?_)))
     ·rw [show al1 x q y j f=7 by unfold al1;rw [if_pos (by assumption)]] at hS
      refine CE.own (at4 (L ++ upTo q (ae5 x) ++ one q (-1) (-1) (af8 x q y) ++ upTo j (ac5 x q y)) _ _ _ _ _ _ (by assumption) (by (try simp only [List.length_append]);omega)) (as1 _) (fun s'=>s') aq0 ?_;rintro _ s' ⟨v',rfl,hr'⟩
      repeat' (first|refine sk68 ?_|(intro b;conv=>whnf)|refine IxM.mk fun y hy=>?_)
      exact ⟨(j+1,v',s'),rfl,rfl,⟨by simp only;omega,by simp only;rw [hS,← List.append_assoc];exact hr'⟩,by simp only;omega⟩
     ·rw [show al1 x q y j f=ac2 x q j f by unfold al1;rw [if_neg (by assumption)]] at hS
      refine CE.own (at4 (L ++ upTo q (ae5 x) ++ one q (-1) (-1) (af8 x q y) ++ upTo j (ac5 x q y)) _ _ _ _ _ _ (by assumption) (by (try simp only [List.length_append]);omega)) (as1 _) (fun s'=>s') aq0 ?_;rintro _ s' ⟨v',rfl,hr'⟩
      repeat' (first|refine sk68 ?_|(intro b;conv=>whnf)|refine IxM.mk fun y hy=>?_)
      exact ⟨(j+1,v',s'),rfl,rfl,⟨by simp only;omega,by simp only;rw [hS,← List.append_assoc];exact hr'⟩,by simp only;omega⟩
    ·obtain rfl:j=y.fields.length:=by omega
     repeat' (first|refine sk68 ?_|(intro b;conv=>whnf)|refine IxM.mk fun y hy=>?_|(with_reducible refine Br.d (fun hc=>?_) (fun hc=>?_))|(with_reducible refine Br.b (fun hc=>?_) (fun hc=>?_)))
     exact ⟨(q+1,v,s),rfl,rfl,⟨by simp only;omega,by simp only;rw [hSK];simp only [List.append_assoc] at hrow2 ⊢;exact hrow2⟩,by simp only;omega⟩
   ·have hE:af8 x q y=0:=by unfold af8;rw [if_neg (by assumption),if_pos (by assumption)]
    have hyf:=hnf y (List.mem_of_getElem? hy)
    have hyl:y.fields.length≤1000000:=by omega
    have ho1:=aA0 q (-1) (-1) (af8 x q y)
    have hy:x.kinds[q]?=some y:=hy
    have hSK:=ac8 q (ae5 x)
    rw [show ae5 x q=one q (-1) (-1) (af8 x q y) ++ upTo y.fields.length (ac5 x q y) by simp only [ae5,hy]] at hSK
    have hrow1:RowIs 194 4 ((L ++ upTo q (ae5 x) ++ one q (-1) (-1) (af8 x q y)).map prbC) v s:=by rw [hE,one0,List.append_nil];exact hrow
    refine ae3 mixed aa0 (γ:=Nat × Value × aa1) (fun g=>[(4,.v g.2.1),(9,iD g.1)]) (fun g=>g.2.2) (fun g=>g.1≤y.fields.length∧RowIs 194 4 ((L ++ upTo q (ae5 x) ++ one q (-1) (-1) (af8 x q y) ++ upTo g.1 (ac5 x q y)).map prbC) g.2.1 g.2.2) (fun g=>y.fields.length - g.1) (0,v,s) rfl rfl ⟨Nat.zero_le _,by simpa [upTo] using hrow1⟩ ?_
    rintro ⟨j,v,s⟩ ⟨hj,hrow2⟩
    simp only at hj hrow2 ⊢
    have hlen3:=af6 (ax8 x q y) j
    have hS:=ac8 j (ac5 x q y)
    by_cases hjl:j<y.fields.length
    ·obtain ⟨f,hf0⟩:∃ f,y.fields[j]?=some f:=⟨_,List.getElem?_eq_getElem hjl⟩
     have hfa:fieldAt x q j=some f:=by rw [af3 (by omega) (by omega) hy];exact hf0
     rw [show ac5 x q y j=one q j (-1) (al1 x q y j f) by simp only [ac5,hf0]] at hS
     repeat' (first|refine sk68 ?_|(intro b;conv=>whnf)|refine IxM.mk fun y hy=>?_|(with_reducible refine Br.d (fun hc=>?_) (fun hc=>?_))|(with_reducible refine Br.b (fun hc=>?_) (fun hc=>?_)))
     ·rw [show al1 x q y j f=7 by unfold al1;rw [if_pos (by assumption)]] at hS
      refine CE.own (at4 (L ++ upTo q (ae5 x) ++ one q (-1) (-1) (af8 x q y) ++ upTo j (ac5 x q y)) _ _ _ _ _ _ (by assumption) (by (try simp only [List.length_append]);omega)) (as1 _) (fun s'=>s') aq0 ?_;rintro _ s' ⟨v',rfl,hr'⟩
      repeat' (first|refine sk68 ?_|(intro b;conv=>whnf)|refine IxM.mk fun y hy=>?_)
      exact ⟨(j+1,v',s'),rfl,rfl,⟨by simp only;omega,by simp only;rw [hS,← List.append_assoc];exact hr'⟩,by simp only;omega⟩
     ·rw [show al1 x q y j f=ac2 x q j f by unfold al1;rw [if_neg (by assumption)]] at hS
      refine CE.own (at4 (L ++ upTo q (ae5 x) ++ one q (-1) (-1) (af8 x q y) ++ upTo j (ac5 x q y)) _ _ _ _ _ _ (by assumption) (by (try simp only [List.length_append]);omega)) (as1 _) (fun s'=>s') aq0 ?_;rintro _ s' ⟨v',rfl,hr'⟩
      repeat' (first|refine sk68 ?_|(intro b;conv=>whnf)|refine IxM.mk fun y hy=>?_)
      exact ⟨(j+1,v',s'),rfl,rfl,⟨by simp only;omega,by simp only;rw [hS,← List.append_assoc];exact hr'⟩,by simp only;omega⟩
    ·obtain rfl:j=y.fields.length:=by omega
     repeat' (first|refine sk68 ?_|(intro b;conv=>whnf)|refine IxM.mk fun y hy=>?_|(with_reducible refine Br.d (fun hc=>?_) (fun hc=>?_))|(with_reducible refine Br.b (fun hc=>?_) (fun hc=>?_)))
     exact ⟨(q+1,v,s),rfl,rfl,⟨by simp only;omega,by simp only;rw [hSK];simp only [List.append_assoc] at hrow2 ⊢;exact hrow2⟩,by simp only;omega⟩
   ·have hE:af8 x q y=11:=by unfold af8;rw [if_neg (by assumption),if_neg (by simp [*])]
    have hyf:=hnf y (List.mem_of_getElem? hy)
    have hyl:y.fields.length≤1000000:=by omega
    have ho1:=aA0 q (-1) (-1) (af8 x q y)
    have hy:x.kinds[q]?=some y:=hy
    have hSK:=ac8 q (ae5 x)
    rw [show ae5 x q=one q (-1) (-1) (af8 x q y) ++ upTo y.fields.length (ac5 x q y) by simp only [ae5,hy]] at hSK
    refine CE.own (at4 (L ++ upTo q (ae5 x)) _ _ _ _ _ _ (by assumption) (by (try simp only [List.length_append]);omega)) (as1 _) (fun s'=>s') aq0 ?_;rintro _ s' ⟨v',rfl,hr'⟩
    repeat' (first|refine sk68 ?_|(intro b;conv=>whnf)|refine IxM.mk fun y hy=>?_)
    have hrow1:RowIs 194 4 ((L ++ upTo q (ae5 x) ++ one q (-1) (-1) (af8 x q y)).map prbC) v' s':=by rw [hE];exact hr'
    refine ae3 mixed aa0 (γ:=Nat × Value × aa1) (fun g=>[(4,.v g.2.1),(9,iD g.1)]) (fun g=>g.2.2) (fun g=>g.1≤y.fields.length∧RowIs 194 4 ((L ++ upTo q (ae5 x) ++ one q (-1) (-1) (af8 x q y) ++ upTo g.1 (ac5 x q y)).map prbC) g.2.1 g.2.2) (fun g=>y.fields.length - g.1) (0,v',s') rfl rfl ⟨Nat.zero_le _,by simpa [upTo] using hrow1⟩ ?_
    rintro ⟨j,v,s⟩ ⟨hj,hrow2⟩
    simp only at hj hrow2 ⊢
    have hlen3:=af6 (ax8 x q y) j
    have hS:=ac8 j (ac5 x q y)
    by_cases hjl:j<y.fields.length
    ·obtain ⟨f,hf0⟩:∃ f,y.fields[j]?=some f:=⟨_,List.getElem?_eq_getElem hjl⟩
     have hfa:fieldAt x q j=some f:=by rw [af3 (by omega) (by omega) hy];exact hf0
     rw [show ac5 x q y j=one q j (-1) (al1 x q y j f) by simp only [ac5,hf0]] at hS
     repeat' (first|refine sk68 ?_|(intro b;conv=>whnf)|refine IxM.mk fun y hy=>?_|(with_reducible refine Br.d (fun hc=>?_) (fun hc=>?_))|(with_reducible refine Br.b (fun hc=>?_) (fun hc=>?_)))
     ·rw [show al1 x q y j f=7 by unfold al1;rw [if_pos (by assumption)]] at hS
      refine CE.own (at4 (L ++ upTo q (ae5 x) ++ one q (-1) (-1) (af8 x q y) ++ upTo j (ac5 x q y)) _ _ _ _ _ _ (by assumption) (by (try simp only [List.length_append]);omega)) (as1 _) (fun s'=>s') aq0 ?_;rintro _ s' ⟨v',rfl,hr'⟩
      repeat' (first|refine sk68 ?_|(intro b;conv=>whnf)|refine IxM.mk fun y hy=>?_)
      exact ⟨(j+1,v',s'),rfl,rfl,⟨by simp only;omega,by simp only;rw [hS,← List.append_assoc];exact hr'⟩,by simp only;omega⟩
     ·rw [show al1 x q y j f=ac2 x q j f by unfold al1;rw [if_neg (by assumption)]] at hS
      refine CE.own (at4 (L ++ upTo q (ae5 x) ++ one q (-1) (-1) (af8 x q y) ++ upTo j (ac5 x q y)) _ _ _ _ _ _ (by assumption) (by (try simp only [List.length_append]);omega)) (as1 _) (fun s'=>s') aq0 ?_;rintro _ s' ⟨v',rfl,hr'⟩
      repeat' (first|refine sk68 ?_|(intro b;conv=>whnf)|refine IxM.mk fun y hy=>?_)
      exact ⟨(j+1,v',s'),rfl,rfl,⟨by simp only;omega,by simp only;rw [hS,← List.append_assoc];exact hr'⟩,by simp only;omega⟩
    ·obtain rfl:j=y.fields.length:=by omega
     repeat' (first|refine sk68 ?_|(intro b;conv=>whnf)|refine IxM.mk fun y hy=>?_|(with_reducible refine Br.d (fun hc=>?_) (fun hc=>?_))|(with_reducible refine Br.b (fun hc=>?_) (fun hc=>?_)))
     exact ⟨(q+1,v,s),rfl,rfl,⟨by simp only;omega,by simp only;rw [hSK];simp only [List.append_assoc] at hrow2 ⊢;exact hrow2⟩,by simp only;omega⟩
   ·obtain rfl:q=x.kinds.length:=by omega
    generalize hM:upTo x.kinds.length (ae5 x)=M at *
    refine ae3 mixed aa0 (γ:=Nat × Value × aa1) (fun g=>[(4,.v g.2.1),(10,iD g.1)]) (fun g=>g.2.2) (fun g=>g.1≤x.rules.length∧RowIs 194 4 ((L ++ M ++ upTo g.1 (aD1 x)).map prbC) g.2.1 g.2.2) (fun g=>x.rules.length - g.1) (0,v,s) rfl rfl ⟨Nat.zero_le _,by simpa [upTo] using hrow⟩ ?_
    rintro ⟨q,v,s⟩ ⟨hq,hrow2⟩
    simp only at hq hrow2 ⊢
    have hlen3:=af6 (bd7 x) q
    have hS:=ac8 q (aD1 x)
    by_cases hql:q<x.rules.length
    ·obtain ⟨r,hr0⟩:∃ r,x.rules[q]?=some r:=⟨_,List.getElem?_eq_getElem hql⟩
     rw [show aD1 x q=one (-1) (-1) q (az8 x q r) by simp only [aD1,hr0]] at hS
     repeat' (first|refine sk68 ?_|(intro b;conv=>whnf)|refine IxM.mk fun y hy=>?_|(with_reducible refine Br.d (fun hc=>?_) (fun hc=>?_))|(with_reducible refine Br.b (fun hc=>?_) (fun hc=>?_)))
     refine CE.own (at4 (L ++ M ++ upTo q (aD1 x)) _ _ _ _ _ _ (by assumption) (by (try simp only [List.length_append]);omega)) (as1 _) (fun s'=>s') aq0 ?_;rintro _ s' ⟨v',rfl,hr'⟩
     repeat' (first|refine sk68 ?_|(intro b;conv=>whnf)|refine IxM.mk fun y hy=>?_)
     exact ⟨(q+1,v',s'),rfl,rfl,⟨by simp only;omega,by simp only;rw [hS,← List.append_assoc];exact hr'⟩,by simp only;omega⟩
    ·obtain rfl:q=x.rules.length:=by omega
     rw [hP]
     repeat' (first|refine sk68 ?_|(intro b;conv=>whnf)|refine IxM.mk fun y hy=>?_|(with_reducible refine Br.d (fun hc=>?_) (fun hc=>?_))|(with_reducible refine Br.b (fun hc=>?_) (fun hc=>?_)))
     exact Rt.vs (Vs.row hrow2 (as1 _))
 ·have hP:ap8 x=[(-1,-1,-1,ac9 x)]:=by unfold ap8;rw [if_neg hv]
  rw [hP]
  repeat' (first|refine sk68 ?_|(intro b;conv=>whnf)|refine IxM.mk fun y hy=>?_|(with_reducible refine Br.d (fun hc=>?_) (fun hc=>?_))|(with_reducible refine Br.b (fun hc=>?_) (fun hc=>?_)))
  refine CE.own (at4 [] _ _ _ _ _ _ (RowIs.nil _ _) (by simp)) (as1 _) (fun s'=>s') aq0 ?_;rintro _ s' ⟨v',rfl,hr'⟩
  repeat' (first|refine sk68 ?_|(intro b;conv=>whnf)|refine IxM.mk fun y hy=>?_)
  refine Rt.vs (Vs.row (e:=194) (s:=s') (k:=4) (τ:=[]) ?_ (as1 _))
  simpa [one,hv] using hr'
end
end Go.Proofs.YtjbbmjjildhfbaaGreatDoor
