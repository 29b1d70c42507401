/- A part of the proof: R09 R10b R10c R10d R09b R09c Cv SrcP R09d R09e R09f R09g. -/
import Derived.Test.YtjbbmjjildhfbaaGreatDoorP11
import Derived.Laws.IdiomStrings
import Derived.Lib.ItoaLen
set_option maxRecDepth 100000
set_option maxHeartbeats 4000000
set_option linter.unusedVariables false
set_option linter.unusedSimpArgs false
namespace Go.Proofs.YtjbbmjjildhfbaaGreatDoor
section
open Go
theorem af2 (n a b:Int):APure Tryz.prog 119 [iD n,iD a,iD b] (bD (ab5 n a b)):=by
 refine APure.of_call (aa4 mixed aa0 Tryz.func119 (by kernel_rfl) rfl Tryz.ntmps119 rfl ?_);intro BB
 repeat' (first|refine sk2 ?_|(intro b;conv=>whnf)|(with_reducible refine Br.d (fun hc=>?_) (fun hc=>?_))|(with_reducible refine Br.b (fun hc=>?_) (fun hc=>?_)))
 all_goals (refine Rt.pure (congrArg bD ?_);first|(simp [ab5, *];done)|(simp [ab5];omega))
theorem az2 (lo hi a b:Int):APure Tryz.prog 145 [iD lo,iD hi,iD a,iD b] (bD (an2 lo hi a b)):=by
 refine APure.of_call (aa4 mixed aa0 Tryz.func145 (by kernel_rfl) rfl Tryz.ntmps145 rfl ?_);intro BB
 repeat' (first|refine sk2 ?_|(intro b;conv=>whnf)|(with_reducible refine Br.d (fun hc=>?_) (fun hc=>?_))|(with_reducible refine Br.b (fun hc=>?_) (fun hc=>?_)))
 all_goals (refine Rt.pure (congrArg bD ?_);first|(simp [an2, *];done)|(simp [an2];omega))
theorem aR9 (c:UInt8):APure Tryz.prog 169 [.v (.int .u8 c.toNat)] (bD (ax7 c)):=by
 refine APure.of_call (aa4 mixed aa0 Tryz.func169 (by kernel_rfl) rfl Tryz.ntmps169 rfl ?_);intro BB
 repeat' (first|refine sk2 ?_|(intro b;conv=>whnf)|(with_reducible refine Br.d (fun hc=>?_) (fun hc=>?_))|(with_reducible refine Br.b (fun hc=>?_) (fun hc=>?_)))
 all_goals (refine Rt.pure (congrArg bD ?_);first|(simp [ax7, *];done)|(simp [ax7];omega))
theorem bd3 (c:UInt8):APure Tryz.prog 170 [.v (.int .u8 c.toNat)] (bD (digit c)):=by
 refine APure.of_call (aa4 mixed aa0 Tryz.func170 (by kernel_rfl) rfl Tryz.ntmps170 rfl ?_);intro BB
 repeat' (first|refine sk2 ?_|(intro b;conv=>whnf)|(with_reducible refine Br.d (fun hc=>?_) (fun hc=>?_))|(with_reducible refine Br.b (fun hc=>?_) (fun hc=>?_)))
 all_goals (refine Rt.pure (congrArg bD ?_);first|(simp [digit, *];done)|(simp [digit];omega))
theorem at9 {α:Type} {p:α→Bool} {l:List α} {q:Nat} {y:α} (hy:l[q]?=some y) (h:p y=false):l.all p=false:=by
 rw [List.all_eq_false];exact ⟨y,List.mem_of_getElem? hy,by simp [h]⟩
theorem aC2 {α:Type} {p:α→Bool} {l:List α} (h:∀ (m:Nat) y,m<l.length→l[m]?=some y→p y=true):l.all p=true:=by
 rw [List.all_eq_true]
 intro y hy
 obtain ⟨m,hm⟩:=List.getElem?_of_mem hy
 exact h m y (List.getElem?_eq_some_iff.1 hm).1 hm
theorem aL0 {α:Type} {p:α→Bool} {l:List α} {q:Nat} {y:α} (hno:∀ (m:Nat) y,m<q→l[m]?=some y→p y=true) (hy:l[q]?=some y) (h:p y=true):∀ (m:Nat) y,m<q+1→l[m]?=some y→p y=true:=by
 intro m z hm hz
 by_cases e:m=q
 ·subst e;rw [hy] at hz;cases hz;exact h
 ·exact hno m z (by omega) hz
theorem aF8 (s:ByteArray):(bytes s).length=s.size:=by unfold bytes;simp
theorem sk10 {A B:Prop} (k:B) (h:Hd7 B→A:=by intro hk7q;(first|refine sb0 ?_|refine sb1 ?_|((with_reducible refine' Cp.by ?hc ?_);(case hc=>first|exact aR9 _|exact bd3 _|exact af2 _ _ _|exact az2 _ _ _ _))|((with_reducible refine' CE.pure ?hc ?_);(case hc=>first|exact aR9 _|exact bd3 _|exact af2 _ _ _|exact az2 _ _ _ _)));exact hk7q.run):A:=h ⟨k⟩
theorem al5 (s:ByteArray):APure Tryz.prog 144 [sD s] (bD (isNm s)):=by
 refine APure.of_call (aa4 mixed aa0 Tryz.func144 (by kernel_rfl) rfl Tryz.ntmps144 rfl ?_);intro BB
 by_cases hs:1≤s.size∧s.size≤12
 ·have hw:ab5 s.size 1 12=true:=by simp [ab5];omega
  have h0:0<(bytes s).length:=by rw [aF8];omega
  obtain ⟨c,hc0⟩:∃ c,(bytes s)[(0:Int).toNat]?=some c:=⟨_,List.getElem?_eq_getElem h0⟩
  have hN:isNm s=(ax7 c && (bytes s).all alnum):=by
   unfold isNm
   rw [hw]
   have hc1:(bytes s)[0]?=some c:=hc0
   cases hb:bytes s with
   | nil=>rw [hb] at h0;simp at h0
   | cons d r=>rw [hb] at hc1;simp at hc1;subst hc1;simp
  cases hlet:ax7 c with
  | false=>
   repeat' (first|refine sk10 ?_|(intro b;conv=>whnf)|(with_reducible refine Br.d (fun hc=>?_) (fun hc=>?_))|(with_reducible refine Br.b (fun hc=>?_) (fun hc=>?_)))
   all_goals (refine Rt.pure (congrArg bD ?_);rw [hN,hlet];rfl)
  | true=>
   repeat' (first|refine sk10 ?_|(intro b;conv=>whnf)|(with_reducible refine Br.d (fun hc=>?_) (fun hc=>?_))|(with_reducible refine Br.b (fun hc=>?_) (fun hc=>?_)))
   refine ak7 mixed aa0 (γ:=Nat) (fun g=>[(3,iD g)]) (fun _=>[]) (fun q=>q≤s.size∧∀ (m:Nat) y,m<q→(bytes s)[m]?=some y→alnum y=true) (fun q=>s.size - q) 0 rfl rfl ⟨by omega,fun m y hm=>by omega⟩ ?_
   rintro q ⟨hq,hno⟩
   by_cases hlt:q<s.size
   ·obtain ⟨y,hy⟩:∃ y,(bytes s)[(q:Int).toNat]?=some y:=⟨_,List.getElem?_eq_getElem (by rw [aF8];simpa using hlt)⟩
    have hy':(bytes s)[q]?=some y:=hy
    repeat' (first|refine sk10 ?_|(intro b;conv=>whnf)|(with_reducible refine Br.d (fun hc=>?_) (fun hc=>?_))|(with_reducible refine Br.b (fun hc=>?_) (fun hc=>?_)))
    all_goals first
     | exact ⟨q+1,rfl,rfl,⟨by omega,aL0 hno hy' (by simp [alnum, *])⟩,by omega⟩
     | (refine Rt.pure (congrArg bD ?_);rw [hN,at9 hy' (by simp [alnum, *]),Bool.and_false])
   ·repeat' (first|refine sk10 ?_|(intro b;conv=>whnf)|(with_reducible refine Br.d (fun hc=>?_) (fun hc=>?_))|(with_reducible refine Br.b (fun hc=>?_) (fun hc=>?_)))
    refine Rt.pure (congrArg bD ?_)
    rw [hN,hlet,aC2 (fun m y hm hy=>hno m y (by rw [aF8] at hm;omega) hy)];rfl
 ·have hN:isNm s=false:=by
   have hw:ab5 s.size 1 12=false:=by simp [ab5];omega
   unfold isNm;rw [hw];simp
  repeat' (first|refine sk10 ?_|(intro b;conv=>whnf)|(with_reducible refine Br.d (fun hc=>?_) (fun hc=>?_))|(with_reducible refine Br.b (fun hc=>?_) (fun hc=>?_)))
  all_goals first|(exfalso;omega)|(refine Rt.pure (congrArg bD ?_);exact hN.symm)
theorem sk11 {A B:Prop} (k:B) (h:Hd7 B→A:=by intro hk7q;(first|refine sb0 ?_|refine sb1 ?_|((with_reducible refine' Cp.by ?hc ?_);(case hc=>exact al5 _))|((with_reducible refine' CE.pure ?hc ?_);(case hc=>exact al5 _)));exact hk7q.run):A:=h ⟨k⟩
theorem aD0 (l:List ByteArray) (hl:l.length≤1000000):APure Tryz.prog 147 [slS l] (bD (l.all isNm)):=by
 refine APure.of_call (aa4 mixed aa0 Tryz.func147 (by kernel_rfl) rfl Tryz.ntmps147 rfl ?_);intro BB
 repeat' (first|refine sk11 ?_|(intro b;conv=>whnf)|refine IxM.mk fun y hy=>?_)
 refine ak7 mixed aa0 (γ:=Nat) (fun g=>[(3,iD g)]) (fun _=>[]) (fun q=>q≤l.length∧∀ (m:Nat) y,m<q→l[m]?=some y→isNm y=true) (fun q=>l.length - q) 0 rfl rfl ⟨by omega,fun m y hm=>by omega⟩ ?_
 rintro q ⟨hq,hno⟩
 repeat' (first|refine sk11 ?_|(intro b;conv=>whnf)|refine IxM.mk fun y hy=>?_|(with_reducible refine Br.d (fun hc=>?_) (fun hc=>?_))|(with_reducible refine Br.b (fun hc=>?_) (fun hc=>?_)))
 ·exact ⟨q+1,rfl,rfl,⟨by omega,aL0 hno hy (by assumption)⟩,by omega⟩
 ·refine Rt.pure (congrArg bD ?_);rw [at9 hy (by assumption)]
 ·refine Rt.pure (congrArg bD ?_)
  rw [aC2 (fun m y hm hy=>hno m y (by omega) hy)]
def usesD (k:Int):D:=.tup [bD (ag6 k),bD (ag5 k),bD (ag7 k),bD (ag1 k),bD (ag0 k)]
theorem an8 (k:Int):APure Tryz.prog 171 [iD k] (usesD k):=by
 refine APure.of_call (aa4 mixed aa0 Tryz.func171 (by kernel_rfl) rfl Tryz.ntmps171 rfl ?_);intro BB
 by_cases h:k=0∨k=1∨k=2∨k=3∨k=4∨k=5∨k=6∨k=7∨k=8
 ·rcases h with h|h|h|h|h|h|h|h|h
  all_goals
   repeat' (first|refine sk11 ?_|(intro b;conv=>whnf))
   refine Rt.pure ?_
   subst h;rfl
 ·have n0:¬ k=0:=by omega
  have n1:¬ k=1:=by omega
  have n2:¬ k=2:=by omega
  have n3:¬ k=3:=by omega
  have n4:¬ k=4:=by omega
  have n5:¬ k=5:=by omega
  have n6:¬ k=6:=by omega
  have n7:¬ k=7:=by omega
  have n8:¬ k=8:=by omega
  repeat' (first|refine sk11 ?_|(intro b;conv=>whnf))
  refine Rt.pure ?_
  show D.tup [bD (decide (k=8)),bD (decide (k=8)),bD (decide (k=0)),bD (decide (k=7)),bD (decide (k=3))]=_
  simp [usesD,ag6,ag5,ag7,ag1,ag0,n0,n1,n2,n3,n4,n5,n6,n7,n8]
theorem sk12 {A B:Prop} (k:B) (h:Hd7 B→A:=by intro hk7q;(first|refine sb0 ?_|refine sb1 ?_|((with_reducible refine' Cp.by ?hc ?_);(case hc=>first|exact af2 _ _ _|exact aD0 _ (by assumption)))|((with_reducible refine' CE.pure ?hc ?_);(case hc=>first|exact af2 _ _ _|exact aD0 _ (by assumption))));exact hk7q.run):A:=h ⟨k⟩
theorem aS1 (f:Fld) (hw:f.words.length≤1000000) (hg:f.weights.length≤1000000):APure Tryz.prog 172 [fldD f] (bD (af1 f.words f.weights)):=by
 refine APure.of_call (aa4 mixed aa0 Tryz.func172 (by kernel_rfl) rfl Tryz.ntmps172 rfl ?_);intro BB
 repeat' (first|refine sk12 ?_|(intro b;conv=>whnf))
 refine ak7 mixed aa0 (γ:=Nat × Int) (fun g=>[(3,iD g.2),(4,iD g.1)]) (fun _=>[]) (fun g=>g.1≤f.weights.length∧g.2=(f.weights.take g.1).sum∧(∀ (m:Nat) y,m<g.1→f.weights[m]?=some y→ab5 y 0 1048576=true)∧0≤g.2∧g.2≤1048576*g.1) (fun g=>f.weights.length - g.1) (0,0) rfl rfl ⟨by omega,by simp,fun m y hm=>by omega,by simp,by simp⟩ ?_
 rintro ⟨q,u⟩ ⟨hq,hu,hno,hs0,hs1⟩
 simp only at hq hu hno hs0 hs1 ⊢
 by_cases hlt:q<f.weights.length
 ·obtain ⟨y,hy⟩:∃ y,f.weights[q]?=some y:=⟨_,List.getElem?_eq_getElem hlt⟩
  have hsum:(f.weights.take (q+1)).sum=(f.weights.take q).sum+y:=by
   rw [List.take_add_one,hy];simp
  cases h1:ab5 y 0 1048576 with
  | true=>
   have hy1:0≤y∧y≤1048576:=by simpa [ab5] using h1
   repeat' (first|refine sk12 ?_|(intro b;conv=>whnf)|(with_reducible refine Br.d (fun hc=>?_) (fun hc=>?_))|(with_reducible refine Br.b (fun hc=>?_) (fun hc=>?_)))
   exact ⟨(q+1,u+y),rfl,rfl,⟨by simp only;omega,by simp only;omega,aL0 hno hy h1,by simp only;omega,by simp only;omega⟩,by simp only;omega⟩
  | false=>
   repeat' (first|refine sk12 ?_|(intro b;conv=>whnf)|(with_reducible refine Br.d (fun hc=>?_) (fun hc=>?_))|(with_reducible refine Br.b (fun hc=>?_) (fun hc=>?_)))
   all_goals (refine Rt.pure (congrArg bD ?_);simp only [af1,at9 (p:=fun n=>ab5 n 0 1048576) hy h1];simp)
 ·obtain rfl:q=f.weights.length:=by omega
  have hall:f.weights.all (fun n=>ab5 n 0 1048576)=true:=aC2 hno
  rw [List.take_length] at hu
  have hB:af1 f.words f.weights=(ab5 f.words.length 1 12 && decide (f.words.length=f.weights.length) && decide (0<f.weights.sum) && f.words.all isNm):=by simp [af1,hall]
  rw [← hu] at hB
  clear hu hno hs0 hs1 hall hq hlt
  by_cases e2:f.words.length=f.weights.length
  ·by_cases e3:0<u
   ·repeat' (first|refine sk12 ?_|(intro b;conv=>whnf)|(with_reducible refine Br.d (fun hc=>?_) (fun hc=>?_))|(with_reducible refine Br.b (fun hc=>?_) (fun hc=>?_)))
    all_goals (refine Rt.pure (congrArg bD ?_);rw [hB];simp_all)
   ·rw [decide_eq_false e3] at hB
    repeat' (first|refine sk12 ?_|(intro b;conv=>whnf)|(with_reducible refine Br.d (fun hc=>?_) (fun hc=>?_))|(with_reducible refine Br.b (fun hc=>?_) (fun hc=>?_)))
    all_goals (refine Rt.pure (congrArg bD ?_);rw [hB];simp)
  ·repeat' (first|refine sk12 ?_|(intro b;conv=>whnf)|(with_reducible refine Br.d (fun hc=>?_) (fun hc=>?_))|(with_reducible refine Br.b (fun hc=>?_) (fun hc=>?_)))
   all_goals (refine Rt.pure (congrArg bD ?_);rw [hB,decide_eq_false e2];simp)
end
section
open Go
def slN (l:List Int):List (List D):=l.map fun n=>[iD n]
theorem aH2 {x:Sch} {i:Int} {f:Fld} (h:f.kind≠6∨ab3 x f.of≤i):aj4 x i f=true:=by
 simp only [aj4];rcases h with h|h <;> simp [h]
theorem aH3 {x:Sch} {i:Int} {f:Fld} (h:f.kind=6) (h':i<ab3 x f.of):aj4 x i f=false:=by
 simp only [aj4,h];simp;omega
theorem aL9 (x:Sch) (i:Int) (f:Fld) (o:Nat) (ko:Knd) (ho:ab3 x f.of=o) (hko:x.kinds[o]?=some ko):ap7 x i f=ai5 x o i f ko.fields ko.fields.length:=by
 rw [← ho];exact sharesOf_eq x i f ko (by rw [ho];simp [ad9,hko])
theorem vs_nil (σ:aa1) (k:Nat):Vs σ (.v (.slice none 0 0)) σ (.sl k []):=Vs.le (ah5 k)
theorem sk13 {A B:Prop} (k:B) (h:Hd7 B→A:=by intro hk7q;(first|refine sb0 ?_|refine sb1 ?_|((with_reducible refine' Cp.by ?hc ?_);(case hc=>first|exact aG1 _ _ _|exact ak2 _ _ (by assumption)|exact ai1 _ _ (by assumption)|exact aC8 _ _ _ (by assumption) (by assumption)))|((with_reducible refine' CE.pure ?hc ?_);(case hc=>first|exact aG1 _ _ _|exact ak2 _ _ (by assumption)|exact ai1 _ _ (by assumption)|exact aC8 _ _ _ (by assumption) (by assumption))));exact hk7q.run):A:=h ⟨k⟩
theorem r10_sums (x:Sch) (i j:Int) (f:Fld) (hl:x.kinds.length≤1000000) (hf:∀ k∈x.kinds,k.fields.length≤1000000) (hfa:fieldAt x i j=some f):APure Tryz.prog 106 [schD x,iD i,iD j] (.tup [iD (al7 x i f).1,slI (al7 x i f).2]):=by
 refine APure.of_call (aa4 mixed aa0 Tryz.func106 (by kernel_rfl) rfl Tryz.ntmps106 rfl ?_);intro BB
 obtain ⟨h0,h1,k,hk,hkf⟩:=ae3 hfa
 have hkl:=aN9 x f.of
 have hno:f.kind≠6∨ab3 x f.of≤i→al7 x i f=(-1,[]):=fun h=>by unfold al7;rw [aH2 h];rfl
 repeat' (first|refine sk13 ?_|(intro b;conv=>whnf)|refine IxM.mk fun y hy=>?_|(with_reducible refine Br.d (fun hc=>?_) (fun hc=>?_))|(with_reducible refine Br.b (fun hc=>?_) (fun hc=>?_)))
 ·rw [hno (by omega)]
  exact Rt.vs (Vs.tup (VsL.cons (Vs.refl _ _) (VsL.cons (vs_nil _ _) (VsL.nil _))))
 ·obtain ⟨ko,rfl⟩:∃ ko,ko=y:=⟨_,rfl⟩
  have hko:=hy
  clear hy
  have h6:f.kind=6:=by omega
  have hno':=aH3 (x:=x) (i:=i) h6 (by omega)
  obtain ⟨o,ho⟩:=Int.eq_ofNat_of_zero_le (show 0≤ab3 x f.of by omega)
  rw [ho] at hko
  have hko:x.kinds[o]?=some ko:=hko
  have hS:al7 x i f=((o:Int),ai5 x o i f ko.fields ko.fields.length):=by
   unfold al7;rw [hno',aL9 x i f o ko ho hko,ho];rfl
  have hfk:=hf ko (List.mem_of_getElem? hko)
  rw [ho]
  refine ak7 mixed aa0 (γ:=Nat × Value × aa1) (fun g=>[(10,.v g.2.1),(12,iD g.1)]) (fun g=>(b,.cells 111 (fldC f)) :: g.2.2) (fun g=>g.1≤ko.fields.length∧RowIs 3 1 (slN (ai5 x o i f ko.fields g.1)) g.2.1 g.2.2) (fun g=>ko.fields.length - g.1) (0,.slice none 0 0,[]) rfl rfl ⟨Nat.zero_le _,RowIs.nil _ _⟩ ?_
  rintro ⟨q,v,s⟩ ⟨hq,hrow⟩
  simp only at hq hrow ⊢
  repeat' (first|refine sk13 ?_|(intro b;conv=>whnf)|refine IxM.mk fun y hy=>?_|(with_reducible refine Br.d (fun hc=>?_) (fun hc=>?_))|(with_reducible refine Br.b (fun hc=>?_) (fun hc=>?_)))
  ·have hsh:aq8 x o i f y q=true:=by simp [aq8,seq, *]
   have Hs:=ap6 x o i f ko.fields q y hy
   rw [hsh,if_pos rfl] at Hs
   have hlen:=aH1 x o i f ko.fields (q+1)
   refine Ap.go rfl rfl rfl rfl hrow (perm1 _ _) rfl (zs:=slN (ai5 x o i f ko.fields (q+1))) (by rw [Hs];simp only [slN,List.map_append];rfl) (by simp [slN];omega) (by simp [slN];omega) (fun s'=>_ :: s') (bd6 _) (fun a c s' hr=>?_)
   repeat' (first|refine sk13 ?_|(intro b;conv=>whnf)|refine IxM.mk fun y hy=>?_)
   exact ⟨(q+1,_,s'),rfl,rfl,⟨by simp only;omega,hr⟩,by simp only;omega⟩
  iterate 3
   have hsh:aq8 x o i f y q=false:=by simp [aq8,seq, *]
   have Hs:=ap6 x o i f ko.fields q y hy
   rw [hsh,if_neg (by simp),List.append_nil] at Hs
   exact ⟨(q+1,v,s),rfl,rfl,⟨by simp only;omega,by simp only;rw [Hs];exact hrow⟩,by simp only;omega⟩
  ·obtain rfl:q=ko.fields.length:=by omega
   rw [hS]
   exact Rt.vs (Vs.tup (VsL.cons (Vs.refl _ _) (VsL.cons (Vs.row hrow (perm1 _ _)) (VsL.nil _))))
 ·rw [hno (by omega)]
  exact Rt.vs (Vs.tup (VsL.cons (Vs.refl _ _) (VsL.cons (vs_nil _ _) (VsL.nil _))))
def aX6 (o:Int):List Int→Int × Int
 | [n]=>(o,n)
 | _=>(-1,-1)
def ac6 (x:Sch) (i j:Int):Int × Int:=match fieldAt x i j with
 | none=>(-1,-1)
 | some f=>aX6 (al7 x i f).1 (al7 x i f).2
theorem sharesR_of {x:Sch} {i j:Int} {f:Fld} {o:Int} {l:List Int} (hfa:fieldAt x i j=some f) (hs:al7 x i f=(o,l)):ac6 x i j=aX6 o l:=by
 simp only [ac6,hfa,hs]
theorem pick1_no {o:Int} {l:List Int} (h:l.length≠1):aX6 o l=(-1,-1):=by
 match l,h with
 | [],_=>rfl
 | [a],h=>exact absurd rfl h
 | a :: b :: r,_=>rfl
theorem sk14 {A B:Prop} (k:B) (h:Hd7 B→A:=by intro hk7q;(first|refine sb0 ?_|refine sb1 ?_|((with_reducible refine' Cp.by ?hc ?_);(case hc=>first|exact aG1 _ _ _|exact HS))|((with_reducible refine' CE.pure ?hc ?_);(case hc=>first|exact aG1 _ _ _|exact HS)));exact hk7q.run):A:=h ⟨k⟩
end
section
open Go
theorem aE3:Le (.agg [sD ⟨#[]⟩,sD ⟨#[]⟩,sD ⟨#[]⟩,iD 0,iD 0,iD 0,.v (.slice none 0 0),.v (.slice none 0 0)]) (fldD aK5):=
 le_agg (LeL.cons (Le.refl _) (LeL.cons (Le.refl _) (LeL.cons (Le.refl _) (LeL.cons (Le.refl _) (LeL.cons (Le.refl _) (LeL.cons (Le.refl _) (LeL.cons (ah5 _) (LeL.cons (ah5 _) LeL.nil))))))))
theorem topF_no {x:Sch} {i j:Int} {f:Fld} (h:upIx x i j<0):topF x i j f=none:=by simp [topF,h]
theorem topF_at {x:Sch} {i j:Int} {f:Fld} {ko:Knd} (h:¬ upIx x i j<0) (hk:x.kinds[(upIx x i j).toNat]?=some ko):topF x i j f=fieldAt x (upIx x i j) (ab6 ko f.of):=by
 have:ad9 x (upIx x i j)=some ko:=by unfold ad9;rw [if_pos (by omega)];exact hk
 simp only [topF,this];rw [if_neg h]
theorem aV1 (x:Sch) (i j:Int):upIx x i j<x.kinds.length:=by
 by_cases h:0≤upIx x i j
 ·obtain ⟨o,k,h1,h2⟩:=upIx_at x i j h
  have:=(List.getElem?_eq_some_iff.1 h2).1
  omega
 ·omega
theorem sk15 {A B:Prop} (k:B) (h:Hd7 B→A:=by intro hk7q;(first|refine sb0 ?_|refine sb1 ?_|((with_reducible refine' Cp.by ?hc ?_);(case hc=>first|exact ak2 _ _ (by assumption)|exact ai1 _ _ (by assumption)|exact aC8 _ _ _ (by assumption) (by assumption)))|((with_reducible refine' CE.pure ?hc ?_);(case hc=>first|exact ak2 _ _ (by assumption)|exact ai1 _ _ (by assumption)|exact aC8 _ _ _ (by assumption) (by assumption))));exact hk7q.run):A:=h ⟨k⟩
theorem bd0 (x:Sch) (i j:Int) (f:Fld) (hl:x.kinds.length≤1000000) (hf:∀ k∈x.kinds,k.fields.length≤1000000) (hfa:fieldAt x i j=some f):APure Tryz.prog 151 [schD x,iD i,iD j] (.tup [iD (abvR x i j f).1,fldD (abvR x i j f).2]):=by
 refine APure.of_call (aa4 mixed aa0 Tryz.func151 (by kernel_rfl) rfl Tryz.ntmps151 rfl ?_);intro BB
 obtain ⟨h0,h1,k,hk,hkf⟩:=ae3 hfa
 have hul:=aV1 x i j
 by_cases hu:upIx x i j<0
 ·have ht:abvR x i j f=(-1,aK5):=by simp [abvR,topF_no hu]
  repeat' (first|refine sk15 ?_|(intro b;conv=>whnf)|refine IxM.mk fun y hy=>?_|(with_reducible refine Br.d (fun hc=>?_) (fun hc=>?_))|(with_reducible refine Br.b (fun hc=>?_) (fun hc=>?_)))
  rw [ht]
  exact Rt.vs (Vs.tup (VsL.cons (Vs.refl _ _) (VsL.cons (Vs.le aE3) (VsL.nil _))))
 ·obtain ⟨ko,hko⟩:∃ ko,x.kinds[(upIx x i j).toNat]?=some ko:=⟨_,List.getElem?_eq_getElem (by omega)⟩
  have hfk:=hf ko (List.mem_of_getElem? hko)
  have htf:=topF_at (f:=f) hu hko
  have hfl:=aq0 ko f.of
  repeat' (first|refine sk15 ?_|(intro b;conv=>whnf)|refine IxM.mk fun y hy=>?_|(with_reducible refine Br.d (fun hc=>?_) (fun hc=>?_))|(with_reducible refine Br.b (fun hc=>?_) (fun hc=>?_)))
  ·have ht:abvR x i j f=(-1,aK5):=by simp only [abvR,htf,aj7 (x:=x) (i:=upIx x i j) (j:=ab6 ko f.of) (by omega)]
   rw [ht]
   exact Rt.vs (Vs.tup (VsL.cons (Vs.refl _ _) (VsL.cons (Vs.le aE3) (VsL.nil _))))
  ·have ht:abvR x i j f=(y.kind,y):=by simp only [abvR,htf,ah9 (x:=x) (i:=upIx x i j) (j:=ab6 ko f.of) (by omega) (by omega) hko,hy]
   rw [ht]
   exact Rt.vs (Vs.refl _ _)
end
section
open Go
theorem sk16 {A B:Prop} (k:B) (h:Hd7 B→A:=by intro hk7q;(first|refine sb0 ?_|refine sb1 ?_|((with_reducible refine' Cp.by ?hc ?_);(case hc=>first|exact ak2 _ _ (by assumption)|exact bd0 _ _ _ _ (by assumption) (by assumption) (by assumption)))|((with_reducible refine' CE.pure ?hc ?_);(case hc=>first|exact ak2 _ _ (by assumption)|exact bd0 _ _ _ _ (by assumption) (by assumption) (by assumption))));exact hk7q.run):A:=h ⟨k⟩
theorem bc9 (x:Sch) (i j up:Int) (f:Fld) (hl:x.kinds.length≤1000000) (hf:∀ k∈x.kinds,k.fields.length≤1000000) (hfa:fieldAt x i j=some f):APure Tryz.prog 124 [schD x,iD i,iD j,iD up] (iD (aP8 x i j f up)):=by
 refine APure.of_call (aa4 mixed aa0 Tryz.func124 (by kernel_rfl) rfl Tryz.ntmps124 rfl ?_);intro BB
 obtain ⟨h0,h1,k,hk,hkf⟩:=ae3 hfa
 repeat' (first|refine sk16 ?_|(intro b;conv=>whnf)|(with_reducible refine Br.d (fun hc=>?_) (fun hc=>?_))|(with_reducible refine Br.b (fun hc=>?_) (fun hc=>?_)))
 all_goals (refine Rt.pure (congrArg iD ?_);unfold aP8;(repeat' split) <;> first|rfl|omega)
theorem eqE (s:ByteArray):(s.toList == (⟨#[]⟩:ByteArray).toList)=isE s:=by
 unfold isE
 have:(⟨#[]⟩:ByteArray).toList=[]:=by rw [ByteArray.toList_eq]
 rw [this]
 cases s.toList <;> rfl
theorem sk17 {A B:Prop} (k:B) (h:Hd7 B→A:=by intro hk7q;(first|refine sb0 ?_|refine sb1 ?_|((with_reducible refine' Cp.by ?hc ?_);(case hc=>first|exact ai1 _ _ (by assumption)|exact aC8 _ _ _ (by assumption) (by assumption)|exact r10_sums _ _ _ _ (by assumption) (by assumption) (by assumption)|exact bc9 _ _ _ _ _ (by assumption) (by assumption) (by assumption)))|((with_reducible refine' CE.pure ?hc ?_);(case hc=>first|exact ai1 _ _ (by assumption)|exact aC8 _ _ _ (by assumption) (by assumption)|exact r10_sums _ _ _ _ (by assumption) (by assumption) (by assumption)|exact bc9 _ _ _ _ _ (by assumption) (by assumption) (by assumption))));exact hk7q.run):A:=h ⟨k⟩
theorem bc7 (x:Sch) (i j:Int) (f:Fld) (hl:x.kinds.length≤1000000) (hf:∀ k∈x.kinds,k.fields.length≤1000000) (hll:x.lives.length≤1000000) (hfa:fieldAt x i j=some f):APure Tryz.prog 97 [schD x,iD i,iD j] (iD (ac2 x i j f)):=by
 refine APure.of_call (aa4 mixed aa0 Tryz.func97 (by kernel_rfl) rfl Tryz.ntmps97 rfl ?_);intro BB
 obtain ⟨h0,h1,k,hk,hkf⟩:=ae3 hfa
 have hfk:=hf k (List.mem_of_getElem? hk)
 have hka:ad9 x i=some k:=by simp [ad9,h0,hk]
 have hfl:=aq0 k f.of
 repeat' (first|refine sk17 ?_|(intro b;conv=>whnf)|refine IxM.mk fun y hy=>?_|(with_reducible refine Br.d (fun hc=>?_) (fun hc=>?_))|(with_reducible refine Br.b (fun hc=>?_) (fun hc=>?_)))
 all_goals try
  (refine Rt.pure (congrArg iD ?_);(try simp only [eqE,List.length_map,List.length_take,List.length_append,List.length_cons,List.length_nil,List.length_replicate,Nat.reduceAdd] at *);unfold ac2;(repeat' split) <;> first|rfl|omega|(unfold dayE;rw [hka];(repeat' split) <;> first|rfl|omega|(simp_all;done)|(simp_all;omega)))
 have hU:ac2 x i j f=if x.lives.any (fun l=>seq l.name f.of) then 0 else 12:=by
  unfold ac2;rw [if_neg (by omega),if_neg (by omega),if_neg (by omega),if_neg (by omega),if_pos (by omega)]
 rw [hU]
 refine ak7 mixed aa0 (γ:=Nat) (fun q=>[(10,iD q)]) (fun _=>[(b,.cells 111 (fldC f))]) (fun q=>q≤x.lives.length∧∀ m y,m<q→x.lives[m]?=some y→seq y.name f.of=false) (fun q=>x.lives.length - q) 0 rfl rfl ⟨by omega,by omega⟩ ?_
 rintro q ⟨hq,hno⟩
 repeat' (first|refine sk17 ?_|(intro b;conv=>whnf)|refine IxM.mk fun y hy=>?_|(with_reducible refine Br.d (fun hc=>?_) (fun hc=>?_))|(with_reducible refine Br.b (fun hc=>?_) (fun hc=>?_)))
 ·refine Rt.pure (congrArg iD ?_)
  rw [if_pos (List.any_eq_true.2 ⟨y,List.mem_of_getElem? hy,by assumption⟩)]
 ·exact ⟨q+1,rfl,rfl,⟨by omega,fun m z hm hz=>by
   by_cases e:m=q
   ·subst e;rw [show ((m:Int)).toNat=m from rfl,hz] at hy;cases hy;assumption
   ·exact hno m z (by omega) hz⟩,by omega⟩
 ·refine Rt.pure (congrArg iD ?_)
  rw [if_neg]
  rw [List.any_eq_true]
  rintro ⟨y,hy,hs⟩
  obtain ⟨m,hm⟩:=List.getElem?_of_mem hy
  have:=hno m y (by have:=(List.getElem?_eq_some_iff.1 hm).1;omega) hm
  rw [this] at hs;cases hs
end
section
open Go
theorem neE (s:ByteArray):(!(s.toList == (⟨#[]⟩:ByteArray).toList))=!isE s:=by rw [eqE]
theorem emp2 (a:List ByteArray) (b:List Int):(a.isEmpty && b.isEmpty)=decide (¬ (0<(a.length:Int)+b.length)):=by
 cases a <;> cases b <;> simp <;> omega
theorem sk18 {A B:Prop} (k:B) (h:Hd7 B→A:=by intro hk7q;(first|refine sb0 ?_|refine sb1 ?_|((with_reducible refine' Cp.by ?hc ?_);(case hc=>first|exact HU|exact al5 _|exact af2 _ _ _|exact az2 _ _ _ _|exact aS1 _ (by assumption) (by assumption)))|((with_reducible refine' CE.pure ?hc ?_);(case hc=>first|exact HU|exact al5 _|exact af2 _ _ _|exact az2 _ _ _ _|exact aS1 _ (by assumption) (by assumption))));exact hk7q.run):A:=h ⟨k⟩
theorem aX4 (f:Fld) (hw:f.words.length≤1000000) (hg:f.weights.length≤1000000) (hk:f.kind=0):APure Tryz.prog 146 [fldD f] (bD (ab0 f)):=by
 refine APure.of_call (aa4 mixed aa0 Tryz.func146 (by kernel_rfl) rfl Tryz.ntmps146 rfl ?_);intro BB
 have HU:APure Tryz.prog 171 [iD f.kind] (.tup [bD false,bD false,bD true,bD false,bD false]):=by rw [hk];exact an8 0
 repeat' (first|refine sk18 ?_|(intro b;conv=>whnf)|(with_reducible refine Br.d (fun hc=>?_) (fun hc=>?_))|(with_reducible refine Br.b (fun hc=>?_) (fun hc=>?_)))
 all_goals (refine Rt.pure (congrArg bD ?_);(try simp only [neE,eqE] at *);simp [ab0,an3,al9,ag6,ag5,ag7,ag1,ag0,emp2, *])
theorem aX3 (f:Fld) (hw:f.words.length≤1000000) (hg:f.weights.length≤1000000) (hk:f.kind=1):APure Tryz.prog 146 [fldD f] (bD (ab0 f)):=by
 refine APure.of_call (aa4 mixed aa0 Tryz.func146 (by kernel_rfl) rfl Tryz.ntmps146 rfl ?_);intro BB
 have HU:APure Tryz.prog 171 [iD f.kind] (.tup [bD true,bD false,bD true,bD true,bD false]):=by rw [hk];exact an8 1
 repeat' (first|refine sk18 ?_|(intro b;conv=>whnf)|(with_reducible refine Br.d (fun hc=>?_) (fun hc=>?_))|(with_reducible refine Br.b (fun hc=>?_) (fun hc=>?_)))
 all_goals (refine Rt.pure (congrArg bD ?_);(try simp only [neE,eqE] at *);simp [ab0,an3,al9,ag6,ag5,ag7,ag1,ag0,emp2, *])
theorem aX2 (f:Fld) (hw:f.words.length≤1000000) (hg:f.weights.length≤1000000) (hk:f.kind=2):APure Tryz.prog 146 [fldD f] (bD (ab0 f)):=by
 refine APure.of_call (aa4 mixed aa0 Tryz.func146 (by kernel_rfl) rfl Tryz.ntmps146 rfl ?_);intro BB
 have HU:APure Tryz.prog 171 [iD f.kind] (.tup [bD false,bD false,bD true,bD true,bD false]):=by rw [hk];exact an8 2
 repeat' (first|refine sk18 ?_|(intro b;conv=>whnf)|(with_reducible refine Br.d (fun hc=>?_) (fun hc=>?_))|(with_reducible refine Br.b (fun hc=>?_) (fun hc=>?_)))
 all_goals (refine Rt.pure (congrArg bD ?_);(try simp only [neE,eqE] at *);simp [ab0,an3,al9,ag6,ag5,ag7,ag1,ag0,emp2, *])
theorem aX1 (f:Fld) (hw:f.words.length≤1000000) (hg:f.weights.length≤1000000) (hk:f.kind=3):APure Tryz.prog 146 [fldD f] (bD (ab0 f)):=by
 refine APure.of_call (aa4 mixed aa0 Tryz.func146 (by kernel_rfl) rfl Tryz.ntmps146 rfl ?_);intro BB
 have HU:APure Tryz.prog 171 [iD f.kind] (.tup [bD false,bD false,bD false,bD false,bD true]):=by rw [hk];exact an8 3
 repeat' (first|refine sk18 ?_|(intro b;conv=>whnf)|(with_reducible refine Br.d (fun hc=>?_) (fun hc=>?_))|(with_reducible refine Br.b (fun hc=>?_) (fun hc=>?_)))
 all_goals (refine Rt.pure (congrArg bD ?_);(try simp only [neE,eqE] at *);simp [ab0,an3,al9,ag6,ag5,ag7,ag1,ag0,emp2, *])
theorem aX0 (f:Fld) (hw:f.words.length≤1000000) (hg:f.weights.length≤1000000) (hk:f.kind=4):APure Tryz.prog 146 [fldD f] (bD (ab0 f)):=by
 refine APure.of_call (aa4 mixed aa0 Tryz.func146 (by kernel_rfl) rfl Tryz.ntmps146 rfl ?_);intro BB
 have HU:APure Tryz.prog 171 [iD f.kind] (.tup [bD true,bD false,bD true,bD true,bD false]):=by rw [hk];exact an8 4
 repeat' (first|refine sk18 ?_|(intro b;conv=>whnf)|(with_reducible refine Br.d (fun hc=>?_) (fun hc=>?_))|(with_reducible refine Br.b (fun hc=>?_) (fun hc=>?_)))
 all_goals (refine Rt.pure (congrArg bD ?_);(try simp only [neE,eqE] at *);simp [ab0,an3,al9,ag6,ag5,ag7,ag1,ag0,emp2, *])
theorem aW9 (f:Fld) (hw:f.words.length≤1000000) (hg:f.weights.length≤1000000) (hk:f.kind=5):APure Tryz.prog 146 [fldD f] (bD (ab0 f)):=by
 refine APure.of_call (aa4 mixed aa0 Tryz.func146 (by kernel_rfl) rfl Tryz.ntmps146 rfl ?_);intro BB
 have HU:APure Tryz.prog 171 [iD f.kind] (.tup [bD true,bD false,bD true,bD true,bD false]):=by rw [hk];exact an8 5
 repeat' (first|refine sk18 ?_|(intro b;conv=>whnf)|(with_reducible refine Br.d (fun hc=>?_) (fun hc=>?_))|(with_reducible refine Br.b (fun hc=>?_) (fun hc=>?_)))
 all_goals (refine Rt.pure (congrArg bD ?_);(try simp only [neE,eqE] at *);simp [ab0,an3,al9,ag6,ag5,ag7,ag1,ag0,emp2, *])
theorem aW8 (f:Fld) (hw:f.words.length≤1000000) (hg:f.weights.length≤1000000) (hk:f.kind=6):APure Tryz.prog 146 [fldD f] (bD (ab0 f)):=by
 refine APure.of_call (aa4 mixed aa0 Tryz.func146 (by kernel_rfl) rfl Tryz.ntmps146 rfl ?_);intro BB
 have HU:APure Tryz.prog 171 [iD f.kind] (.tup [bD true,bD false,bD false,bD false,bD false]):=by rw [hk];exact an8 6
 repeat' (first|refine sk18 ?_|(intro b;conv=>whnf)|(with_reducible refine Br.d (fun hc=>?_) (fun hc=>?_))|(with_reducible refine Br.b (fun hc=>?_) (fun hc=>?_)))
 all_goals (refine Rt.pure (congrArg bD ?_);(try simp only [neE,eqE] at *);simp [ab0,an3,al9,ag6,ag5,ag7,ag1,ag0,emp2, *])
theorem aW7 (f:Fld) (hw:f.words.length≤1000000) (hg:f.weights.length≤1000000) (hk:f.kind=7):APure Tryz.prog 146 [fldD f] (bD (ab0 f)):=by
 refine APure.of_call (aa4 mixed aa0 Tryz.func146 (by kernel_rfl) rfl Tryz.ntmps146 rfl ?_);intro BB
 have HU:APure Tryz.prog 171 [iD f.kind] (.tup [bD true,bD true,bD true,bD true,bD false]):=by rw [hk];exact an8 7
 repeat' (first|refine sk18 ?_|(intro b;conv=>whnf)|(with_reducible refine Br.d (fun hc=>?_) (fun hc=>?_))|(with_reducible refine Br.b (fun hc=>?_) (fun hc=>?_)))
 all_goals (refine Rt.pure (congrArg bD ?_);(try simp only [neE,eqE] at *);simp [ab0,an3,al9,ag6,ag5,ag7,ag1,ag0,emp2, *])
theorem aW6 (f:Fld) (hw:f.words.length≤1000000) (hg:f.weights.length≤1000000) (hk:f.kind=8):APure Tryz.prog 146 [fldD f] (bD (ab0 f)):=by
 refine APure.of_call (aa4 mixed aa0 Tryz.func146 (by kernel_rfl) rfl Tryz.ntmps146 rfl ?_);intro BB
 have HU:APure Tryz.prog 171 [iD f.kind] (.tup [bD true,bD true,bD false,bD false,bD false]):=by rw [hk];exact an8 8
 repeat' (first|refine sk18 ?_|(intro b;conv=>whnf)|(with_reducible refine Br.d (fun hc=>?_) (fun hc=>?_))|(with_reducible refine Br.b (fun hc=>?_) (fun hc=>?_)))
 all_goals (refine Rt.pure (congrArg bD ?_);(try simp only [neE,eqE] at *);simp [ab0,an3,al9,ag6,ag5,ag7,ag1,ag0,emp2, *])
theorem aW5 (f:Fld) (hw:f.words.length≤1000000) (hg:f.weights.length≤1000000) (hk:f.kind<0∨8<f.kind):APure Tryz.prog 146 [fldD f] (bD (ab0 f)):=by
 refine APure.of_call (aa4 mixed aa0 Tryz.func146 (by kernel_rfl) rfl Tryz.ntmps146 rfl ?_);intro BB
 have HU:=an8 f.kind
 unfold usesD at HU
 have:ab0 f=false:=by
  have:al9 f=false:=by unfold al9;repeat (rw [if_neg (by omega)])
  simp [ab0,this]
 rw [this]
 repeat' (first|refine sk18 ?_|(intro b;conv=>whnf)|(with_reducible refine Br.d (fun hc=>?_) (fun hc=>?_))|(with_reducible refine Br.b (fun hc=>?_) (fun hc=>?_)))
 all_goals (refine Rt.pure (congrArg bD ?_);rfl)
theorem aM6 (f:Fld) (hw:f.words.length≤1000000) (hg:f.weights.length≤1000000):APure Tryz.prog 146 [fldD f] (bD (ab0 f)):=by
 by_cases hn:f.kind<0∨8<f.kind
 ·exact aW5 f hw hg hn
 ·have:f.kind=0∨f.kind=1∨f.kind=2∨f.kind=3∨f.kind=4∨f.kind=5∨f.kind=6∨f.kind=7∨f.kind=8:=by omega
  rcases this with h|h|h|h|h|h|h|h|h
  ·exact aX4 f hw hg h
  ·exact aX3 f hw hg h
  ·exact aX2 f hw hg h
  ·exact aX1 f hw hg h
  ·exact aX0 f hw hg h
  ·exact aW9 f hw hg h
  ·exact aW8 f hw hg h
  ·exact aW7 f hw hg h
  ·exact aW6 f hw hg h
end
section
open Go
theorem sk19 {A B:Prop} (k:B) (h:Hd7 B→A:=by intro hk7q;(first|refine sb0 ?_|refine sb1 ?_|((with_reducible refine' Cp.by ?hc ?_);(case hc=>first|exact al5 _|exact af2 _ _ _|exact az2 _ _ _ _|exact aM6 _ (hs _ (List.mem_of_getElem? hy)).w (hs _ (List.mem_of_getElem? hy)).g))|((with_reducible refine' CE.pure ?hc ?_);(case hc=>first|exact al5 _|exact af2 _ _ _|exact az2 _ _ _ _|exact aM6 _ (hs _ (List.mem_of_getElem? hy)).w (hs _ (List.mem_of_getElem? hy)).g)));exact hk7q.run):A:=h ⟨k⟩
theorem sk20 {A B:Prop} (k:B) (h:Hd7 B→A:=by intro hk7q;(first|refine sb0 ?_|refine sb1 ?_|((with_reducible refine' Cp.by ?hc ?_);(case hc=>first|exact al5 _|exact af2 _ _ _|exact aD0 _ (by assumption)))|((with_reducible refine' CE.pure ?hc ?_);(case hc=>first|exact al5 _|exact af2 _ _ _|exact aD0 _ (by assumption))));exact hk7q.run):A:=h ⟨k⟩
theorem aS0 (r:Rul):APure Tryz.prog 122 [rulD r] (bD (aq9 r)):=by
 refine APure.of_call (aa4 mixed aa0 Tryz.func122 (by kernel_rfl) rfl Tryz.ntmps122 rfl ?_);intro BB
 repeat' (first|refine sk20 ?_|(intro b;conv=>whnf)|(with_reducible refine Br.d (fun hc=>?_) (fun hc=>?_))|(with_reducible refine Br.b (fun hc=>?_) (fun hc=>?_)))
 all_goals (refine Rt.pure (congrArg bD ?_);(try simp only [neE,eqE] at *);simp [aq9, *])
end
section
open Go Go.RowKit Go.Shelf
section
variable {P:Program} {σ:aa1} {ρ:Operand→D}
theorem yd_i2b {o:Oper} {s d:TypeId} {x:Operand} {k:IntKind} {n:Int} (ho:o.op = .convert s d x) (hx:ρ x = .v (.int k n)) {ds:TypeDesc} (h1:P.underlying s=some ds) (h2:P.underlying d=some (.int .u8)) (hn:0≤n∧n<256) :
  Yd P o ρ σ (.v (.int .u8 (UInt8.ofNat n.toNat).toNat)):=by
 intro w X η hη hst
 obtain ⟨dst,op,ty,pos,aft,g⟩:=o
 simp only at ho
 subst ho
 have h:=(hη x (by simp [Op.operands])).val hx
 refine af8 (s:=convert s d (η x)) (u:=.int .u8 (UInt8.ofNat n.toNat).toNat) ?_ (Ex.refl w) (.v _)
 rw [h]
 have e:IntKind.u8.wrap n=((UInt8.ofNat n.toNat).toNat:Int):=by
  have h3:(UInt8.ofNat n.toNat).toNat=n.toNat % 256:=by simp
  rw [h3]
  have h4:IntKind.u8.wrap n=n:=by
   simp only [IntKind.wrap]
   first|omega|(simp [IntKind.bits,IntKind.signed];omega)
  rw [h4];omega
 cases ds <;> simp [convert,run_underlying h1,run_underlying h2,Conv.intToInt,e]
theorem yd_b2s1 {o:Oper} {s d e:TypeId} {x:Operand} {c:UInt8} (ho:o.op = .convert s d x) (hx:ρ x = .sl 1 [[.v (.int .u8 c.toNat)]]) (h1:P.underlying s=some (.slice e)) (h2:P.underlying e=some (.int .u8)) (h3:P.underlying d=some .string) :
  Yd P o ρ σ (.v (.string ⟨#[c]⟩)):=by
 intro w X η hη hst
 obtain ⟨dst,op,ty,pos,aft,g⟩:=o
 simp only at ho
 subst ho
 have h:=hη x (by simp [Op.operands])
 rw [hx] at h
 obtain ⟨a,cap,vs,hv,hle,hk,hc,hr⟩:=h.sl_inv
 obtain ⟨b,off,rfl,_,_,hcell⟩:=hc 0 _ rfl
 have h4:=hcell 0 (by omega)
 have h5:=(hr 0 _ rfl 0 _ rfl).val rfl
 refine af8 (s:=convert s d (η x)) (u:=.string ⟨#[c]⟩) ?_ (Ex.refl w) (.v _)
 rw [hv]
 have:=run_convert_bytes_back (P:=P) w s d e ⟨b,off,none⟩ cap [c] h1 h2 h3 (fun j hj=>by
  have:j=0:=by simpa using hj
  subst this
  simpa [Addr.add,h5] using h4)
 simpa using this
end
end
section
open Go
def intB (n:Int):Nat:=if -9999999≤n∧n≤9999999 then 8 else 21
theorem aN5 (u:Nat) (h:u≤9999999):Lib.nDigits u≤7:=by
 have step:∀ v:Nat,Lib.nDigits v≤Lib.nDigits (v / 10)+1:=fun v=>by
  rw [Lib.nDigits];split
  ·omega
  ·exact Nat.le_refl _
 have h1:=step u
 have h2:=step (u / 10)
 have h3:=step (u / 10 / 10)
 have h4:=step (u / 10 / 10 / 10)
 have h5:=step (u / 10 / 10 / 10 / 10)
 have h6:=step (u / 10 / 10 / 10 / 10 / 10)
 have h7:Lib.nDigits (u / 10 / 10 / 10 / 10 / 10 / 10)=1:=Lib.nDigits_small (by omega)
 omega
theorem ae1 (n:Int):intB n≤21:=by unfold intB;split <;> omega
def an1 (f:Fld):Nat:=16+f.name.size+f.of.size+f.up.size+intB f.lo+intB f.hi+intB f.words.length+(f.words.map fun s=>1+s.size).sum+(f.weights.map fun n=>1+intB n).sum
def sumB {α:Type} (f:α→Nat) (l:List α):Nat:=(l.map f).sum
theorem ax0 {α:Type} (f:α→Nat) (l:List α) (j:Nat) (x:α) (h:l[j]?=some x):sumB f (l.take (j+1))=sumB f (l.take j)+f x:=by
 simp [sumB,List.take_add_one,h,List.sum_append]
theorem aL2 {α:Type} (f:α→Nat) (l:List α):∀ j,sumB f (l.take j)≤sumB f l:=by
 induction l with
 | nil=>intro j;simp [sumB]
 | cons x l ih=>
  intro j
  cases j with
  | zero=>simp [sumB]
  | succ j=>have:=ih j;simp only [sumB,List.take_succ_cons,List.map_cons,List.sum_cons] at *;omega
def kndB (k:Knd):Nat:=8+k.name.size+intB k.lo+intB k.hi+sumB an1 k.fields
def movB (m:Int × Int):Nat:=7+intB m.1+intB m.2
def lifB (x:Lif):Nat:=7+x.name.size+intB x.states.length+sumB (fun s=>1+s.size) x.states+sumB movB x.moves
def rulB (r:Rul):Nat:=12+r.name.size+r.kind.size+r.a.size+r.b.size+intB r.n
def srcB (x:Sch):Nat:=29+sumB kndB x.kinds+sumB lifB x.lives+sumB rulB x.rules
/-! ### The source -/
def decN (m:Nat):ByteArray:=if m<10 then ⟨#[UInt8.ofNat (48+m)]⟩ else decN (m / 10) ++ ⟨#[UInt8.ofNat (48+m % 10)]⟩
termination_by m
decreasing_by omega
theorem aG5 {m:Nat} (h:m<10):decN m=⟨#[UInt8.ofNat (48+m)]⟩:=by rw [decN,if_pos h]
theorem aU1 {m:Nat} (h:¬ m<10):decN m=decN (m / 10) ++ ⟨#[UInt8.ofNat (48+m % 10)]⟩:=by rw [decN,if_neg h]
theorem ar4:∀ (c m:Nat),m<10 ^ (c+1)→(decN m).size≤c+1
 | 0,m,h=>by rw [aG5 (by omega)];exact Nat.le_refl 1
 | c+1,m,h=>by
  by_cases hm:m<10
  ·rw [aG5 hm];show 1≤_;omega
  ·rw [aU1 hm,ByteArray.size_append]
   have:=ar4 c (m / 10) (by rw [Nat.pow_succ] at h;omega)
   show _+1≤_
   omega
def decS (n:Int):ByteArray:=if n<0 then (⟨#[45]⟩:ByteArray) ++ decN (-n).toNat else decN n.toNat
theorem bg2 {n:Int} (h:-9223372036854775807≤n∧n≤9223372036854775807):(decS n).size≤intB n:=by
 have one:(⟨#[45]⟩:ByteArray).size=1:=rfl
 unfold decS intB
 split
 ·rw [ByteArray.size_append,one]
  split
  ·have:=ar4 6 (-n).toNat (by omega);omega
  ·have:=ar4 18 (-n).toNat (by omega);omega
 ·split
  ·have:=ar4 6 n.toNat (by omega);omega
  ·have:=ar4 18 n.toNat (by omega);omega
def andS (s:ByteArray) (n:Int):ByteArray:=s ++ (⟨#[32]⟩:ByteArray) ++ decS n
theorem andS_size {s:ByteArray} {n:Int} (h:-9223372036854775807≤n∧n≤9223372036854775807):(andS s n).size≤s.size+1+intB n:=by
 unfold andS
 rw [ByteArray.size_append,ByteArray.size_append]
 have:=bg2 h
 have:(⟨#[32]⟩:ByteArray).size=1:=rfl
 omega
def aS5 (s:ByteArray):ByteArray:=if isE s then ⟨#[45]⟩ else s
theorem namedS_size (s:ByteArray):(aS5 s).size≤s.size+1:=by
 unfold aS5;split
 ·show 1≤_;omega
 ·omega
end
section
open Go
theorem tdiv10 (m:Nat):((m:Int).tdiv 10)=((m / 10:Nat):Int):=rfl
theorem tmod10 (m:Nat):((m:Int).tmod 10)=((m % 10:Nat):Int):=rfl
theorem sb21 {A B:Prop} (k:B) (h:Hd7 B→A:=by intro hk7q;(first|((with_reducible refine W.mk ?_);(conv=>whnf))|(with_reducible refine Br.tt ?_)|(with_reducible refine Br.ff ?_)|(with_reducible refine Br.n ?_)|((with_reducible refine' Br.eq ?h ?_);(case h=>(simp only [List.length_map,List.length_take,List.length_append,List.length_cons,List.length_nil,List.length_replicate,Nat.reduceAdd];exact rfl)))|((with_reducible refine Sd.go ?qs7 ?_);(case qs7=>first|trivial|(constructor <;> omega)|omega|assumption|((try simp only [List.length_map,List.length_take,List.length_append,List.length_cons,List.length_nil,List.length_replicate,Nat.reduceAdd] at *);first|(constructor <;> omega)|omega)))|((with_reducible refine Ck.go ?qs7 ?_);(case qs7=>kernel_rfl))|((with_reducible refine' Ix.mapAt ?hy ?h0 ?_);(case hy=>assumption);(case h0=>omega))|((with_reducible refine' Ix.at ?hy ?h0 ?_);(case hy=>exact rfl);(case h0=>omega))|((with_reducible refine Ix.mapM ?h0 ?_);(case h0=>first|omega|(simp only [List.length_map,List.length_take,List.length_append,List.length_cons,List.length_nil,List.length_replicate,Nat.reduceAdd] at *;omega)))|((with_reducible refine' Ld.at 0 ?h1 ?h2 ?h3 ?_);(case h1=>exact rfl);(case h2=>exact rfl);(case h3=>exact rfl))|((with_reducible refine' Ld.at 1 ?h1 ?h2 ?h3 ?_);(case h1=>exact rfl);(case h2=>exact rfl);(case h3=>exact rfl))|((with_reducible refine' Ld.at 2 ?h1 ?h2 ?h3 ?_);(case h1=>exact rfl);(case h2=>exact rfl);(case h3=>exact rfl))|((with_reducible refine' Sv.at 0 ?h1 ?h2 ?h3 ?h4 ?h5 ?_);(case h1=>exact rfl);(case h2=>exact rfl);(case h3=>exact rfl);(case h4=>exact rfl);(case h5=>exact (by first|(simp only [List.set_cons_succ,List.set_cons_zero,spl,ag4,mkD,List.take_succ_cons,List.take_zero,List.drop_succ_cons,List.drop_zero,List.length_cons,List.length_nil,List.nil_append,List.cons_append,Nat.reduceAdd,Nat.zero_add,List.append_nil,List.map_cons,List.map_nil];rfl)|rfl)))|((with_reducible refine' Sv.at 1 ?h1 ?h2 ?h3 ?h4 ?h5 ?_);(case h1=>exact rfl);(case h2=>exact rfl);(case h3=>exact rfl);(case h4=>exact rfl);(case h5=>exact (by first|(simp only [List.set_cons_succ,List.set_cons_zero,spl,ag4,mkD,List.take_succ_cons,List.take_zero,List.drop_succ_cons,List.drop_zero,List.length_cons,List.length_nil,List.nil_append,List.cons_append,Nat.reduceAdd,Nat.zero_add,List.append_nil,List.map_cons,List.map_nil];rfl)|rfl)))|((with_reducible refine' Sv.at 2 ?h1 ?h2 ?h3 ?h4 ?h5 ?_);(case h1=>exact rfl);(case h2=>exact rfl);(case h3=>exact rfl);(case h4=>exact rfl);(case h5=>exact (by first|(simp only [List.set_cons_succ,List.set_cons_zero,spl,ag4,mkD,List.take_succ_cons,List.take_zero,List.drop_succ_cons,List.drop_zero,List.length_cons,List.length_nil,List.nil_append,List.cons_append,Nat.reduceAdd,Nat.zero_add,List.append_nil,List.map_cons,List.map_nil];rfl)|rfl)))|((with_reducible refine' Ot.yd ?hyd ?_);(case hyd=>first|(refine yd_i2b rfl rfl Tryz.underlying3 Tryz.underlying5 ?_;omega)|exact yd_b2s1 rfl rfl Tryz.underlying204 Tryz.underlying5 Tryz.underlying9))|((with_reducible refine' Rs.tc aa0 (m:=0) ?h ?hi ?hj ?hb ?ht ?hag ?hs ?_);(case h=>exact rfl);(case hi=>exact rfl);(case hj=>exact rfl);(case hb=>exact rfl);(case ht=>exact rfl);(case hag=>exact rfl);(case hs=>exact rfl))|((with_reducible refine' Rs.ct aa0 (m:=0) ?h ?hi ?hj ?hb ?ht ?hag ?hs ?_);(case h=>exact rfl);(case hi=>exact rfl);(case hj=>exact rfl);(case hb=>exact rfl);(case ht=>exact rfl);(case hag=>exact rfl);(case hs=>exact rfl))|((with_reducible refine' Rs.c aa0 (m:=0) ?h ?hj ?hb ?ht ?hag ?hs ?_);(case h=>exact rfl);(case hj=>exact rfl);(case hb=>exact rfl);(case ht=>exact rfl);(case hag=>exact rfl);(case hs=>exact rfl))|((with_reducible refine Br.dt ?h ?_);(case h=>omega))|((with_reducible refine Br.df ?h ?_);(case h=>omega))|((with_reducible refine Br.t ?h ?_);(case h=>assumption))|((with_reducible refine Br.f ?h ?_);(case h=>assumption))|((with_reducible refine Br.t ?h ?_);(case h=>(refine decide_eq_true ?_;omega)))|((with_reducible refine Br.f ?h ?_);(case h=>(refine decide_eq_false ?_;omega))));exact hk7q.run):A:=h ⟨k⟩
theorem sk22 {A B:Prop} (k:B) (h:Hd7 B→A:=by intro hk7q;(first|refine sb21 ?_|refine sb1 ?_|((with_reducible refine' Cp.by ?hc ?_);(case hc=>exact IH))|((with_reducible refine' CE.pure ?hc ?_);(case hc=>exact IH)));exact hk7q.run):A:=h ⟨k⟩
theorem r09_decN:∀ m:Nat,m≤9223372036854775807→APure Tryz.prog 173 [iD m] (sD (decN m)):=by
 intro m
 induction m using Nat.strongRecOn with
 | ind m ih=>
 intro hm
 refine APure.of_call (aa4 mixed aa0 Tryz.func173 (by kernel_rfl) rfl Tryz.ntmps173 rfl ?_);intro BB
 by_cases h:m<10
 ·repeat' (first|refine sk22 ?_|(intro b;conv=>whnf))
  refine Rt.pure (congrArg sD ?_)
  rw [aG5 h];rfl
 ·have IH:=ih (m / 10) (by omega) (by omega)
  rw [← tdiv10] at IH
  have h1:((m:Int).tmod 10)=((m % 10:Nat):Int):=tmod10 m
  have hsz:=ar4 18 (m / 10) (by omega)
  have one:(⟨#[UInt8.ofNat (48+(m:Int).tmod 10).toNat]⟩:ByteArray).size=1:=rfl
  repeat' (first|refine sk22 ?_|(intro b;conv=>whnf))
  refine Sd.go ⟨by decide,by rw [tdiv10];constructor <;> omega⟩ ?_
  repeat' (first|refine sk22 ?_|(intro b;conv=>whnf))
  refine Rt.pure (congrArg sD ?_)
  rw [aU1 h];rfl
theorem sk23 {A B:Prop} (k:B) (h:Hd7 B→A:=by intro hk7q;(first|refine sb21 ?_|refine sb1 ?_|((with_reducible refine' Cp.by ?hc ?_);(case hc=>exact HN))|((with_reducible refine' CE.pure ?hc ?_);(case hc=>exact HN)));exact hk7q.run):A:=h ⟨k⟩
theorem r09_dec (n:Int) (h:-9223372036854775807≤n∧n≤9223372036854775807):APure Tryz.prog 173 [iD n] (sD (decS n)):=by
 by_cases h0:n<0
 ·have HN:=r09_decN (-n).toNat (by omega)
  rw [show (((-n).toNat:Nat):Int) = -n by omega] at HN
  have hsz:=ar4 18 (-n).toNat (by omega)
  have one:(⟨#[45]⟩:ByteArray).size=1:=rfl
  refine APure.of_call (aa4 mixed aa0 Tryz.func173 (by kernel_rfl) rfl Tryz.ntmps173 rfl ?_);intro BB
  repeat' (first|refine sk23 ?_|(intro b;conv=>whnf))
  refine Rt.pure (congrArg sD ?_)
  unfold decS;rw [if_pos h0]
 ·have:=r09_decN n.toNat (by omega)
  rw [show ((n.toNat:Nat):Int)=n by omega] at this
  unfold decS;rw [if_neg h0];exact this
theorem sk24 {A B:Prop} (k:B) (h:Hd7 B→A:=by intro hk7q;(first|refine sb21 ?_|refine sb1 ?_|((with_reducible refine' Cp.by ?hc ?_);(case hc=>exact r09_dec _ (by assumption)))|((with_reducible refine' CE.pure ?hc ?_);(case hc=>exact r09_dec _ (by assumption))));exact hk7q.run):A:=h ⟨k⟩
theorem aX5 (s:ByteArray) (n:Int) (hs:s.size≤1000000000) (h:-9223372036854775807≤n∧n≤9223372036854775807):APure Tryz.prog 148 [sD s,iD n] (sD (andS s n)):=by
 have h1:=bg2 h
 have h2:=ae1 n
 have one:(⟨#[32]⟩:ByteArray).size=1:=rfl
 have h3:(s ++ (⟨#[32]⟩:ByteArray)).size=s.size+1:=by rw [ByteArray.size_append,one]
 refine APure.of_call (aa4 mixed aa0 Tryz.func148 (by kernel_rfl) rfl Tryz.ntmps148 rfl ?_);intro BB
 repeat' (first|refine sk24 ?_|(intro b;conv=>whnf))
 exact Rt.pure rfl
theorem aD1 (s:ByteArray):APure Tryz.prog 150 [sD s] (sD (aS5 s)):=by
 refine APure.of_call (aa4 mixed aa0 Tryz.func150 (by kernel_rfl) rfl Tryz.ntmps150 rfl ?_);intro BB
 repeat' (first|refine sk24 ?_|(intro b;conv=>whnf)|(with_reducible refine Br.d (fun hc=>?_) (fun hc=>?_))|(with_reducible refine Br.b (fun hc=>?_) (fun hc=>?_)))
 ·refine Rt.pure (congrArg sD ?_)
  unfold aS5;rw [← eqE,if_pos (by assumption)]
 ·refine Rt.pure (congrArg sD ?_)
  unfold aS5;rw [← eqE,hc];rfl
def wordsL:List ByteArray:=[⟨#[107,101,121]⟩,⟨#[114,101,102]⟩,⟨#[110,117,109]⟩,⟨#[112,105,99,107]⟩,⟨#[100,97,121]⟩,⟨#[115,116,101,112]⟩,⟨#[115,117,109]⟩,⟨#[115,104,97,114,101]⟩,⟨#[99,111,112,121]⟩]
theorem bd1:APure Tryz.prog 174 [] (slS wordsL):=by
 refine APure.of_call (aa4 mixed aa0 Tryz.func174 (by kernel_rfl) rfl Tryz.ntmps174 rfl ?_);intro BB
 repeat' (first|refine sk24 ?_|(intro b;conv=>whnf))
 exact Rt.pure rfl
end
section
open Go
structure SaneF (f:Fld):Prop where
 lo:-9223372036854775807≤f.lo∧f.lo≤9223372036854775807
 hi:-9223372036854775807≤f.hi∧f.hi≤9223372036854775807
 ws:∀ n∈f.weights,-9223372036854775807≤n∧n≤9223372036854775807
def sp:ByteArray:=⟨#[32]⟩
/-! Sizes of texts -/
theorem sz1 (c:UInt8):(⟨#[c]⟩:ByteArray).size≤1:=Nat.le_refl 1
theorem sz0:(⟨#[]⟩:ByteArray).size≤0:=Nat.le_refl 0
theorem szA {a b:ByteArray} {m n:Nat} (h:a.size≤m) (k:b.size≤n):(a ++ b).size≤m+n:=by rw [ByteArray.size_append];omega
theorem bb5 {s:ByteArray} {n:Int} {m:Nat} (h:s.size≤m) (k:-9223372036854775807≤n∧n≤9223372036854775807):(andS s n).size≤m+22:=by have:=andS_size (s:=s) k;have:=ae1 n;omega
theorem szN {s:ByteArray} {m:Nat} (h:s.size≤m):(aS5 s).size≤m+1:=by have:=namedS_size s;omega
theorem szLe {s:ByteArray} {m M:Nat} (h:s.size≤m) (k:m≤M):s.size≤M:=Nat.le_trans h k
theorem szSum {a b:ByteArray} {m n M:Nat} (h:a.size≤m) (k:b.size≤n) (c:m+n≤M):a.size+b.size≤M:=by omega
theorem sb25 {A B:Prop} (k:B) (h:Hd7 B→A:=by intro hk7q;(first|((with_reducible refine W.mk ?_);(conv=>whnf))|(with_reducible refine Br.tt ?_)|(with_reducible refine Br.ff ?_)|(with_reducible refine Br.n ?_)|((with_reducible refine' Br.eq ?h ?_);(case h=>(simp only [List.length_map,List.length_take,List.length_append,List.length_cons,List.length_nil,List.length_replicate,Nat.reduceAdd];exact rfl)))|((with_reducible refine Sd.go ?s ?_);(case s=>first|trivial|(constructor <;> omega)|omega|assumption|(refine' szSum ?a ?b ?c;(case a=>repeat' (first|((show (_:Nat)≤_);assumption)|exact sz1 _|exact sz0|(refine' bb5 ?_ (by assumption))|refine' szN ?_|refine' szA ?_ ?_));(case b=>repeat' (first|((show (_:Nat)≤_);assumption)|exact sz1 _|exact sz0|(refine' bb5 ?_ (by assumption))|refine' szN ?_|refine' szA ?_ ?_));(case c=>first|decide|omega))))|((with_reducible refine Ck.go ?qs7 ?_);(case qs7=>kernel_rfl))|((with_reducible refine' Ix.mapAt ?hy ?h0 ?_);(case hy=>assumption);(case h0=>omega))|((with_reducible refine' Ix.at ?hy ?h0 ?_);(case hy=>exact rfl);(case h0=>omega))|((with_reducible refine Ix.mapM ?h0 ?_);(case h0=>first|omega|(simp only [List.length_map,List.length_take,List.length_append,List.length_cons,List.length_nil,List.length_replicate,Nat.reduceAdd] at *;omega)))|((with_reducible refine' Ld.at 0 ?h1 ?h2 ?h3 ?_);(case h1=>exact rfl);(case h2=>exact rfl);(case h3=>exact rfl))|((with_reducible refine' Ld.at 1 ?h1 ?h2 ?h3 ?_);(case h1=>exact rfl);(case h2=>exact rfl);(case h3=>exact rfl))|((with_reducible refine' Ld.at 2 ?h1 ?h2 ?h3 ?_);(case h1=>exact rfl);(case h2=>exact rfl);(case h3=>exact rfl))|((with_reducible refine' Sv.at 0 ?h1 ?h2 ?h3 ?h4 ?h5 ?_);(case h1=>exact rfl);(case h2=>exact rfl);(case h3=>exact rfl);(case h4=>exact rfl);(case h5=>exact (by first|(simp only [List.set_cons_succ,List.set_cons_zero,spl,ag4,mkD,List.take_succ_cons,List.take_zero,List.drop_succ_cons,List.drop_zero,List.length_cons,List.length_nil,List.nil_append,List.cons_append,Nat.reduceAdd,Nat.zero_add,List.append_nil,List.map_cons,List.map_nil];rfl)|rfl)))|((with_reducible refine' Sv.at 1 ?h1 ?h2 ?h3 ?h4 ?h5 ?_);(case h1=>exact rfl);(case h2=>exact rfl);(case h3=>exact rfl);(case h4=>exact rfl);(case h5=>exact (by first|(simp only [List.set_cons_succ,List.set_cons_zero,spl,ag4,mkD,List.take_succ_cons,List.take_zero,List.drop_succ_cons,List.drop_zero,List.length_cons,List.length_nil,List.nil_append,List.cons_append,Nat.reduceAdd,Nat.zero_add,List.append_nil,List.map_cons,List.map_nil];rfl)|rfl)))|((with_reducible refine' Sv.at 2 ?h1 ?h2 ?h3 ?h4 ?h5 ?_);(case h1=>exact rfl);(case h2=>exact rfl);(case h3=>exact rfl);(case h4=>exact rfl);(case h5=>exact (by first|(simp only [List.set_cons_succ,List.set_cons_zero,spl,ag4,mkD,List.take_succ_cons,List.take_zero,List.drop_succ_cons,List.drop_zero,List.length_cons,List.length_nil,List.nil_append,List.cons_append,Nat.reduceAdd,Nat.zero_add,List.append_nil,List.map_cons,List.map_nil];rfl)|rfl)))|((with_reducible refine' Ot.yd ?hyd ?_);(case hyd=>first|(refine' yd_sidx aa0 rfl rfl rfl rfl rfl ?hc ?h0;(case hc=>assumption);(case h0=>omega))|(refine yd_slto aa0 rfl rfl rfl rfl rfl ?_;first|omega|(simp only [List.length_map,List.length_take,List.length_append,List.length_cons,List.length_nil,List.length_replicate,Nat.reduceAdd];omega))|(refine aU7 aa0 rfl rfl rfl rfl rfl ?_;omega)|exact yd_bne rfl rfl rfl Tryz.underlying4|exact yd_min rfl rfl rfl|exact yd_max rfl rfl rfl))|((with_reducible refine' Rs.tc aa0 (m:=0) ?h ?hi ?hj ?hb ?ht ?hag ?hs ?_);(case h=>exact rfl);(case hi=>exact rfl);(case hj=>exact rfl);(case hb=>exact rfl);(case ht=>exact rfl);(case hag=>exact rfl);(case hs=>exact rfl))|((with_reducible refine' Rs.ct aa0 (m:=0) ?h ?hi ?hj ?hb ?ht ?hag ?hs ?_);(case h=>exact rfl);(case hi=>exact rfl);(case hj=>exact rfl);(case hb=>exact rfl);(case ht=>exact rfl);(case hag=>exact rfl);(case hs=>exact rfl))|((with_reducible refine' Rs.c aa0 (m:=0) ?h ?hj ?hb ?ht ?hag ?hs ?_);(case h=>exact rfl);(case hj=>exact rfl);(case hb=>exact rfl);(case ht=>exact rfl);(case hag=>exact rfl);(case hs=>exact rfl))|((with_reducible refine Br.dt ?h ?_);(case h=>omega))|((with_reducible refine Br.df ?h ?_);(case h=>omega))|((with_reducible refine Br.t ?h ?_);(case h=>assumption))|((with_reducible refine Br.f ?h ?_);(case h=>assumption))|((with_reducible refine Br.t ?h ?_);(case h=>(refine decide_eq_true ?_;omega)))|((with_reducible refine Br.f ?h ?_);(case h=>(refine decide_eq_false ?_;omega))));exact hk7q.run):A:=h ⟨k⟩
theorem sk26 {A B:Prop} (k:B) (h:Hd7 B→A:=by intro hk7q;(first|refine sb25 ?_|refine sb1 ?_|((with_reducible refine' Cp.by ?hc ?_);(case hc=>first|exact HU|exact bd1|exact aD1 _|(refine aX5 _ _ ?hs ?hn;(case hn=>first|assumption|omega|(simp only [List.length_map,List.length_take,List.length_append,List.length_cons,List.length_nil,List.length_replicate,Nat.reduceAdd];omega));(case hs=>(refine' szLe ?a ?c;(case a=>repeat' (first|((show (_:Nat)≤_);assumption)|exact sz1 _|exact sz0|(refine' bb5 ?_ (by assumption))|refine' szN ?_|refine' szA ?_ ?_));(case c=>first|decide|omega))))))|((with_reducible refine' CE.pure ?hc ?_);(case hc=>first|exact HU|exact bd1|exact aD1 _|(refine aX5 _ _ ?hs ?hn;(case hn=>first|assumption|omega|(simp only [List.length_map,List.length_take,List.length_append,List.length_cons,List.length_nil,List.length_replicate,Nat.reduceAdd];omega));(case hs=>(refine' szLe ?a ?c;(case a=>repeat' (first|((show (_:Nat)≤_);assumption)|exact sz1 _|exact sz0|(refine' bb5 ?_ (by assumption))|refine' szN ?_|refine' szA ?_ ?_));(case c=>first|decide|omega)))))));exact hk7q.run):A:=h ⟨k⟩
end
section
open Go
theorem sb27 {A B:Prop} (k:B) (h:Hd7 B→A:=by intro hk7q;(first|((with_reducible refine W.mk ?_);(conv=>whnf))|(with_reducible refine Br.tt ?_)|(with_reducible refine Br.ff ?_)|(with_reducible refine Br.n ?_)|((with_reducible refine' Br.eq ?h ?_);(case h=>(simp only [List.length_map,List.length_take,List.length_append,List.length_cons,List.length_nil,List.length_replicate,Nat.reduceAdd];exact rfl)))|((with_reducible refine Sd.go ?qs7 ?_);(case qs7=>first|trivial|(constructor <;> omega)|omega|assumption|(refine' szSum ?a ?b ?c;(case a=>repeat' (first|((show (_:Nat)≤_);assumption)|exact sz1 _|exact sz0|(refine' bb5 ?_ (by assumption))|refine' szN ?_|refine' szA ?_ ?_));(case b=>repeat' (first|((show (_:Nat)≤_);assumption)|exact sz1 _|exact sz0|(refine' bb5 ?_ (by assumption))|refine' szN ?_|refine' szA ?_ ?_));(case c=>first|decide|omega))))|((with_reducible refine Ck.go ?qs7 ?_);(case qs7=>kernel_rfl))|((with_reducible refine' Ix.mapAt ?hy ?h0 ?_);(case hy=>assumption);(case h0=>omega))|((with_reducible refine' Ix.at ?hy ?h0 ?_);(case hy=>exact rfl);(case h0=>omega))|((with_reducible refine Ix.mapM ?h0 ?_);(case h0=>first|omega|(simp only [List.length_map,List.length_take,List.length_append,List.length_cons,List.length_nil,List.length_replicate,Nat.reduceAdd] at *;omega)))|((with_reducible refine' Ld.at 0 ?h1 ?h2 ?h3 ?_);(case h1=>exact rfl);(case h2=>exact rfl);(case h3=>exact rfl))|((with_reducible refine' Ld.at 1 ?h1 ?h2 ?h3 ?_);(case h1=>exact rfl);(case h2=>exact rfl);(case h3=>exact rfl))|((with_reducible refine' Ld.at 2 ?h1 ?h2 ?h3 ?_);(case h1=>exact rfl);(case h2=>exact rfl);(case h3=>exact rfl))|((with_reducible refine' Sv.at 0 ?h1 ?h2 ?h3 ?h4 ?h5 ?_);(case h1=>exact rfl);(case h2=>exact rfl);(case h3=>exact rfl);(case h4=>exact rfl);(case h5=>exact (by first|(simp only [List.set_cons_succ,List.set_cons_zero,spl,ag4,mkD,List.take_succ_cons,List.take_zero,List.drop_succ_cons,List.drop_zero,List.length_cons,List.length_nil,List.nil_append,List.cons_append,Nat.reduceAdd,Nat.zero_add,List.append_nil,List.map_cons,List.map_nil];rfl)|rfl)))|((with_reducible refine' Sv.at 1 ?h1 ?h2 ?h3 ?h4 ?h5 ?_);(case h1=>exact rfl);(case h2=>exact rfl);(case h3=>exact rfl);(case h4=>exact rfl);(case h5=>exact (by first|(simp only [List.set_cons_succ,List.set_cons_zero,spl,ag4,mkD,List.take_succ_cons,List.take_zero,List.drop_succ_cons,List.drop_zero,List.length_cons,List.length_nil,List.nil_append,List.cons_append,Nat.reduceAdd,Nat.zero_add,List.append_nil,List.map_cons,List.map_nil];rfl)|rfl)))|((with_reducible refine' Sv.at 2 ?h1 ?h2 ?h3 ?h4 ?h5 ?_);(case h1=>exact rfl);(case h2=>exact rfl);(case h3=>exact rfl);(case h4=>exact rfl);(case h5=>exact (by first|(simp only [List.set_cons_succ,List.set_cons_zero,spl,ag4,mkD,List.take_succ_cons,List.take_zero,List.drop_succ_cons,List.drop_zero,List.length_cons,List.length_nil,List.nil_append,List.cons_append,Nat.reduceAdd,Nat.zero_add,List.append_nil,List.map_cons,List.map_nil];rfl)|rfl)))|((with_reducible refine' Ot.yd ?hyd ?_);(case hyd=>first|(refine' yd_sidx aa0 rfl rfl rfl rfl rfl ?hc ?h0;(case hc=>assumption);(case h0=>omega))|(refine yd_slto aa0 rfl rfl rfl rfl rfl ?_;first|omega|(simp only [List.length_map,List.length_take,List.length_append,List.length_cons,List.length_nil,List.length_replicate,Nat.reduceAdd];omega))|(refine aU7 aa0 rfl rfl rfl rfl rfl ?_;omega)|exact yd_bne rfl rfl rfl Tryz.underlying4|exact yd_min rfl rfl rfl|exact yd_max rfl rfl rfl))|((with_reducible refine' Rs.tc aa0 (m:=0) ?h ?hi ?hj ?hb ?ht ?hag ?hs ?_);(case h=>exact rfl);(case hi=>exact rfl);(case hj=>exact rfl);(case hb=>exact rfl);(case ht=>exact rfl);(case hag=>exact rfl);(case hs=>exact rfl))|((with_reducible refine' Rs.ct aa0 (m:=0) ?h ?hi ?hj ?hb ?ht ?hag ?hs ?_);(case h=>exact rfl);(case hi=>exact rfl);(case hj=>exact rfl);(case hb=>exact rfl);(case ht=>exact rfl);(case hag=>exact rfl);(case hs=>exact rfl))|((with_reducible refine' Rs.c aa0 (m:=0) ?h ?hj ?hb ?ht ?hag ?hs ?_);(case h=>exact rfl);(case hj=>exact rfl);(case hb=>exact rfl);(case ht=>exact rfl);(case hag=>exact rfl);(case hs=>exact rfl))|((with_reducible refine Br.dt ?h ?_);(case h=>omega))|((with_reducible refine Br.df ?h ?_);(case h=>omega))|((with_reducible refine Br.t ?h ?_);(case h=>assumption))|((with_reducible refine Br.f ?h ?_);(case h=>assumption))|((with_reducible refine Br.t ?h ?_);(case h=>(refine decide_eq_true ?_;omega)))|((with_reducible refine Br.f ?h ?_);(case h=>(refine decide_eq_false ?_;omega))));exact hk7q.run):A:=h ⟨k⟩
theorem sk28 {A B:Prop} (k:B) (h:Hd7 B→A:=by intro hk7q;(first|refine sb27 ?_|refine sb1 ?_|((with_reducible refine' Cp.by ?hc ?_);(case hc=>first|exact aD1 _|exact HLN|(refine aX5 _ _ ?hs ?hn;(case hn=>first|assumption|omega|(simp only [List.length_map,List.length_take,List.length_append,List.length_cons,List.length_nil,List.length_replicate,Nat.reduceAdd];omega));(case hs=>(refine' szLe ?a ?c;(case a=>repeat' (first|((show (_:Nat)≤_);assumption)|exact sz1 _|exact sz0|(refine' bb5 ?_ (by assumption))|refine' szN ?_|refine' szA ?_ ?_));(case c=>first|decide|omega))))))|((with_reducible refine' CE.pure ?hc ?_);(case hc=>first|exact aD1 _|exact HLN|(refine aX5 _ _ ?hs ?hn;(case hn=>first|assumption|omega|(simp only [List.length_map,List.length_take,List.length_append,List.length_cons,List.length_nil,List.length_replicate,Nat.reduceAdd];omega));(case hs=>(refine' szLe ?a ?c;(case a=>repeat' (first|((show (_:Nat)≤_);assumption)|exact sz1 _|exact sz0|(refine' bb5 ?_ (by assumption))|refine' szN ?_|refine' szA ?_ ?_));(case c=>first|decide|omega)))))));exact hk7q.run):A:=h ⟨k⟩
end
section
open Go
structure Good (x:Sch):Prop where
 ver:-9223372036854775807≤x.version∧x.version≤9223372036854775807
 fsane:∀ k∈x.kinds,∀ f∈k.fields,SaneF f∧(-9223372036854775807≤f.kind∧f.kind≤9223372036854775807)
 ksane:∀ k∈x.kinds,(-9223372036854775807≤k.lo∧k.lo≤9223372036854775807)∧(-9223372036854775807≤k.hi∧k.hi≤9223372036854775807)
 msane:∀ l∈x.lives,∀ m∈l.moves,(-9223372036854775807≤m.1∧m.1≤9223372036854775807)∧(-9223372036854775807≤m.2∧m.2≤9223372036854775807)
 rsane:∀ r∈x.rules,-9223372036854775807≤r.n∧r.n≤9223372036854775807
 sm:SmSch x
 src:al3 x=true→srcB x≤8192
end
end Go.Proofs.YtjbbmjjildhfbaaGreatDoor
