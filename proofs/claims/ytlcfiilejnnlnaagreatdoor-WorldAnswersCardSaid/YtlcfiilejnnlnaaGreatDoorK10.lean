/- A part of the proof: Hd Ub Hk He. -/
import Derived.Test.YtlcfiilejnnlnaaGreatDoorK09
set_option maxRecDepth 100000
set_option maxHeartbeats 20000000
set_option linter.all false
namespace Go.Proofs.YtlcfiilejnnlnaaGreatDoor
open Tryz
section
open Go
abbrev aP3:ByteArray:=⟨#[111,114,100,101,114]⟩
abbrev be4:ByteArray:=⟨#[109,111,115,116]⟩
abbrev aJ3:ByteArray:=⟨#[108,101,97,115,116]⟩
inductive RuleF (k:Knd):Rul->Prop
 | low (n:Int) (h:0<=ao6 k.fields nLow) (hn:0<=n/\n<8):RuleF k ⟨aP3++k.name.extract 0 1,k.name,nLow,nHigh,n-2⟩
 | most (f:Fld) (n:Int) (h:0<=ao6 k.fields nSize) (hf:k.fields[(ao6 k.fields nSize).toNat]?=some f) (hn:0<=n/\n<12):RuleF k ⟨be4++k.name.extract 0 1,k.name,nSize,nE,f.lo+n⟩
 | least (f:Fld) (n:Int) (h:0<=ao6 k.fields nSize) (hf:k.fields[(ao6 k.fields nSize).toNat]?=some f) (hn:0<=n/\n<12):RuleF k ⟨aJ3++k.name.extract 0 1,k.name,nE,nSize,n-f.hi⟩
theorem sk74 {A B:Prop} (k:B) (h:Hd7 B->A:=by intro q7;(first|refine sb0 ?_|refine sb67 ?_|(refine' cp7x ?hc ?_;(case hc=>exact aO7 _ _ hfl)));exact q7.1):A:=h ⟨k⟩
theorem bM5 (xs:List Int) (hx:I64s xs) (bm:Nat) (pos:Int) (hp:0<=pos/\pos<=100000000) (k:Knd) (hfl:k.fields.length<=1000000) (hnm:1<=k.name.size/\k.name.size<=12) (hsm:∀ f∈k.fields,(-100000<=f.lo/\f.lo<=100000)/\(-100000<=f.hi/\f.hi<=100000)) :
  ACall prog 34 [ptr bm,kndD k] [mkB bm xs pos] (fun d σ=>∃ pos' r ok,(pos<=pos'/\pos'<=pos+20)/\d = .tup [rulD r,bD ok]/\σ=[mkB bm xs pos']/\(ok=true->RuleF k r)):=by
 have hex:(k.name.extract 0 (1:Int).toNat).size=1:=by
  rw [show (1:Int).toNat=1 from rfl,ByteArray.size_extract];omega
 refine eC7 func34 ntmps34 fun BB=>?_
 repeat' first|refine sk74 ?_|intro b;conv=>whnf
 generalize b=b4;have fin:∀ (pos':Int) (r:Rul) (ok:Bool) (ρ:aa1),[mkB bm xs pos'].Sublist ρ->(pos<=pos'/\pos'<=pos+20)->(ok=true->RuleF k r)->Rt (fun d σ=>∃ pos' r ok,(pos<=pos'/\pos'<=pos+20)/\d = .tup [rulD r,bD ok]/\σ=[mkB bm xs pos']/\(ok=true->RuleF k r)) (.tup [rulD r,bD ok]) ρ:=fun pos' r ok ρ h0 h1 h2=>Rt.by (Vs.drop h0) ⟨_,_,_,h1,rfl,rfl,h2⟩
 by_cases hl:0<=ao6 k.fields nLow
 ·have ha:=ac8 xs pos 3;have ha':=ha.2 (by omega)
  repeat' first|refine sk74 ?_|intro b;conv=>whnf
  ((refine pA6 (aa7 xs hx bm _ _ ⟨by omega,by omega⟩) (show List.Perm (_::mkB bm xs _::_) ([mkB bm xs _]++(_::_)) from List.Perm.swap _ _ _) (fun s'=>s'++(_::_)) (fun s'=>zH _) ?_);(rintro _ _ ⟨rfl,rfl⟩))
  by_cases hpos:0<atE xs pos 3
  ·have hb:=ac8 xs (pos+1) 8;have hb':=hb.2 (by omega)
   repeat' first|refine sk74 ?_|intro b;conv=>whnf
   refine dr7 ?_;refine aE7 mixed aa0 rfl [0,1,2,3,4,5,6] 5 (.one 7 (.one 8 (.one 9 (.one 10 (.one 11 .done))))) (γ:=Unit) (fun _=>[(5,bD true),(29,iD (atE xs (pos+1) 8)),(30,iD (atE xs (pos+1) 8-2)),(31,rulD ⟨aP3++k.name.extract 0 1,k.name,nLow,nHigh,atE xs (pos+1) 8-2⟩)]) (fun _=>[mkB bm xs (pos+1+1),(b4,.cells 92 (rulC ⟨aP3++k.name.extract 0 1,k.name,nLow,nHigh,atE xs (pos+1) 8-2⟩))]) (fun _=>True) (by decide +kernel) ?_ ?_
   ·repeat' first|refine sk74 ?_|intro b;conv=>whnf|((with_reducible refine Sd.go ?qs8 ?_);(case qs8=>(rw [hex];decide)))|(refine And.intro ?_ ?_<;>(conv=>whnf))|((refine pA6 (aa7 xs hx bm _ _ ⟨by omega,by omega⟩) (zH ([mkB bm xs _]++_)) (fun s'=>s'++_) (fun s'=>zH _) ?_);(rintro _ _ ⟨rfl,rfl⟩))|((refine pA6 (aa7 xs hx bm _ _ ⟨by omega,by omega⟩) (show List.Perm (_::mkB bm xs _::_) ([mkB bm xs _]++(_::_)) from List.Perm.swap _ _ _) (fun s'=>s'++(_::_)) (fun s'=>zH _) ?_);(rintro _ _ ⟨rfl,rfl⟩))
    all_goals exact⟨(),(aa2 cl2),rfl,trivial⟩
   ·rintro - -
    repeat' first|refine sk74 ?_|intro b;conv=>whnf
    refine Rs.ct aa0 (m:=1) rfl rfl rfl rfl rfl rfl rfl ?_
    repeat' first|refine sk74 ?_|intro b;conv=>whnf
    exact fin _ ⟨aP3++k.name.extract 0 1,k.name,nLow,nHigh,atE xs (pos+1) 8-2⟩ true _ (.cons_cons _ (yV _)) ⟨by omega,by omega⟩ (fun _=>RuleF.low _ hl ⟨by omega,by omega⟩)
  ·generalize hq:pos+1=q;have hqb:pos<=q/\q<=pos+1:=⟨by omega,by omega⟩
   clear hq;by_cases hs:ao6 k.fields nSize<0
   ·repeat' first|refine sk74 ?_|intro b;conv=>whnf
    first
     | refine Rs.ct aa0 (m:=1) rfl rfl rfl rfl rfl rfl rfl ?_
     | refine Rs.ct aa0 (m:=0) rfl rfl rfl rfl rfl rfl rfl ?_
    repeat' first|refine sk74 ?_|intro b;conv=>whnf
    refine fin q ⟨nE,nE,nE,nE,0⟩ false _ ?_ ⟨by omega,by omega⟩ (fun h=>by cases h)
    first
     | exact .cons_cons _ (yV _)
     | exact .cons _ (.cons_cons _ (yV _))
   ·have hlt:ao6 k.fields nSize<k.fields.length:=ay3 _ _;have h0l:0<=ao6 k.fields ⟨#[115,105,122,101]⟩:=Int.not_lt.1 hs;obtain⟨f,hf⟩:∃ f,k.fields[(ao6 k.fields nSize).toNat]?=some f:=⟨_,zD (by omega)⟩
    obtain⟨⟨hf1,hf2⟩,hf3,hf4⟩:=hsm f (zG hf);have hc:=ac8 xs q 2;have hd:=ac8 xs (q+1) 12;have hd':=hd.2 (by omega)
    repeat' first|refine sk74 ?_|intro b;conv=>whnf
    refine pA6 (t:=[(b,.cells 97 (fldC f)),(b4,.cells 92 [.v (zv ZV.str),.v (zv ZV.str),.v (zv ZV.str),.v (zv ZV.str),.v (zv (ZV.int IntKind.i64))])]) (aa7 xs hx bm q 2 ⟨by omega,by omega⟩) ?hpm (fun s'=>s'++[(b,.cells 97 (fldC f)),(b4,.cells 92 [.v (zv ZV.str),.v (zv ZV.str),.v (zv ZV.str),.v (zv ZV.str),.v (zv (ZV.int IntKind.i64))])]) (fun s'=>zH _) ?_
    case hpm=>
     first
      | exact List.Perm.swap _ _ _
      | exact (List.Perm.cons _ (List.Perm.swap _ _ _)).trans (List.Perm.swap _ _ _)
    rintro _ _ ⟨rfl,rfl⟩;by_cases hz:atE xs q 2=0
    ·repeat' first|refine sk74 ?_|intro b;conv=>whnf
     refine dr7 ?_;refine aE7 mixed aa0 rfl [0,1,2,3,4,5,6,8] 6 (.two 7 (.one 9 (.one 10 (.one 11 (.one 12 (.one 13 .done))))) 9 (.one 7 (.one 10 (.one 11 (.one 12 (.one 13 .done)))))) (γ:=Unit) (fun _=>[(5,bD true),(50,iD f.lo),(52,iD (atE xs (q+1) 12)),(53,iD (f.lo+atE xs (q+1) 12)),(54,rulD ⟨be4++k.name.extract 0 1,k.name,nSize,nE,f.lo+atE xs (q+1) 12⟩)]) (fun _=>[mkB bm xs (q+1+1),(b,.cells 97 (fldC f)),(b4,.cells 92 (rulC ⟨be4++k.name.extract 0 1,k.name,nSize,nE,f.lo+atE xs (q+1) 12⟩))]) (fun _=>True) (by decide +kernel) ?_ ?_
     ·repeat' first|refine sk74 ?_|intro b;conv=>whnf|((with_reducible refine Sd.go ?qs8 ?_);(case qs8=>(rw [hex];decide)))|(refine And.intro ?_ ?_<;>(conv=>whnf))|((refine pA6 (aa7 xs hx bm _ _ ⟨by omega,by omega⟩) (zH ([mkB bm xs _]++_)) (fun s'=>s'++_) (fun s'=>zH _) ?_);(rintro _ _ ⟨rfl,rfl⟩))|((refine pA6 (aa7 xs hx bm _ _ ⟨by omega,by omega⟩) (show List.Perm (_::mkB bm xs _::_) ([mkB bm xs _]++(_::_)) from List.Perm.swap _ _ _) (fun s'=>s'++(_::_)) (fun s'=>zH _) ?_);(rintro _ _ ⟨rfl,rfl⟩))
      all_goals exact⟨(),(aa2 cl2),rfl,trivial⟩
     ·rintro - -
      repeat' first|refine sk74 ?_|intro b;conv=>whnf
      refine Rs.ct aa0 (m:=2) rfl rfl rfl rfl rfl rfl rfl ?_
      repeat' first|refine sk74 ?_|intro b;conv=>whnf
      exact fin _ ⟨be4++k.name.extract 0 1,k.name,nSize,nE,f.lo+atE xs (q+1) 12⟩ true _ (.cons_cons _ (yV _)) ⟨by omega,by omega⟩ (fun _=>RuleF.most f _ (by omega) hf ⟨by omega,by omega⟩)
    ·repeat' first|refine sk74 ?_|intro b;conv=>whnf
     refine dr7 ?_;refine aE7 mixed aa0 rfl [0,1,2,3,4,5,6,8] 6 (.two 7 (.one 9 (.one 10 (.one 11 (.one 12 (.one 13 .done))))) 9 (.one 7 (.one 10 (.one 11 (.one 12 (.one 13 .done)))))) (γ:=Unit) (fun _=>[(5,bD true),(64,iD f.hi),(62,iD (atE xs (q+1) 12)),(65,iD (atE xs (q+1) 12-f.hi)),(66,rulD ⟨aJ3++k.name.extract 0 1,k.name,nE,nSize,atE xs (q+1) 12-f.hi⟩)]) (fun _=>[mkB bm xs (q+1+1),(b,.cells 97 (fldC f)),(b4,.cells 92 (rulC ⟨aJ3++k.name.extract 0 1,k.name,nE,nSize,atE xs (q+1) 12-f.hi⟩))]) (fun _=>True) (by decide +kernel) ?_ ?_
     ·repeat' first|refine sk74 ?_|intro b;conv=>whnf|((with_reducible refine Sd.go ?qs8 ?_);(case qs8=>(rw [hex];decide)))|(refine And.intro ?_ ?_<;>(conv=>whnf))|((refine pA6 (aa7 xs hx bm _ _ ⟨by omega,by omega⟩) (zH ([mkB bm xs _]++_)) (fun s'=>s'++_) (fun s'=>zH _) ?_);(rintro _ _ ⟨rfl,rfl⟩))|((refine pA6 (aa7 xs hx bm _ _ ⟨by omega,by omega⟩) (show List.Perm (_::mkB bm xs _::_) ([mkB bm xs _]++(_::_)) from List.Perm.swap _ _ _) (fun s'=>s'++(_::_)) (fun s'=>zH _) ?_);(rintro _ _ ⟨rfl,rfl⟩))
      all_goals exact⟨(),(aa2 cl2),rfl,trivial⟩
     ·rintro - -
      repeat' first|refine sk74 ?_|intro b;conv=>whnf
      refine Rs.ct aa0 (m:=2) rfl rfl rfl rfl rfl rfl rfl ?_
      repeat' first|refine sk74 ?_|intro b;conv=>whnf
      exact fin _ ⟨aJ3++k.name.extract 0 1,k.name,nE,nSize,atE xs (q+1) 12-f.hi⟩ true _ (.cons_cons _ (yV _)) ⟨by omega,by omega⟩ (fun _=>RuleF.least f _ (by omega) hf ⟨by omega,by omega⟩)
 ·skip
  by_cases hs:ao6 k.fields nSize<0
  ·repeat' first|refine sk74 ?_|intro b;conv=>whnf
   first
    | refine Rs.ct aa0 (m:=1) rfl rfl rfl rfl rfl rfl rfl ?_
    | refine Rs.ct aa0 (m:=0) rfl rfl rfl rfl rfl rfl rfl ?_
   repeat' first|refine sk74 ?_|intro b;conv=>whnf
   refine fin pos ⟨nE,nE,nE,nE,0⟩ false _ ?_ ⟨by omega,by omega⟩ (fun h=>by cases h)
   first
    | exact .cons_cons _ (yV _)
    | exact .cons _ (.cons_cons _ (yV _))
  ·have hlt:ao6 k.fields nSize<k.fields.length:=ay3 _ _;have h0l:0<=ao6 k.fields ⟨#[115,105,122,101]⟩:=Int.not_lt.1 hs;obtain⟨f,hf⟩:∃ f,k.fields[(ao6 k.fields nSize).toNat]?=some f:=⟨_,zD (by omega)⟩
   obtain⟨⟨hf1,hf2⟩,hf3,hf4⟩:=hsm f (zG hf);have hc:=ac8 xs pos 2;have hd:=ac8 xs (pos+1) 12;have hd':=hd.2 (by omega)
   repeat' first|refine sk74 ?_|intro b;conv=>whnf
   refine pA6 (t:=[(b,.cells 97 (fldC f)),(b4,.cells 92 [.v (zv ZV.str),.v (zv ZV.str),.v (zv ZV.str),.v (zv ZV.str),.v (zv (ZV.int IntKind.i64))])]) (aa7 xs hx bm pos 2 ⟨by omega,by omega⟩) ?hpm (fun s'=>s'++[(b,.cells 97 (fldC f)),(b4,.cells 92 [.v (zv ZV.str),.v (zv ZV.str),.v (zv ZV.str),.v (zv ZV.str),.v (zv (ZV.int IntKind.i64))])]) (fun s'=>zH _) ?_
   case hpm=>
    first
     | exact List.Perm.swap _ _ _
     | exact (List.Perm.cons _ (List.Perm.swap _ _ _)).trans (List.Perm.swap _ _ _)
   rintro _ _ ⟨rfl,rfl⟩;by_cases hz:atE xs pos 2=0
   ·repeat' first|refine sk74 ?_|intro b;conv=>whnf
    refine dr7 ?_;refine aE7 mixed aa0 rfl [0,1,2,3,4,5,6,8] 6 (.two 7 (.one 9 (.one 10 (.one 11 (.one 12 (.one 13 .done))))) 9 (.one 7 (.one 10 (.one 11 (.one 12 (.one 13 .done)))))) (γ:=Unit) (fun _=>[(5,bD true),(50,iD f.lo),(52,iD (atE xs (pos+1) 12)),(53,iD (f.lo+atE xs (pos+1) 12)),(54,rulD ⟨be4++k.name.extract 0 1,k.name,nSize,nE,f.lo+atE xs (pos+1) 12⟩)]) (fun _=>[mkB bm xs (pos+1+1),(b,.cells 97 (fldC f)),(b4,.cells 92 (rulC ⟨be4++k.name.extract 0 1,k.name,nSize,nE,f.lo+atE xs (pos+1) 12⟩))]) (fun _=>True) (by decide +kernel) ?_ ?_
    ·repeat' first|refine sk74 ?_|intro b;conv=>whnf|((with_reducible refine Sd.go ?qs8 ?_);(case qs8=>(rw [hex];decide)))|(refine And.intro ?_ ?_<;>(conv=>whnf))|((refine pA6 (aa7 xs hx bm _ _ ⟨by omega,by omega⟩) (zH ([mkB bm xs _]++_)) (fun s'=>s'++_) (fun s'=>zH _) ?_);(rintro _ _ ⟨rfl,rfl⟩))|((refine pA6 (aa7 xs hx bm _ _ ⟨by omega,by omega⟩) (show List.Perm (_::mkB bm xs _::_) ([mkB bm xs _]++(_::_)) from List.Perm.swap _ _ _) (fun s'=>s'++(_::_)) (fun s'=>zH _) ?_);(rintro _ _ ⟨rfl,rfl⟩))
     all_goals exact⟨(),(aa2 cl2),rfl,trivial⟩
    ·rintro - -
     repeat' first|refine sk74 ?_|intro b;conv=>whnf
     refine Rs.ct aa0 (m:=2) rfl rfl rfl rfl rfl rfl rfl ?_
     repeat' first|refine sk74 ?_|intro b;conv=>whnf
     exact fin _ ⟨be4++k.name.extract 0 1,k.name,nSize,nE,f.lo+atE xs (pos+1) 12⟩ true _ (.cons_cons _ (yV _)) ⟨by omega,by omega⟩ (fun _=>RuleF.most f _ (by omega) hf ⟨by omega,by omega⟩)
   ·repeat' first|refine sk74 ?_|intro b;conv=>whnf
    refine dr7 ?_;refine aE7 mixed aa0 rfl [0,1,2,3,4,5,6,8] 6 (.two 7 (.one 9 (.one 10 (.one 11 (.one 12 (.one 13 .done))))) 9 (.one 7 (.one 10 (.one 11 (.one 12 (.one 13 .done)))))) (γ:=Unit) (fun _=>[(5,bD true),(64,iD f.hi),(62,iD (atE xs (pos+1) 12)),(65,iD (atE xs (pos+1) 12-f.hi)),(66,rulD ⟨aJ3++k.name.extract 0 1,k.name,nE,nSize,atE xs (pos+1) 12-f.hi⟩)]) (fun _=>[mkB bm xs (pos+1+1),(b,.cells 97 (fldC f)),(b4,.cells 92 (rulC ⟨aJ3++k.name.extract 0 1,k.name,nE,nSize,atE xs (pos+1) 12-f.hi⟩))]) (fun _=>True) (by decide +kernel) ?_ ?_
    ·repeat' first|refine sk74 ?_|intro b;conv=>whnf|((with_reducible refine Sd.go ?qs8 ?_);(case qs8=>(rw [hex];decide)))|(refine And.intro ?_ ?_<;>(conv=>whnf))|((refine pA6 (aa7 xs hx bm _ _ ⟨by omega,by omega⟩) (zH ([mkB bm xs _]++_)) (fun s'=>s'++_) (fun s'=>zH _) ?_);(rintro _ _ ⟨rfl,rfl⟩))|((refine pA6 (aa7 xs hx bm _ _ ⟨by omega,by omega⟩) (show List.Perm (_::mkB bm xs _::_) ([mkB bm xs _]++(_::_)) from List.Perm.swap _ _ _) (fun s'=>s'++(_::_)) (fun s'=>zH _) ?_);(rintro _ _ ⟨rfl,rfl⟩))
     all_goals exact⟨(),(aa2 cl2),rfl,trivial⟩
    ·rintro - -
     repeat' first|refine sk74 ?_|intro b;conv=>whnf
     refine Rs.ct aa0 (m:=2) rfl rfl rfl rfl rfl rfl rfl ?_
     repeat' first|refine sk74 ?_|intro b;conv=>whnf
     exact fin _ ⟨aJ3++k.name.extract 0 1,k.name,nE,nSize,atE xs (pos+1) 12-f.hi⟩ true _ (.cons_cons _ (yV _)) ⟨by omega,by omega⟩ (fun _=>RuleF.least f _ (by omega) hf ⟨by omega,by omega⟩)
end
section
open Go
structure SchB (x:Sch):Prop where
 nk:x.kz.length<=1000
 nf:∀ k∈x.kz,k.fields.length<=1000
 ne:∀ k∈x.kz,1<=k.fields.length
abbrev RT:ORep (List ByteArray):=fun l v s=>RowIs 9 1 (l.map fun a=>[sD a]) v s
theorem bO0 {x:Sch} {k:Nat} {s:ByteArray} (h:¬ ak2 x k s<0):ak2 x k s<k:=aL3 (Int.not_lt.1 h)
theorem sk75 {A B:Prop} (k:B) (h:Hd7 B->A:=by intro q7;(first|refine sb0 ?_|refine sb67 ?_|(refine' cp7x ?hc ?_;(case hc=>exact HN)));exact q7.1):A:=h ⟨k⟩
theorem aD8 (x:Sch) (hx:SchB x) (xs:List Int) (hxs:I64s xs) (bt:Nat) (k:Nat) (hk:k<x.kz.length) (pos:Int) (hp:0<=pos/\pos<=100000000):ACall prog 56 [ptr bt,schD x,iD k] [tkB bt xs pos] (fun d σ=>∃ p pos',(pos<=pos'/\pos'<=pos+6)/\p.length<=4/\d=slS p/\σ=[tkB bt xs pos']):=by
 have hnk:=hx.nk;refine eC7 func56 ntmps56 fun BB=>?_
 repeat' first|refine sk75 ?_|intro b;conv=>whnf|refine IxM.mk fun y hy=>?_
 refine aa5 mixed aa0 (γ:=Nat × Int × Nat × List ByteArray × Value × aa1) (fun g=>[(8,iD g.1),(2,iD g.2.2.1),(7,.v g.2.2.2.2.1)]) (fun g=>tkB bt xs g.2.1::g.2.2.2.2.2) (fun g=>g.1<=3/\(pos<=g.2.1/\g.2.1<=pos+2*g.1)/\g.2.2.1<x.kz.length/\g.2.2.2.1.length=g.1/\RT g.2.2.2.1 g.2.2.2.2.1 g.2.2.2.2.2) (fun g=>3-g.1) (0,pos,k,[],.slice none 0 0,[]) (aa2 cl4) (Sc.refl _) ⟨by omega,⟨by simp only;omega,by simp only;omega⟩,hk,rfl,RowIs.nil _ _⟩ ?_;clear hk;rintro⟨i,ps,k,names,v,s⟩ ⟨hi,hps,hk,hnl,hrow⟩;simp only at hi hps hk hnl hrow ⊢;obtain⟨kd,hkd⟩:∃ kd,x.kz[k]?=some kd:=⟨_,zD hk⟩
 have hkd':x.kz[((k:Nat):Int).toNat]?=some kd:=hkd;have hfl:=hx.nf kd (zG hkd);have hfe:=hx.ne kd (zG hkd);by_cases hil:i<3
 ·have hml:(kd.fields.map fldC).length=kd.fields.length:=zL ..;have hq:=ac8 xs ps (kd.fields.map fldC).length;have hq2:=hq.2 (by omega);obtain⟨f,hf⟩:∃ f,kd.fields[(atE xs ps (kd.fields.map fldC).length).toNat]?=some f:=⟨_,zD (by omega)⟩
  have hfq:=cp7 (f:=fldC) hf;have HN:=aY3 x k f.name hk (by omega) (fun k hk=>by have:=hx.nf k hk;omega)
  repeat' first|refine sk75 ?_|intro b;conv=>whnf|refine IxM.mk fun y hy=>?_
  refine dr7 ?_;refine ak3 mixed aa0 rfl [0,1,2,3,4,5,6,7,8,9,10,11,12,13] 5 (inE [14,17,18]) (.two 14 (.fst 15 (.fst 16 (.one 17 (.one 18 .done)))) 17 (.one 14 (.fst 15 (.fst 16 (.one 18 .done))))) (γ:=Nat) (fun b=>[(9,.v (.pointer (some ⟨b,0,none⟩)))]) (fun b=>(b,.cells 97 (fldC f))::tkB bt xs (ps+1)::s) (fun _=>True) (by decide +kernel) ?_ ?_
  ·repeat' first|refine sk75 ?_|intro b;conv=>whnf|refine IxM.mk fun y hy=>?_|(refine And.intro ?_ ?_<;>(conv=>whnf))|(refine pA6 (am1 xs hxs bt _ _ ⟨by omega,by omega⟩) (zH ([tkB bt xs _]++_)) (fun s'=>s'++_) (fun s'=>zH _) ?_;(rintro _ _ ⟨rfl,rfl⟩))|(refine pA6 (am1 xs hxs bt _ _ ⟨by omega,by omega⟩) (show List.Perm (_::tkB bt xs _::_) ([tkB bt xs _]++(_::_)) from List.Perm.swap _ _ _) (fun s'=>s'++(_::_)) (fun s'=>zH _) ?_;(rintro _ _ ⟨rfl,rfl⟩))|(refine Ix.at hfq (by omega) ?_)
   all_goals exact⟨b,(aa2 cl2),(by first|exact Sc.refl _|exact Sc.perm (List.Perm.swap _ _ _)),trivial⟩
  ·rintro b -
   repeat' first|refine sk75 ?_|intro b;conv=>whnf|refine IxM.mk fun y hy=>?_
   refine Ap.go rfl rfl rfl rfl hrow (τ:=[(b,.cells 97 (fldC f)),tkB bt xs (ps+1)]) cl7 rfl (zs:=(names++[f.name]).map fun a=>[sD a]) (by simp) (by simp;omega) (by simp;omega) (fun s'=>(b,.cells 97 (fldC f))::tkB bt xs (ps+1)::s') (fun s'=>cl8) (fun a2 c2 s2 hr2=>?_);have hnl2:(names++[f.name]).length=i+1:=by rw [zI,hnl];rfl
   by_cases h1:f.kind=1
   ·by_cases h2:ak2 x k f.name<0
    ·repeat' first|refine sk75 ?_|intro b;conv=>whnf|refine IxM.mk fun y hy=>?_
     exact Rt.by ((Vs.row hr2 (τ:=[(b,.cells 97 (fldC f)),tkB bt xs (ps+1)]) cl7).trans (Vs.drop (yG _ _))) ⟨names++[f.name],_,⟨by omega,by omega⟩,by omega,rfl,rfl⟩
    ·have hlt:=bO0 h2;obtain⟨n,hn⟩:∃ n:Nat,ak2 x k f.name=n:=⟨(ak2 x k f.name).toNat,by omega⟩
     rw [hn] at HN h2 hlt;have h5:=ac8 xs (ps+1) 5;have h5':=h5.2 (by omega)
     repeat' first|refine sk75 ?_|intro b;conv=>whnf|refine IxM.mk fun y hy=>?_
     (refine pA6 (am1 xs hxs bt _ _ ⟨by omega,by omega⟩) (show List.Perm (_::tkB bt xs _::_) ([tkB bt xs _]++(_::_)) from List.Perm.swap _ _ _) (fun s'=>s'++(_::_)) (fun s'=>zH _) ?_;(rintro _ _ ⟨rfl,rfl⟩))
     by_cases h3:atE xs (ps+1) 5=0
     ·repeat' first|refine sk75 ?_|intro b;conv=>whnf|refine IxM.mk fun y hy=>?_
      exact Rt.by ((Vs.row hr2 (τ:=[(b,.cells 97 (fldC f)),tkB bt xs (ps+1+1)]) cl7).trans (Vs.drop (yG _ _))) ⟨names++[f.name],_,⟨by omega,by omega⟩,by omega,rfl,rfl⟩
     ·repeat' first|refine sk75 ?_|intro b;conv=>whnf|refine IxM.mk fun y hy=>?_
      exact⟨(i+1,ps+1+1,n,names++[f.name],_,s2),(aa2 cl4),Sc.sl (.cons_cons _ (yG _ _)),⟨by simp only;omega,⟨by simp only;omega,by simp only;omega⟩,by simp only;omega,hnl2,hr2⟩,by simp only;omega⟩
   ·repeat' first|refine sk75 ?_|intro b;conv=>whnf|refine IxM.mk fun y hy=>?_
    exact Rt.by ((Vs.row hr2 (τ:=[(b,.cells 97 (fldC f)),tkB bt xs (ps+1)]) cl7).trans (Vs.drop (yG _ _))) ⟨names++[f.name],_,⟨by omega,by omega⟩,by omega,rfl,rfl⟩
 ·obtain rfl:i=3:=by omega
  repeat' first|refine sk75 ?_|intro b;conv=>whnf|refine IxM.mk fun y hy=>?_
  refine Ap.go rfl rfl rfl rfl hrow (τ:=[tkB bt xs ps]) cl7 rfl (zs:=(names++[y.name]).map fun a=>[sD a]) (by simp) (by simp;omega) (by simp;omega) (fun s'=>tkB bt xs ps::s') (fun s'=>cl8) (fun a2 c2 s2 hr2=>?_)
  repeat' first|refine sk75 ?_|intro b;conv=>whnf|refine IxM.mk fun y hy=>?_
  exact Rt.by (Vs.row hr2 (τ:=[tkB bt xs ps]) cl7) ⟨names++[y.name],_,⟨by omega,by omega⟩,by simp;omega,rfl,rfl⟩
end
section
open Go
abbrev nId:ByteArray:=⟨#[105,100]⟩
abbrev nOf:ByteArray:=⟨#[111,102]⟩
abbrev bw6:ByteArray:=⟨#[115,97,109,101]⟩
abbrev bw7:ByteArray:=⟨#[112,97,114,116]⟩
abbrev ar9:ByteArray:=⟨#[116,111,116,97,108]⟩
abbrev nBy:ByteArray:=⟨#[98,121]⟩
abbrev bE6:ByteArray:=⟨#[112,101,114,115,111,110]⟩
abbrev cp5:ByteArray:=⟨#[105,116,101,109]⟩
def knm (n:Nat):ByteArray:=[bE6,aP3,cp5].getD n nE
def idF (lo:Int):Fld:=⟨nId,nE,nE,0,lo,0,[],[]⟩
def ofF (k:Knd) (lo hi:Int):Fld:=⟨nOf,k.name,nE,1,lo,hi,[],[]⟩
def au9 (nm:ByteArray):Fld:=⟨bw6,nm,nOf,8,0,0,[],[]⟩
def am3 (a b:Int):Fld:=⟨bw7,ar9,nOf,7,a,a+b,[],[]⟩
def totF (nm:ByteArray):Fld:=⟨ar9,nm,nE,6,0,0,[],[]⟩
def byF (k:Knd):Fld:=⟨nBy,k.name,nE,1,0,8,[],[]⟩
inductive RefP (ks:List Knd) (nm:ByteArray):List Fld->List Knd->Prop
 | none (h:ks=[]):RefP ks nm [] ks
 | of (tw0:Nat) (y:Knd) (lo hi:Int) (sm:List Fld) (hy:ks[tw0]?=some y) (hl:lo=0\/lo=1) (hh:hi∈[4,3,8,2]) (hs:sm=[]\/∃ g,0<=as0 y/\y.fields[(as0 y).toNat]?=some g/\sm=[au9 g.name]):RefP ks nm (ofF y lo hi::sm) ks
 | part (tw0:Nat) (y:Knd) (lo hi a b:Int) (sm:List Fld) (hy:ks[tw0]?=some y) (hl:lo=0\/lo=1) (hh:hi∈[4,3,8,2]) (hs:sm=[]\/∃ g,0<=as0 y/\y.fields[(as0 y).toNat]?=some g/\sm=[au9 g.name])
   (ht:ao6 y.fields ar9<0) (ha:0<=a/\a<3) (hb:0<=b/\b<8):RefP ks nm (ofF y lo hi::(sm++[am3 a b])) (ks.set tw0 ⟨y.name,y.lo,y.hi,y.fields++[totF nm]⟩)
structure KMade (ks:List Knd) (k:Knd) (ks':List Knd):Prop where
 ex:∃ lo r idl f1 f2 p1 p2,lo∈[(0:Int),1,2,4,1,2]/\(0<=r/\r<5)/\idl∈[(0:Int),1,100,-3]/\k=⟨knm ks.length,lo,lo+r,idF idl::(f1++(f2++(p1++p2)))⟩/\RefP ks (knm ks.length) f1 ks' /\
  (f2=[]\/∃ y,ks[0]?=some y/\1<ks.length/\f2=[byF y])/\PlainF p1/\PlainF p2/\(p2=[]\/∃ g gs,p2=g::gs/\ao6 (idF idl::(f1++(f2++p1))) g.name<0)
end
section
open Go
theorem cp9 (l:List Int) {j:Int} (h:0<=j/\j<l.length):(l.map fun z=>[iD z])[j.toNat]?=some [iD (l.getD j.toNat 0)]:=by
 have hl:j.toNat<l.length:=by omega
 rw [zP,zD hl];simp [List.getD_eq_getElem?_getD,hl]
theorem aK3 (l:List ByteArray) {j:Int} (h:0<=j/\j<l.length) (e:ByteArray):(l.map fun z=>[sD z])[j.toNat]?=some [sD (l.getD j.toNat e)]:=by
 have hl:j.toNat<l.length:=by omega
 rw [zP,zD hl];simp [List.getD_eq_getElem?_getD,hl]
theorem ba2 (l:List Int) {j:Int} (h:0<=j/\j<l.length):∃ z∈l,(l.map fun z=>[iD z])[j.toNat]?=some [iD z]:=by
 have hl:j.toNat<l.length:=by omega
 exact⟨l[j.toNat],wE hl,by rw [zP,zD hl];rfl⟩
abbrev kdB (b:Nat) (nm:ByteArray) (lo hi:Int) (fv:Value):Nat × Blk:=(b,.cells 85 [sD nm,iD lo,iD hi,.v fv])
abbrev zK:List D:=[.v (zv ZV.str),.v (zv (ZV.int IntKind.i64)),.v (zv (ZV.int IntKind.i64)),.v (zv ZV.sl)]
structure KSt where
 pos:Int
 fv:Value
 rs:List (List D)
 sf:aa1
 ks:List Knd
 sk:aa1
abbrev kS (bm:Nat) (xs:List Int) (b7 b4:Nat) (nm:ByteArray) (lo hi:Int) (g:KSt):aa1:=mkB bm xs g.pos::kdB b7 nm lo hi g.fv::(b4,.cells 85 zK)::(g.sf++g.sk)
structure KI (a:Option Addr) (n c:Nat) (fs:List Fld) (g:KSt):Prop where
 row:RowIs 97 8 g.rs g.fv g.sf
 le:LeR g.rs (fs.map fldC)
 kr:RowIs 85 4 (g.ks.map kndC) (.slice a n c) g.sk
 kl:g.ks.length=n
theorem bw4 (l:List Fld):((l.map fldC).all fun y=>y.all oneD)=true:=by rw [yA];intro y hy;obtain⟨f,_,rfl⟩:=xM.1 hy;rfl
theorem pB0 {P:Program} {o:Oper} {ρ:Operand->D} {σ:aa1} {b off k:Nat} {K:D->Prop} {tb:TypeId} {cs x:List D} (h1:(b,Blk.cells tb cs)∈σ) (hx:x.length=k) (hk:0<k) (h2:∀ j,j<k->cs[off+j]?=x[j]?) (h:W (K (.agg x))):Ld P o ρ σ b off true k K:=by
 obtain⟨j,hj⟩:=yO h1;have hl:off+k<=cs.length:=by
  have:=h2 (k-1) (by omega);rw [zD (by omega:k-1<x.length)] at this;have:=(zE.1 this).1;omega
 refine⟨.inl ⟨j,tb,cs,hj,hl,?_⟩⟩;have:(cs.drop off).take k=x:=by
  apply xY;intro i;rw [yX];split
  ·rename_i hi;rw [xR];exact h2 i hi
  ·rename_i hi;rw [yY.2 (by omega)]
 rw [this];exact h.h
theorem RefP.name0 {ks ks':List Knd} {nm:ByteArray} {f1:List Fld} (h:RefP ks nm f1 ks') {y:Knd} (hy:ks'[0]?=some y):∃ z,ks[0]?=some z/\z.name=y.name:=by
 cases h with
 | none h=>subst h;simp at hy
 | of=>exact⟨y,hy,rfl⟩
 | part tw0 z lo hi a b sm hz=>
  rw [xP] at hy;split at hy
  ·rename_i e;subst e;split at hy
   ·cases hy;exact⟨z,hz,rfl⟩
   ·cases hy
  ·exact⟨y,hy,rfl⟩
theorem PlainF.two {fs:List Fld} (h:PlainF fs):fs.length<=2:=by cases h<;>simp
theorem sb76 {A B:Prop} (k:B) (h:Hd7 B->A:=by intro q7;(first|fail|(with_reducible refine Bx.l ?_)|fail|refine u9x ?_);exact q7.1):A:=h ⟨k⟩
theorem sk77 {A B:Prop} (k:B) (h:Hd7 B->A:=by intro q7;(first|refine sb0 ?_|refine sb76 ?_|(refine' cp7x ?hc ?_;(case hc=>fail)));exact q7.1):A:=h ⟨k⟩
theorem cl9 {p:Prop} (h:p:=by first|exact Sc.sl (.cons_cons _ (.cons_cons _ (.cons_cons _ (yG _ _))))|exact Sc.perm (zH _)|exact Sc.perm (List.Perm.swap _ _ _)|exact Sc.perm (List.Perm.cons _ (List.Perm.swap _ _ _))|exact Sc.perm ((List.Perm.swap _ _ _).trans (List.Perm.cons _ (List.Perm.swap _ _ _)))|exact Sc.perm ((List.Perm.cons _ (List.Perm.swap _ _ _)).trans (List.Perm.swap _ _ _))):p:=h
theorem cl10 {p:Prop} (h:p:=by (refine ac3 fun a=>?_;simp only [kdB,mkB,List.append_eq,List.nil_append,ac4,af0,ae9,sD,iD,bD];omega)):p:=h
theorem cl11 {p:Prop} (h:p:=by (refine ac3 fun a=>?_;simp only [kdB,mkB,List.append_eq,List.nil_append,ac4,af0,ae9,sD,iD,bD];omega)):p:=h
theorem cl12 {p:Prop} (h:p:=by rw [show 0+((tw0:Nat):Int).toNat*4+3=tw0*4+3 by simp];exact hc3):p:=h
theorem cl13 {p:Prop} (h:p:=by first|exact zH _|(refine ac3 fun a=>?_;simp only [kdB,mkB,List.append_eq,List.nil_append,ac4,af0,ae9,sD,iD,bD];omega)):p:=h
theorem cl14 {p:Prop} (h:p:=by first|omega|(simp only [zI,zL,List.length_cons,List.length_nil];omega)):p:=h
theorem cl15 {p:Prop} (h:p:=by rw [show 0+((tw0:Nat):Int).toNat*4+3=tw0*4+3 by simp];exact (zE.1 hc3).1):p:=h
theorem bM7 (xs:List Int) (hx:I64s xs) (bm:Nat) (pos:Int) (hp:0<=pos/\pos<=10000000) (ks:List Knd) (hks:ks.length<=2) (hfl:∀ k∈ks,k.fields.length<=1000) (a:Option Addr) (c:Nat) (sk:aa1) (hrow:RowIs 85 4 (ks.map kndC) (.slice a ks.length c) sk) :
  ACall prog 33 [ptr bm,.v (.slice a ks.length c)] (mkB bm xs pos::sk) (fun d σ=>∃ pos' k ks' sk',(pos<=pos'/\pos'<=pos+100)/\d=kndD k/\σ=mkB bm xs pos'::sk'/\RowIs 85 4 (ks'.map kndC) (.slice a ks.length c) sk'/\KMade ks k ks'):=by
 have h1:=ac8 xs pos 6;have h1':=h1.2 (by omega);have h2:=ac8 xs (pos+1) 5;have h2':=h2.2 (by omega);obtain⟨lo,hlo,hlx⟩:=ba2 [0,1,2,4,1,2] (j:=atE xs pos 6) ⟨by omega,by simp;omega⟩;have hlob:0<=lo/\lo<=4:=by simp at hlo;omega
 refine eC7 func33 ntmps33 fun BB=>?_
 repeat' first|refine sk77 ?_|intro b;conv=>whnf
 generalize b=b4
 ((refine pA6 (aa7 xs hx bm _ _ ⟨by omega,by omega⟩) (show List.Perm (_::mkB bm xs _::_) ([mkB bm xs _]++(_::_)) from List.Perm.swap _ _ _) (fun s'=>s'++(_::_)) (fun s'=>zH _) ?_);(rintro _ _ ⟨rfl,rfl⟩))
 repeat' first|refine sk77 ?_|intro b;conv=>whnf
 refine Ix.at hlx (by omega) ?_
 repeat' first|refine sk77 ?_|intro b;conv=>whnf
 refine Dr.r ?_
 (((with_reducible refine W.mk ?_);(conv=>whnf)))
 refine Dm.r ?_;refine W.mk ?_;refine bF1 mixed aa0 rfl [0,1,2,3,4,5,6] 5 (.two 7 (.two 8 (.two 9 (.one 10 (.one 11 .done)) 10 (.one 9 (.one 11 .done))) 10 (.one 8 (.one 9 (.one 11 .done)))) 10 (.one 7 (.one 8 (.one 9 (.one 11 .done))))) (γ:=Nat) (fun g=>[(7,.v (.pointer (some ⟨g,0,none⟩)))]) (fun g=>mkB bm xs (pos+1+1)::kdB g (knm ks.length) lo (lo+atE xs (pos+1) 5) (.slice none 0 0)::(b4,.cells 85 zK)::sk) (fun _=>True) (by decide +kernel) ?_ ?_
 ·repeat' first|refine sk77 ?_|intro b;conv=>whnf|(refine And.intro ?_ ?_<;>(conv=>whnf))|((refine pA6 (aa7 xs hx bm _ _ ⟨by omega,by omega⟩) (zH ([mkB bm xs _]++_)) (fun s'=>s'++_) (fun s'=>zH _) ?_);(rintro _ _ ⟨rfl,rfl⟩))|((refine pA6 (aa7 xs hx bm _ _ ⟨by omega,by omega⟩) (show List.Perm (_::mkB bm xs _::_) ([mkB bm xs _]++(_::_)) from List.Perm.swap _ _ _) (fun s'=>s'++(_::_)) (fun s'=>zH _) ?_);(rintro _ _ ⟨rfl,rfl⟩))|(refine Ix.at (aK3 [bE6,aP3,cp5] ⟨by omega,by simp;omega⟩ nE) (by omega) ?_)
  all_goals exact⟨b,(aa2 cl2),cl9,trivial⟩
 ·rintro b7 -;have h3:=ac8 xs (pos+1+1) 4;have h3':=h3.2 (by omega);obtain⟨idl,hid,hidx⟩:=ba2 [0,1,100,-3] (j:=atE xs (pos+1+1) 4) ⟨by omega,by simp;omega⟩
  repeat' first|refine sk77 ?_|intro b;conv=>whnf
  refine dr7 ?_;refine ak3 mixed aa0 rfl [0,2,3] 9 (inE [1,4,9,10,11]) (.two 1 (.one 4 (.fst 5 (.fst 6 (.fst 7 (.fst 8 (.one 9 (.one 10 (.one 11 .done)))))))) 4 (.fst 5 (.fst 6 (.fst 7 (.fst 8 (.one 1 (.one 9 (.one 10 (.one 11 .done))))))))) (γ:=Value × aa1) (fun _=>[]) (fun g=>mkB bm xs (pos+1+1+1)::kdB b7 (knm ks.length) lo (lo+atE xs (pos+1) 5) g.1::(b4,.cells 85 zK)::(g.2++sk)) (fun g=>RowIs 97 8 [fldR (idF idl) nilD nilD] g.1 g.2) (by decide +kernel) ?_ ?_
  ·repeat' first|refine sk77 ?_|intro b;conv=>whnf|(refine And.intro ?_ ?_<;>(conv=>whnf))|((refine pA6 (aa7 xs hx bm _ _ ⟨by omega,by omega⟩) (zH ([mkB bm xs _]++_)) (fun s'=>s'++_) (fun s'=>zH _) ?_);(rintro _ _ ⟨rfl,rfl⟩))|((refine pA6 (aa7 xs hx bm _ _ ⟨by omega,by omega⟩) (show List.Perm (_::mkB bm xs _::_) ([mkB bm xs _]++(_::_)) from List.Perm.swap _ _ _) (fun s'=>s'++(_::_)) (fun s'=>zH _) ?_);(rintro _ _ ⟨rfl,rfl⟩))|(refine Ix.at hidx (by omega) ?_)|(refine Ap.go rfl rfl rfl rfl (RowIs.nil 97 8) (zH ([]++_)) rfl (zs:=[fldR (idF idl) nilD nilD]) rfl (by simp) (by simp) (fun s'=>s'++_) (fun s'=>zH _) (fun a2 c2 s2 hr2=>?_))|(refine Sv.cellm (tb:=85) (cs:=[sD (knm ks.length),iD lo,iD (lo+atE xs (pos+1) 5),.v (.slice .none 0 0)]) (cs':=[sD (knm ks.length),iD lo,iD (lo+atE xs (pos+1) 5),.v (.slice a2 [fldR (idF idl) nilD nilD].length c2)]) (τ:=mkB bm xs (pos+1+1+1)::(b4,.cells 85 zK)::(s2++sk)) cl10 (by simp) rfl rfl ?_)
   all_goals exact⟨(_,s2),(aa2 cl2),cl9,hr2⟩
  ·rintro⟨fv,sf⟩ hfr;simp only at hfr ⊢
   repeat' first|refine sk77 ?_|intro b;conv=>whnf
   refine Bc.j ?_;refine av2 mixed aa0 (γ:=KSt × List Fld) (fun _=>[]) (fun g=>kS bm xs b7 b4 (knm ks.length) lo (lo+atE xs (pos+1) 5) g.1) (fun g=>(pos+3<=g.1.pos/\g.1.pos<=pos+30)/\KI a ks.length c (idF idl::g.2) g.1/\RefP ks (knm ks.length) g.2 g.1.ks/\g.2.length<=3) ?_ ?_
   ·(((with_reducible refine W.mk ?_);(conv=>whnf)))
    refine Bc.l ?_;by_cases hn0:0<ks.length
    ·have h4:=ac8 xs (pos+1+1+1) ks.length;have h4':=h4.2 (by omega)
     repeat' first|refine sk77 ?_|intro b;conv=>whnf
     ((refine pA6 (aa7 xs hx bm _ _ ⟨by omega,by omega⟩) (zH ([mkB bm xs _]++_)) (fun s'=>s'++_) (fun s'=>zH _) ?_);(rintro _ _ ⟨rfl,rfl⟩))
     repeat' first|refine sk77 ?_|intro b;conv=>whnf
     obtain⟨tw0,hto⟩:∃ tw0:Nat,atE xs (pos+1+1+1) ks.length=tw0:=⟨(atE xs (pos+1+1+1) ks.length).toNat,by omega⟩
     obtain⟨y,hy⟩:∃ y,ks[tw0]?=some y:=⟨_,zD (by omega)⟩
     obtain⟨b2,cap2,cs2,e2,rfl,hcs⟩:=RowIs.get hrow (show (ks.map kndC)[tw0]?=some (kndC y) by rw [zP,hy];rfl);rw [zL] at e2
     cases e2
     have hc0:cs2[tw0*4+0]?=some (sD y.name):=hcs 0 (by omega);have hc3:cs2[tw0*4+3]?=some (slF y.fields):=hcs 3 (by omega);have h5:=ac8 xs (pos+1+1+1+1) 4;have h5':=h5.2 (by omega);obtain⟨hi,hhi,hhix⟩:=ba2 [4,3,8,2] (j:=atE xs (pos+1+1+1+1) 4) ⟨by omega,by simp;omega⟩;refine dr7 ?_;refine ak3 mixed aa0 rfl [0,1,2,3,5,6] 7 (inE [4,7,11,12]) (.three 4 (.two 7 (.fst 8 (.fst 9 (.fst 10 (.one 11 (.one 12 .done))))) 11 (.one 7 (.fst 8 (.fst 9 (.fst 10 (.one 12 .done)))))) 7 (.fst 8 (.fst 9 (.two 4 (.fst 10 (.one 11 (.one 12 .done))) 11 (.one 4 (.fst 10 (.one 12 .done)))))) 11 (.two 4 (.one 7 (.fst 8 (.fst 9 (.fst 10 (.one 12 .done))))) 7 (.fst 8 (.fst 9 (.one 4 (.fst 10 (.one 12 .done))))))) (γ:=Nat) (fun g=>[(9,.v (.pointer (some ⟨g,0,none⟩)))]) (fun g=>mkB bm xs (pos+1+1+1+1+1)::(g,.cells 97 (fldR (ofF y 0 hi) nilD nilD))::kdB b7 (knm ks.length) lo (lo+atE xs (pos+1) 5) fv::(b4,.cells 85 zK)::(sf++[(b2,.cells 85 cs2)])) (fun _=>True) (by decide +kernel) ?_ ?_
     ·repeat' first|refine sk77 ?_|intro b;conv=>whnf|(refine And.intro ?_ ?_<;>(conv=>whnf))|((refine pA6 (aa7 xs hx bm _ _ ⟨by omega,by omega⟩) (zH ([mkB bm xs _]++_)) (fun s'=>s'++_) (fun s'=>zH _) ?_);(rintro _ _ ⟨rfl,rfl⟩))|((refine pA6 (aa7 xs hx bm _ _ ⟨by omega,by omega⟩) (show List.Perm (_::mkB bm xs _::_) ([mkB bm xs _]++(_::_)) from List.Perm.swap _ _ _) (fun s'=>s'++(_::_)) (fun s'=>zH _) ?_);(rintro _ _ ⟨rfl,rfl⟩))|(refine Ix.at hhix (by omega) ?_)|(refine Ld.cellm (tb:=85) (cs:=cs2) (by simp) (by rw [hto,show 0+((tw0:Nat):Int).toNat*4+0=tw0*4+0 by simp];exact hc0) ?_)
      all_goals exact⟨b,(aa2 cl2),cl9,trivial⟩
     ·rintro b9 -;rw [hto];have h6:=ac8 xs (pos+1+1+1+1+1) 5;have h6':=h6.2 (by omega)
      repeat' first|refine sk77 ?_|intro b;conv=>whnf
      ((refine pA6 (aa7 xs hx bm _ _ ⟨by omega,by omega⟩) (zH ([mkB bm xs _]++_)) (fun s'=>s'++_) (fun s'=>zH _) ?_);(rintro _ _ ⟨rfl,rfl⟩))
      repeat' first|refine sk77 ?_|intro b;conv=>whnf
      refine Bc.j ?_;refine av2 mixed aa0 (γ:=Int) (fun _=>[]) (fun g=>mkB bm xs (pos+6)::(b9,.cells 97 (fldR (ofF y g hi) nilD nilD))::kdB b7 (knm ks.length) lo (lo+atE xs (pos+1) 5) fv::(b4,.cells 85 zK)::(sf++[(b2,.cells 85 cs2)])) (fun g=>g=0\/g=1) ?_ ?_
      ·(((with_reducible refine W.mk ?_);(conv=>whnf)))
       refine Bc.l ?_;have e6:pos+1+1+1+1+1+1=pos+6:=by omega
       rw [e6];by_cases hz6:atE xs (pos+1+1+1+1+1) 5=0
       ·repeat' first|refine sk77 ?_|intro b;conv=>whnf
        exact⟨1,(aa2 cl2),cl9,.inr rfl⟩
       ·repeat' first|refine sk77 ?_|intro b;conv=>whnf
        exact⟨0,(aa2 cl2),cl9,.inl rfl⟩
      ·rintro l9 hl9
       repeat' first|refine sk77 ?_|intro b;conv=>whnf
       refine Ap.go rfl rfl rfl rfl hfr (τ:=mkB bm xs (pos+6)::(b9,.cells 97 (fldR (ofF y l9 hi) nilD nilD))::kdB b7 (knm ks.length) lo (lo+atE xs (pos+1) 5) fv::(b4,.cells 85 zK)::[(b2,.cells 85 cs2)]) cl10 rfl (zs:=[fldR (idF idl) nilD nilD,fldR (ofF y l9 hi) nilD nilD]) rfl (by simp) (by simp) (fun s'=>mkB bm xs (pos+6)::kdB b7 (knm ks.length) lo (lo+atE xs (pos+1) 5) fv::(b4,.cells 85 zK)::(b9,.cells 97 (fldR (ofF y l9 hi) nilD nilD))::(s'++[(b2,.cells 85 cs2)])) (fun s'=>cl11) (fun a3 c3 s3 hr3=>?_)
       repeat' first|refine sk77 ?_|intro b;conv=>whnf
       refine pB0 (tb:=85) (cs:=cs2) (x:=kndC y) (by simp) rfl (by decide) (fun j hj=>by rw [show 0+((tw0:Nat):Int).toNat*4+j=tw0*4+j by simp];exact hcs j hj) ?_;have hyl:=hfl y (zG hy);have HC:=bw2 y (by omega);have HT:=aO7 y.fields ar9 (by omega)
       repeat' first|refine sk77 ?_|intro b;conv=>whnf
       refine CE.pure HC ?_;have le2:LeR [fldR (idF idl) nilD nilD,fldR (ofF y l9 hi) nilD nilD] ([idF idl,ofF y l9 hi].map fldC):=.cons (.cons (Le.refl _) (.cons (Le.refl _) (.cons (Le.refl _) (.cons (Le.refl _) (.cons (Le.refl _) (.cons (Le.refl _) (.cons (ai5 1) (.cons (ai5 1) .nil)))))))) (.cons (.cons (Le.refl _) (.cons (Le.refl _) (.cons (Le.refl _) (.cons (Le.refl _) (.cons (Le.refl _) (.cons (Le.refl _) (.cons (ai5 1) (.cons (ai5 1) .nil)))))))) .nil);by_cases hcp:0<=as0 y
       ·have h7:=ac8 xs (pos+6) 2;have h7':=h7.2 (by omega);have hlt7:as0 y<y.fields.length:=ay3 _ _;obtain⟨hf7,hg7⟩:∃ h,y.fields[(as0 y).toNat]?=some h:=⟨_,zD (by omega)⟩
        repeat' first|refine sk77 ?_|intro b;conv=>whnf
        ((refine pA6 (aa7 xs hx bm _ _ ⟨by omega,by omega⟩) (zH ([mkB bm xs _]++_)) (fun s'=>s'++_) (fun s'=>zH _) ?_);(rintro _ _ ⟨rfl,rfl⟩))
        repeat' first|refine sk77 ?_|intro b;conv=>whnf
        refine Bc.j ?_;refine av2 mixed aa0 (γ:=Int × Value × List (List D) × aa1 × List Fld) (fun _=>[]) (fun g=>mkB bm xs g.1::kdB b7 (knm ks.length) lo (lo+atE xs (pos+1) 5) g.2.1::(b4,.cells 85 zK)::(g.2.2.2.1++[(b2,.cells 85 cs2)])) (fun g=>(pos+6<=g.1/\g.1<=pos+10)/\RowIs 97 8 g.2.2.1 g.2.1 g.2.2.2.1/\LeR g.2.2.1 ((idF idl::ofF y l9 hi::g.2.2.2.2).map fldC)/\(g.2.2.2.2=[]\/∃ h,0<=as0 y/\y.fields[(as0 y).toNat]?=some h/\g.2.2.2.2=[au9 h.name])) ?_ ?_
        ·(((with_reducible refine W.mk ?_);(conv=>whnf)))
         refine Bc.l ?_;by_cases hz7:atE xs (pos+6) 2=0
         ·repeat' first|refine sk77 ?_|intro b;conv=>whnf
          refine Dr.l (by decide +kernel) ?_
          repeat' first|refine sk77 ?_|intro b;conv=>whnf
          refine Ld.cellm (tb:=85) (cs:=cs2) (by simp) cl12 ?_
          repeat' first|refine sk77 ?_|intro b;conv=>whnf
          refine Ap.go rfl rfl rfl rfl hr3 (τ:=mkB bm xs (pos+6+1)::(b9,.cells 97 (fldR (ofF y l9 hi) nilD nilD))::kdB b7 (knm ks.length) lo (lo+atE xs (pos+1) 5) (.slice a3 2 c3)::(b4,.cells 85 zK)::[(b2,.cells 85 cs2)]) cl10 rfl (zs:=[fldR (idF idl) nilD nilD,fldR (ofF y l9 hi) nilD nilD,fldR (au9 hf7.name) nilD nilD]) rfl (by simp) (by simp) (fun s'=>mkB bm xs (pos+6+1)::kdB b7 (knm ks.length) lo (lo+atE xs (pos+1) 5) (.slice a3 2 c3)::(b4,.cells 85 zK)::(b9,.cells 97 (fldR (ofF y l9 hi) nilD nilD))::(s'++[(b2,.cells 85 cs2)])) (fun s'=>cl11) (fun a5 c5 s5 hr5=>?_)
          repeat' first|refine sk77 ?_|intro b;conv=>whnf
          exact⟨(pos+6+1,_,_,s5,[au9 hf7.name]),(aa2 cl2),cl9,⟨by simp only;omega,by simp only;omega⟩,hr5,.cons (.cons (Le.refl _) (.cons (Le.refl _) (.cons (Le.refl _) (.cons (Le.refl _) (.cons (Le.refl _) (.cons (Le.refl _) (.cons (ai5 1) (.cons (ai5 1) .nil)))))))) (.cons (.cons (Le.refl _) (.cons (Le.refl _) (.cons (Le.refl _) (.cons (Le.refl _) (.cons (Le.refl _) (.cons (Le.refl _) (.cons (ai5 1) (.cons (ai5 1) .nil)))))))) (.cons (.cons (Le.refl _) (.cons (Le.refl _) (.cons (Le.refl _) (.cons (Le.refl _) (.cons (Le.refl _) (.cons (Le.refl _) (.cons (ai5 1) (.cons (ai5 1) .nil)))))))) .nil)),.inr ⟨hf7,hcp,hg7,rfl⟩⟩
         ·repeat' first|refine sk77 ?_|intro b;conv=>whnf
          exact⟨(pos+6+1,_,_,s3,[]),(aa2 cl2),cl9,⟨by simp only;omega,by simp only;omega⟩,hr3,le2,.inl rfl⟩
        ·rintro⟨p3,fv3,rs3,sf3,sm⟩ ⟨⟨hp3,hp3'⟩,hr4,hle4,hsm⟩;simp only at hp3 hp3' hr4 hle4 hsm ⊢;have hsl:sm.length<=1:=by rcases hsm with rfl|⟨_,_,_,rfl⟩<;>simp
         repeat' first|refine sk77 ?_|intro b;conv=>whnf
         refine Ld.cellm (tb:=85) (cs:=cs2) (by simp) cl12 ?_
         repeat' first|refine sk77 ?_|intro b;conv=>whnf
         refine CE.pure HT ?_;by_cases ht:ao6 y.fields ar9<0
         ·have h8:=ac8 xs p3 3;have h8':=h8.2 (by omega)
          repeat' first|refine sk77 ?_|intro b;conv=>whnf
          ((refine pA6 (aa7 xs hx bm _ _ ⟨by omega,by omega⟩) (zH ([mkB bm xs _]++_)) (fun s'=>s'++_) (fun s'=>zH _) ?_);(rintro _ _ ⟨rfl,rfl⟩))
          repeat' first|refine sk77 ?_|intro b;conv=>whnf
          refine Bc.l ?_;by_cases hz8:atE xs p3 3=0
          ·have h9:=ac8 xs (p3+1) 3;have h9':=h9.2 (by omega);have h10:=ac8 xs (p3+1+1) 8;have h10':=h10.2 (by omega);have hrl:rs3.length<=3:=by have:=hle4.len;simp at this;omega
           repeat' first|refine sk77 ?_|intro b;conv=>whnf
           ((refine pA6 (aa7 xs hx bm _ _ ⟨by omega,by omega⟩) (zH ([mkB bm xs _]++_)) (fun s'=>s'++_) (fun s'=>zH _) ?_);(rintro _ _ ⟨rfl,rfl⟩))
           repeat' first|refine sk77 ?_|intro b;conv=>whnf
           refine dr7 ?_;refine ak3 mixed aa0 rfl [0,2,3,4] 8 (inE [1,5,9,10,11]) (.two 1 (.one 5 (.fst 6 (.fst 7 (.fst 8 (.one 9 (.one 10 (.one 11 .done))))))) 5 (.fst 6 (.fst 7 (.fst 8 (.one 1 (.one 9 (.one 10 (.one 11 .done)))))))) (γ:=Value × aa1) (fun _=>[]) (fun g=>mkB bm xs (p3+1+1+1)::kdB b7 (knm ks.length) lo (lo+atE xs (pos+1) 5) g.1::(b4,.cells 85 zK)::(g.2++[(b2,.cells 85 cs2)])) (fun g=>RowIs 97 8 (rs3++[fldR (am3 (atE xs (p3+1) 3) (atE xs (p3+1+1) 8)) nilD nilD]) g.1 g.2) (by decide +kernel) ?_ ?_
           ·repeat' first|refine sk77 ?_|intro b;conv=>whnf|(refine And.intro ?_ ?_<;>(conv=>whnf))|((refine pA6 (aa7 xs hx bm _ _ ⟨by omega,by omega⟩) (zH ([mkB bm xs _]++_)) (fun s'=>s'++_) (fun s'=>zH _) ?_);(rintro _ _ ⟨rfl,rfl⟩))|((refine pA6 (aa7 xs hx bm _ _ ⟨by omega,by omega⟩) (show List.Perm (_::mkB bm xs _::_) ([mkB bm xs _]++(_::_)) from List.Perm.swap _ _ _) (fun s'=>s'++(_::_)) (fun s'=>zH _) ?_);(rintro _ _ ⟨rfl,rfl⟩))|(refine Ap.go rfl rfl rfl rfl hr4 (τ:=mkB bm xs (p3+1+1+1)::kdB b7 (knm ks.length) lo (lo+atE xs (pos+1) 5) fv3::(b4,.cells 85 zK)::[(b2,.cells 85 cs2)]) cl10 rfl (zs:=rs3++[fldR (am3 (atE xs (p3+1) 3) (atE xs (p3+1+1) 8)) nilD nilD]) rfl (by simp;omega) (by simp;omega) (fun s'=>mkB bm xs (p3+1+1+1)::kdB b7 (knm ks.length) lo (lo+atE xs (pos+1) 5) fv3::(b4,.cells 85 zK)::(s'++[(b2,.cells 85 cs2)])) (fun s'=>cl11) (fun a6 c6 s6 hr6=>?_))
            all_goals exact⟨(_,s6),(aa2 cl2),cl9,hr6⟩
           ·rintro⟨fv6,sf6⟩ hr6;simp only at hr6 ⊢
            repeat' first|refine sk77 ?_|intro b;conv=>whnf
            refine dr7 ?_;refine ak3 mixed aa0 rfl [0,1,3,4,5,6,9] 10 (inE [2,7,8,10,13,14,15,16]) (.three 2 (.two 7 (.two 8 (.one 10 (.fst 11 (.fst 12 (.one 13 (.one 14 (.one 15 (.one 16 .done))))))) 10 (.fst 11 (.fst 12 (.one 8 (.one 13 (.one 14 (.one 15 (.one 16 .done)))))))) 10 (.fst 11 (.fst 12 (.one 7 (.one 8 (.one 13 (.one 14 (.one 15 (.one 16 .done))))))))) 7 (.two 2 (.two 8 (.one 10 (.fst 11 (.fst 12 (.one 13 (.one 14 (.one 15 (.one 16 .done))))))) 10 (.fst 11 (.fst 12 (.one 8 (.one 13 (.one 14 (.one 15 (.one 16 .done)))))))) 10 (.fst 11 (.fst 12 (.one 2 (.one 8 (.one 13 (.one 14 (.one 15 (.one 16 .done))))))))) 10 (.fst 11 (.fst 12 (.two 2 (.one 7 (.one 8 (.one 13 (.one 14 (.one 15 (.one 16 .done)))))) 7 (.one 2 (.one 8 (.one 13 (.one 14 (.one 15 (.one 16 .done)))))))))) (γ:=Option Addr × Nat × aa1) (fun _=>[]) (fun g=>mkB bm xs (p3+1+1+1)::kdB b7 (knm ks.length) lo (lo+atE xs (pos+1) 5) fv6::(b4,.cells 85 zK)::(sf6++((b2,.cells 85 (cs2.set (tw0*4+3) (.v (.slice g.1 (y.fields.map fldC++[fldR (totF (knm ks.length)) nilD nilD]).length g.2.1))))::g.2.2))) (fun g=>RowIs 97 8 (y.fields.map fldC++[fldR (totF (knm ks.length)) nilD nilD]) (.slice g.1 (y.fields.map fldC++[fldR (totF (knm ks.length)) nilD nilD]).length g.2.1) g.2.2) (by decide +kernel) ?_ ?_
            ·repeat' first|refine sk77 ?_|intro b;conv=>whnf|(refine And.intro ?_ ?_<;>(conv=>whnf))|(refine Ld.cellm (tb:=85) (cs:=cs2) (by simp) cl12 ?_)|(refine Ld.cellm (tb:=85) (cs:=[sD (knm ks.length),iD lo,iD (lo+atE xs (pos+1) 5),.v fv6]) (by simp) rfl ?_)|(refine Ap.go rfl rfl rfl rfl hr8 (τ:=mkB bm xs (p3+1+1+1)::kdB b7 (knm ks.length) lo (lo+atE xs (pos+1) 5) fv6::(b4,.cells 85 zK)::(sf6++[(b2,.cells 85 cs2)])) cl13 rfl (zs:=y.fields.map fldC++[fldR (totF (knm ks.length)) nilD nilD]) rfl (by simp only [zI,zL,List.length_cons,List.length_nil];omega) cl14 (fun s'=>mkB bm xs (p3+1+1+1)::kdB b7 (knm ks.length) lo (lo+atE xs (pos+1) 5) fv6::(b4,.cells 85 zK)::(sf6++((b2,.cells 85 cs2)::s'))) (fun s'=>cl11) (fun a9 c9 s9 hr9=>?_))|(refine Ap.go rfl rfl rfl rfl (RowIs.e0 97 8 (some ⟨b,0,none⟩)) (zH ([]++_)) (bw4 y.fields) (zs:=y.fields.map fldC) rfl (by rw [zL];omega) (by rw [zL];omega) (fun s'=>s'++_) (fun s'=>zH _) (fun a8 c8 s8 hr8=>?_))|(refine Sv.cellm (tb:=85) (cs:=cs2) (cs':=cs2.set (tw0*4+3) (.v (.slice a9 (y.fields.map fldC++[fldR (totF (knm ks.length)) nilD nilD]).length c9))) (τ:=mkB bm xs (p3+1+1+1)::kdB b7 (knm ks.length) lo (lo+atE xs (pos+1) 5) fv6::(b4,.cells 85 zK)::(sf6++s9)) cl10 cl15 rfl (by rw [show 0+((tw0:Nat):Int).toNat*4+3=tw0*4+3 by simp]) ?_)
             all_goals exact⟨(a9,c9,s9),(aa2 cl2),Sc.perm cl10,hr9⟩
            ·rintro⟨a9,c9,s9⟩ hr9;simp only at hr9 ⊢;have hidx:=(zE.1 hc3).1;have hkr:=pA7 (d:=slF (y.fields++[totF (knm ks.length)])) hrow (show (ks.map kndC)[tw0]?=some (kndC y) by rw [zP,hy];rfl) (show 3<4 by omega);have hls:(ks.map kndC).set tw0 ((kndC y).set 3 (slF (y.fields++[totF (knm ks.length)])))=(ks.set tw0 ⟨y.name,y.lo,y.hi,y.fields++[totF (knm ks.length)]⟩).map kndC:=by rw [wL];rfl
             rw [hls] at hkr;have le9:LeR (y.fields.map fldC++[fldR (totF (knm ks.length)) nilD nilD]) ((y.fields++[totF (knm ks.length)]).map fldC):=by rw [yB];exact (LeR.refl _).append (.cons (.cons (Le.refl _) (.cons (Le.refl _) (.cons (Le.refl _) (.cons (Le.refl _) (.cons (Le.refl _) (.cons (Le.refl _) (.cons (ai5 1) (.cons (ai5 1) .nil)))))))) .nil)
             have hfz:=Sc.frz (b:=b2) (t:=85) (τ:=mkB bm xs (p3+1+1+1)::kdB b7 (knm ks.length) lo (lo+atE xs (pos+1) 5) fv6::(b4,.cells 85 zK)::sf6) (xI (a:=D.v (.slice a9 (y.fields.map fldC++[fldR (totF (knm ks.length)) nilD nilD]).length c9)) hidx) hr9 le9;rw [List.set_set] at hfz;change Sc _ ((b2,.cells 85 (cs2.set (tw0*4+3) (slF (y.fields++[totF (knm ks.length)]))))::_) at hfz;have hle6:LeR (rs3++[fldR (am3 (atE xs (p3+1) 3) (atE xs (p3+1+1) 8)) nilD nilD]) ((idF idl::ofF y l9 hi::(sm++[am3 (atE xs (p3+1) 3) (atE xs (p3+1+1) 8)])).map fldC):=by
              have:=hle4.append (LeR.cons (x:=fldR (am3 (atE xs (p3+1) 3) (atE xs (p3+1+1) 8)) nilD nilD) (y:=fldC (am3 (atE xs (p3+1) 3) (atE xs (p3+1+1) 8))) (.cons (Le.refl _) (.cons (Le.refl _) (.cons (Le.refl _) (.cons (Le.refl _) (.cons (Le.refl _) (.cons (Le.refl _) (.cons (ai5 1) (.cons (ai5 1) .nil)))))))) .nil)
              simpa using this
             repeat' first|refine sk77 ?_|intro b;conv=>whnf
             exact⟨(⟨p3+1+1+1,fv6,_,sf6,ks.set tw0 ⟨y.name,y.lo,y.hi,y.fields++[totF (knm ks.length)]⟩,[(b2,.cells 85 (cs2.set (tw0*4+3) (slF (y.fields++[totF (knm ks.length)]))))]⟩,ofF y l9 hi::(sm++[am3 (atE xs (p3+1) 3) (atE xs (p3+1+1) 8)])),(aa2 cl2),(Sc.perm cl10).trans (hfz.trans (Sc.perm cl10)),⟨by simp only;omega,by simp only;omega⟩,⟨hr6,hle6,hkr,by simp⟩,RefP.part tw0 y l9 hi _ _ sm hy hl9 hhi hsm ht ⟨h9.1,h9'⟩ ⟨h10.1,h10'⟩,by simp;omega⟩
          ·repeat' first|refine sk77 ?_|intro b;conv=>whnf
           exact⟨(⟨p3+1,fv3,rs3,sf3,ks,[(b2,.cells 85 cs2)]⟩,ofF y l9 hi::sm),(aa2 cl2),cl9,⟨by simp only;omega,by simp only;omega⟩,⟨hr4,hle4,hrow,rfl⟩,RefP.of tw0 y l9 hi sm hy hl9 hhi hsm,by simp;omega⟩
         ·repeat' first|refine sk77 ?_|intro b;conv=>whnf
          refine Bc.l ?_
          repeat' first|refine sk77 ?_|intro b;conv=>whnf
          exact⟨(⟨p3,fv3,rs3,sf3,ks,[(b2,.cells 85 cs2)]⟩,ofF y l9 hi::sm),(aa2 cl2),cl9,⟨by simp only;omega,by simp only;omega⟩,⟨hr4,hle4,hrow,rfl⟩,RefP.of tw0 y l9 hi sm hy hl9 hhi hsm,by simp;omega⟩
       ·repeat' first|refine sk77 ?_|intro b;conv=>whnf
        refine Bc.j ?_;refine av2 mixed aa0 (γ:=Int × Value × List (List D) × aa1 × List Fld) (fun _=>[]) (fun g=>mkB bm xs g.1::kdB b7 (knm ks.length) lo (lo+atE xs (pos+1) 5) g.2.1::(b4,.cells 85 zK)::(g.2.2.2.1++[(b2,.cells 85 cs2)])) (fun g=>(pos+6<=g.1/\g.1<=pos+10)/\RowIs 97 8 g.2.2.1 g.2.1 g.2.2.2.1/\LeR g.2.2.1 ((idF idl::ofF y l9 hi::g.2.2.2.2).map fldC)/\(g.2.2.2.2=[]\/∃ h,0<=as0 y/\y.fields[(as0 y).toNat]?=some h/\g.2.2.2.2=[au9 h.name])) ?_ ?_
        ·(((with_reducible refine W.mk ?_);(conv=>whnf)))
         refine Bc.l ?_
         repeat' first|refine sk77 ?_|intro b;conv=>whnf
         exact⟨(pos+6,_,_,s3,[]),(aa2 cl2),cl9,⟨by simp only;omega,by simp only;omega⟩,hr3,le2,.inl rfl⟩
        ·rintro⟨p3,fv3,rs3,sf3,sm⟩ ⟨⟨hp3,hp3'⟩,hr4,hle4,hsm⟩;simp only at hp3 hp3' hr4 hle4 hsm ⊢;have hsl:sm.length<=1:=by rcases hsm with rfl|⟨_,_,_,rfl⟩<;>simp
         repeat' first|refine sk77 ?_|intro b;conv=>whnf
         refine Ld.cellm (tb:=85) (cs:=cs2) (by simp) cl12 ?_
         repeat' first|refine sk77 ?_|intro b;conv=>whnf
         refine CE.pure HT ?_;by_cases ht:ao6 y.fields ar9<0
         ·have h8:=ac8 xs p3 3;have h8':=h8.2 (by omega)
          repeat' first|refine sk77 ?_|intro b;conv=>whnf
          ((refine pA6 (aa7 xs hx bm _ _ ⟨by omega,by omega⟩) (zH ([mkB bm xs _]++_)) (fun s'=>s'++_) (fun s'=>zH _) ?_);(rintro _ _ ⟨rfl,rfl⟩))
          repeat' first|refine sk77 ?_|intro b;conv=>whnf
          refine Bc.l ?_;by_cases hz8:atE xs p3 3=0
          ·have h9:=ac8 xs (p3+1) 3;have h9':=h9.2 (by omega);have h10:=ac8 xs (p3+1+1) 8;have h10':=h10.2 (by omega);have hrl:rs3.length<=3:=by have:=hle4.len;simp at this;omega
           repeat' first|refine sk77 ?_|intro b;conv=>whnf
           ((refine pA6 (aa7 xs hx bm _ _ ⟨by omega,by omega⟩) (zH ([mkB bm xs _]++_)) (fun s'=>s'++_) (fun s'=>zH _) ?_);(rintro _ _ ⟨rfl,rfl⟩))
           repeat' first|refine sk77 ?_|intro b;conv=>whnf
           refine dr7 ?_;refine ak3 mixed aa0 rfl [0,2,3,4] 8 (inE [1,5,9,10,11]) (.two 1 (.one 5 (.fst 6 (.fst 7 (.fst 8 (.one 9 (.one 10 (.one 11 .done))))))) 5 (.fst 6 (.fst 7 (.fst 8 (.one 1 (.one 9 (.one 10 (.one 11 .done)))))))) (γ:=Value × aa1) (fun _=>[]) (fun g=>mkB bm xs (p3+1+1+1)::kdB b7 (knm ks.length) lo (lo+atE xs (pos+1) 5) g.1::(b4,.cells 85 zK)::(g.2++[(b2,.cells 85 cs2)])) (fun g=>RowIs 97 8 (rs3++[fldR (am3 (atE xs (p3+1) 3) (atE xs (p3+1+1) 8)) nilD nilD]) g.1 g.2) (by decide +kernel) ?_ ?_
           ·repeat' first|refine sk77 ?_|intro b;conv=>whnf|(refine And.intro ?_ ?_<;>(conv=>whnf))|((refine pA6 (aa7 xs hx bm _ _ ⟨by omega,by omega⟩) (zH ([mkB bm xs _]++_)) (fun s'=>s'++_) (fun s'=>zH _) ?_);(rintro _ _ ⟨rfl,rfl⟩))|((refine pA6 (aa7 xs hx bm _ _ ⟨by omega,by omega⟩) (show List.Perm (_::mkB bm xs _::_) ([mkB bm xs _]++(_::_)) from List.Perm.swap _ _ _) (fun s'=>s'++(_::_)) (fun s'=>zH _) ?_);(rintro _ _ ⟨rfl,rfl⟩))|(refine Ap.go rfl rfl rfl rfl hr4 (τ:=mkB bm xs (p3+1+1+1)::kdB b7 (knm ks.length) lo (lo+atE xs (pos+1) 5) fv3::(b4,.cells 85 zK)::[(b2,.cells 85 cs2)]) cl10 rfl (zs:=rs3++[fldR (am3 (atE xs (p3+1) 3) (atE xs (p3+1+1) 8)) nilD nilD]) rfl (by simp;omega) (by simp;omega) (fun s'=>mkB bm xs (p3+1+1+1)::kdB b7 (knm ks.length) lo (lo+atE xs (pos+1) 5) fv3::(b4,.cells 85 zK)::(s'++[(b2,.cells 85 cs2)])) (fun s'=>cl11) (fun a6 c6 s6 hr6=>?_))
            all_goals exact⟨(_,s6),(aa2 cl2),cl9,hr6⟩
           ·rintro⟨fv6,sf6⟩ hr6;simp only at hr6 ⊢
            repeat' first|refine sk77 ?_|intro b;conv=>whnf
            refine dr7 ?_;refine ak3 mixed aa0 rfl [0,1,3,4,5,6,9] 10 (inE [2,7,8,10,13,14,15,16]) (.three 2 (.two 7 (.two 8 (.one 10 (.fst 11 (.fst 12 (.one 13 (.one 14 (.one 15 (.one 16 .done))))))) 10 (.fst 11 (.fst 12 (.one 8 (.one 13 (.one 14 (.one 15 (.one 16 .done)))))))) 10 (.fst 11 (.fst 12 (.one 7 (.one 8 (.one 13 (.one 14 (.one 15 (.one 16 .done))))))))) 7 (.two 2 (.two 8 (.one 10 (.fst 11 (.fst 12 (.one 13 (.one 14 (.one 15 (.one 16 .done))))))) 10 (.fst 11 (.fst 12 (.one 8 (.one 13 (.one 14 (.one 15 (.one 16 .done)))))))) 10 (.fst 11 (.fst 12 (.one 2 (.one 8 (.one 13 (.one 14 (.one 15 (.one 16 .done))))))))) 10 (.fst 11 (.fst 12 (.two 2 (.one 7 (.one 8 (.one 13 (.one 14 (.one 15 (.one 16 .done)))))) 7 (.one 2 (.one 8 (.one 13 (.one 14 (.one 15 (.one 16 .done)))))))))) (γ:=Option Addr × Nat × aa1) (fun _=>[]) (fun g=>mkB bm xs (p3+1+1+1)::kdB b7 (knm ks.length) lo (lo+atE xs (pos+1) 5) fv6::(b4,.cells 85 zK)::(sf6++((b2,.cells 85 (cs2.set (tw0*4+3) (.v (.slice g.1 (y.fields.map fldC++[fldR (totF (knm ks.length)) nilD nilD]).length g.2.1))))::g.2.2))) (fun g=>RowIs 97 8 (y.fields.map fldC++[fldR (totF (knm ks.length)) nilD nilD]) (.slice g.1 (y.fields.map fldC++[fldR (totF (knm ks.length)) nilD nilD]).length g.2.1) g.2.2) (by decide +kernel) ?_ ?_
            ·repeat' first|refine sk77 ?_|intro b;conv=>whnf|(refine And.intro ?_ ?_<;>(conv=>whnf))|(refine Ld.cellm (tb:=85) (cs:=cs2) (by simp) cl12 ?_)|(refine Ld.cellm (tb:=85) (cs:=[sD (knm ks.length),iD lo,iD (lo+atE xs (pos+1) 5),.v fv6]) (by simp) rfl ?_)|(refine Ap.go rfl rfl rfl rfl hr8 (τ:=mkB bm xs (p3+1+1+1)::kdB b7 (knm ks.length) lo (lo+atE xs (pos+1) 5) fv6::(b4,.cells 85 zK)::(sf6++[(b2,.cells 85 cs2)])) cl13 rfl (zs:=y.fields.map fldC++[fldR (totF (knm ks.length)) nilD nilD]) rfl (by simp only [zI,zL,List.length_cons,List.length_nil];omega) cl14 (fun s'=>mkB bm xs (p3+1+1+1)::kdB b7 (knm ks.length) lo (lo+atE xs (pos+1) 5) fv6::(b4,.cells 85 zK)::(sf6++((b2,.cells 85 cs2)::s'))) (fun s'=>cl11) (fun a9 c9 s9 hr9=>?_))|(refine Ap.go rfl rfl rfl rfl (RowIs.e0 97 8 (some ⟨b,0,none⟩)) (zH ([]++_)) (bw4 y.fields) (zs:=y.fields.map fldC) rfl (by rw [zL];omega) (by rw [zL];omega) (fun s'=>s'++_) (fun s'=>zH _) (fun a8 c8 s8 hr8=>?_))|(refine Sv.cellm (tb:=85) (cs:=cs2) (cs':=cs2.set (tw0*4+3) (.v (.slice a9 (y.fields.map fldC++[fldR (totF (knm ks.length)) nilD nilD]).length c9))) (τ:=mkB bm xs (p3+1+1+1)::kdB b7 (knm ks.length) lo (lo+atE xs (pos+1) 5) fv6::(b4,.cells 85 zK)::(sf6++s9)) cl10 cl15 rfl (by rw [show 0+((tw0:Nat):Int).toNat*4+3=tw0*4+3 by simp]) ?_)
             all_goals exact⟨(a9,c9,s9),(aa2 cl2),Sc.perm cl10,hr9⟩
            ·rintro⟨a9,c9,s9⟩ hr9;simp only at hr9 ⊢;have hidx:=(zE.1 hc3).1;have hkr:=pA7 (d:=slF (y.fields++[totF (knm ks.length)])) hrow (show (ks.map kndC)[tw0]?=some (kndC y) by rw [zP,hy];rfl) (show 3<4 by omega);have hls:(ks.map kndC).set tw0 ((kndC y).set 3 (slF (y.fields++[totF (knm ks.length)])))=(ks.set tw0 ⟨y.name,y.lo,y.hi,y.fields++[totF (knm ks.length)]⟩).map kndC:=by rw [wL];rfl
             rw [hls] at hkr;have le9:LeR (y.fields.map fldC++[fldR (totF (knm ks.length)) nilD nilD]) ((y.fields++[totF (knm ks.length)]).map fldC):=by rw [yB];exact (LeR.refl _).append (.cons (.cons (Le.refl _) (.cons (Le.refl _) (.cons (Le.refl _) (.cons (Le.refl _) (.cons (Le.refl _) (.cons (Le.refl _) (.cons (ai5 1) (.cons (ai5 1) .nil)))))))) .nil)
             have hfz:=Sc.frz (b:=b2) (t:=85) (τ:=mkB bm xs (p3+1+1+1)::kdB b7 (knm ks.length) lo (lo+atE xs (pos+1) 5) fv6::(b4,.cells 85 zK)::sf6) (xI (a:=D.v (.slice a9 (y.fields.map fldC++[fldR (totF (knm ks.length)) nilD nilD]).length c9)) hidx) hr9 le9;rw [List.set_set] at hfz;change Sc _ ((b2,.cells 85 (cs2.set (tw0*4+3) (slF (y.fields++[totF (knm ks.length)]))))::_) at hfz;have hle6:LeR (rs3++[fldR (am3 (atE xs (p3+1) 3) (atE xs (p3+1+1) 8)) nilD nilD]) ((idF idl::ofF y l9 hi::(sm++[am3 (atE xs (p3+1) 3) (atE xs (p3+1+1) 8)])).map fldC):=by
              have:=hle4.append (LeR.cons (x:=fldR (am3 (atE xs (p3+1) 3) (atE xs (p3+1+1) 8)) nilD nilD) (y:=fldC (am3 (atE xs (p3+1) 3) (atE xs (p3+1+1) 8))) (.cons (Le.refl _) (.cons (Le.refl _) (.cons (Le.refl _) (.cons (Le.refl _) (.cons (Le.refl _) (.cons (Le.refl _) (.cons (ai5 1) (.cons (ai5 1) .nil)))))))) .nil)
              simpa using this
             repeat' first|refine sk77 ?_|intro b;conv=>whnf
             exact⟨(⟨p3+1+1+1,fv6,_,sf6,ks.set tw0 ⟨y.name,y.lo,y.hi,y.fields++[totF (knm ks.length)]⟩,[(b2,.cells 85 (cs2.set (tw0*4+3) (slF (y.fields++[totF (knm ks.length)]))))]⟩,ofF y l9 hi::(sm++[am3 (atE xs (p3+1) 3) (atE xs (p3+1+1) 8)])),(aa2 cl2),(Sc.perm cl10).trans (hfz.trans (Sc.perm cl10)),⟨by simp only;omega,by simp only;omega⟩,⟨hr6,hle6,hkr,by simp⟩,RefP.part tw0 y l9 hi _ _ sm hy hl9 hhi hsm ht ⟨h9.1,h9'⟩ ⟨h10.1,h10'⟩,by simp;omega⟩
          ·repeat' first|refine sk77 ?_|intro b;conv=>whnf
           exact⟨(⟨p3+1,fv3,rs3,sf3,ks,[(b2,.cells 85 cs2)]⟩,ofF y l9 hi::sm),(aa2 cl2),cl9,⟨by simp only;omega,by simp only;omega⟩,⟨hr4,hle4,hrow,rfl⟩,RefP.of tw0 y l9 hi sm hy hl9 hhi hsm,by simp;omega⟩
         ·repeat' first|refine sk77 ?_|intro b;conv=>whnf
          refine Bc.l ?_
          repeat' first|refine sk77 ?_|intro b;conv=>whnf
          exact⟨(⟨p3,fv3,rs3,sf3,ks,[(b2,.cells 85 cs2)]⟩,ofF y l9 hi::sm),(aa2 cl2),cl9,⟨by simp only;omega,by simp only;omega⟩,⟨hr4,hle4,hrow,rfl⟩,RefP.of tw0 y l9 hi sm hy hl9 hhi hsm,by simp;omega⟩
    ·repeat' first|refine sk77 ?_|intro b;conv=>whnf
     exact⟨(⟨pos+1+1+1,fv,_,sf,ks,sk⟩,[]),(aa2 cl2),cl9,⟨by simp only;omega,by simp only;omega⟩,⟨hfr,.cons (.cons (Le.refl _) (.cons (Le.refl _) (.cons (Le.refl _) (.cons (Le.refl _) (.cons (Le.refl _) (.cons (Le.refl _) (.cons (ai5 1) (.cons (ai5 1) .nil)))))))) .nil,hrow,rfl⟩,RefP.none (wX.1 (by omega)),by simp⟩
   ·rintro⟨⟨p1,fv1,rs1,sf1,ks1,sk1⟩,f1⟩ ⟨⟨hp1,hp1'⟩,⟨hr1,hle1,hkr1,hkl1⟩,hRef,hf1⟩;simp only [kS] at hp1 hp1' hr1 hle1 hkr1 hkl1 hRef hf1 ⊢;have hl1:rs1.length<=4:=by have:=hle1.len;simp at this;omega
    by_cases hn1:1<ks.length
    ·have h11:=ac8 xs p1 3
     repeat' first|refine sk77 ?_|intro b;conv=>whnf
     ((refine pA6 (aa7 xs hx bm _ _ ⟨by omega,by omega⟩) (zH ([mkB bm xs _]++_)) (fun s'=>s'++_) (fun s'=>zH _) ?_);(rintro _ _ ⟨rfl,rfl⟩))
     repeat' first|refine sk77 ?_|intro b;conv=>whnf
     refine Bc.j ?_;refine av2 mixed aa0 (γ:=Int × Value × List (List D) × aa1 × List Fld) (fun _=>[]) (fun g=>mkB bm xs g.1::kdB b7 (knm ks.length) lo (lo+atE xs (pos+1) 5) g.2.1::(b4,.cells 85 zK)::(g.2.2.2.1++sk1)) (fun g=>(pos+3<=g.1/\g.1<=pos+35)/\RowIs 97 8 g.2.2.1 g.2.1 g.2.2.2.1/\LeR g.2.2.1 ((idF idl::(f1++g.2.2.2.2)).map fldC)/\(g.2.2.2.2=[]\/∃ y,ks[0]?=some y/\1<ks.length/\g.2.2.2.2=[byF y])) ?_ ?_
     ·(((with_reducible refine W.mk ?_);(conv=>whnf)))
      refine Bc.l ?_;by_cases hz11:atE xs p1 3=0
      ·obtain⟨y1,hy1⟩:∃ y,ks1[0]?=some y:=⟨_,zD (by omega)⟩
       obtain⟨b12,cap12,cs12,e12,rfl,hcs12⟩:=RowIs.get hkr1 (show (ks1.map kndC)[0]?=some (kndC y1) by rw [zP,hy1];rfl);rw [zL] at e12;have hc10:cs12[0]?=some (sD y1.name):=hcs12 0 (by omega);obtain⟨y0,hy0,hny⟩:=hRef.name0 hy1;rw [hkl1] at e12
       cases e12
       repeat' first|refine sk77 ?_|intro b;conv=>whnf
       refine Dr.l (by decide +kernel) ?_
       repeat' first|refine sk77 ?_|intro b;conv=>whnf
       refine Ld.cellm (tb:=85) (cs:=cs12) (by simp) hc10 ?_
       repeat' first|refine sk77 ?_|intro b;conv=>whnf
       refine Ap.go rfl rfl rfl rfl hr1 (τ:=mkB bm xs (p1+1)::kdB b7 (knm ks.length) lo (lo+atE xs (pos+1) 5) fv1::(b4,.cells 85 zK)::[(b12,.cells 85 cs12)]) cl10 rfl (zs:=rs1++[fldR (byF y1) nilD nilD]) rfl (by simp;omega) (by simp;omega) (fun s'=>mkB bm xs (p1+1)::kdB b7 (knm ks.length) lo (lo+atE xs (pos+1) 5) fv1::(b4,.cells 85 zK)::(s'++[(b12,.cells 85 cs12)])) (fun s'=>cl11) (fun a13 c13 s13 hr13=>?_)
       repeat' first|refine sk77 ?_|intro b;conv=>whnf
       exact⟨(p1+1,_,_,s13,[byF y1]),(aa2 cl2),cl9,⟨by simp only;omega,by simp only;omega⟩,hr13,by simpa using hle1.append (LeR.cons (x:=fldR (byF y1) nilD nilD) (y:=fldC (byF y1)) (.cons (Le.refl _) (.cons (Le.refl _) (.cons (Le.refl _) (.cons (Le.refl _) (.cons (Le.refl _) (.cons (Le.refl _) (.cons (ai5 1) (.cons (ai5 1) .nil)))))))) .nil),.inr ⟨y0,hy0,hn1,by simp [byF,hny]⟩⟩
      ·repeat' first|refine sk77 ?_|intro b;conv=>whnf
       exact⟨(p1+1,fv1,rs1,sf1,[]),(aa2 cl2),cl9,⟨by simp only;omega,by simp only;omega⟩,hr1,by simpa using hle1,.inl rfl⟩
     ·rintro⟨p4,fv4,rs4,sf4,f2⟩ ⟨⟨hp4,hp4'⟩,hr4,hle4,hf2⟩;simp only at hp4 hp4' hr4 hle4 hf2 ⊢;have hl2:f2.length<=1:=by rcases hf2 with rfl|⟨_,_,_,rfl⟩<;>simp
      have hl4:rs4.length<=10:=by have:=hle4.len;simp at this;omega
      repeat' first|refine sk77 ?_|intro b;conv=>whnf
      refine pA6 (aE1 xs hx bm _ ⟨by omega,by omega⟩) (zH ([mkB bm xs _]++_)) (fun s'=>s'++_) (fun s'=>zH _) ?_;rintro _ _ ⟨p5,fs1,⟨hp5,hp5'⟩,rfl,rfl,hP1⟩;have hn1:=hP1.two
      repeat' first|refine sk77 ?_|intro b;conv=>whnf
      refine Ap.go rfl rfl rfl rfl hr4 (τ:=mkB bm xs p5::kdB b7 (knm ks.length) lo (lo+atE xs (pos+1) 5) fv4::(b4,.cells 85 zK)::sk1) cl10 (bw4 fs1) (zs:=rs4++fs1.map fldC) rfl (by rw [zI,zL];omega) (by rw [zI,zL];omega) (fun s'=>mkB bm xs p5::kdB b7 (knm ks.length) lo (lo+atE xs (pos+1) 5) fv4::(b4,.cells 85 zK)::(s'++sk1)) (fun s'=>cl11) (fun a14 c14 s14 hr14=>?_);have le14:LeR (rs4++fs1.map fldC) ((idF idl::(f1++(f2++fs1))).map fldC):=by
       have:=hle4.append (LeR.refl (fs1.map fldC))
       simpa using this
      have hl14:(rs4++fs1.map fldC).length<=12:=by rw [zI,zL];omega
      have h15:=ac8 xs p5 2
      repeat' first|refine sk77 ?_|intro b;conv=>whnf
      ((refine pA6 (aa7 xs hx bm _ _ ⟨by omega,by omega⟩) (zH ([mkB bm xs _]++_)) (fun s'=>s'++_) (fun s'=>zH _) ?_);(rintro _ _ ⟨rfl,rfl⟩))
      generalize rs4++fs1.map fldC=rs14 at *
      repeat' first|refine sk77 ?_|intro b;conv=>whnf
      refine Bc.j ?_;refine av2 mixed aa0 (γ:=Int × Value × List (List D) × aa1 × List Fld) (fun _=>[]) (fun g=>mkB bm xs g.1::kdB b7 (knm ks.length) lo (lo+atE xs (pos+1) 5) g.2.1::(b4,.cells 85 zK)::(g.2.2.2.1++sk1)) (fun g=>(pos+3<=g.1/\g.1<=pos+80)/\RowIs 97 8 g.2.2.1 g.2.1 g.2.2.2.1/\LeR g.2.2.1 ((idF idl::(f1++(f2++(fs1++g.2.2.2.2)))).map fldC)/\PlainF g.2.2.2.2/\(g.2.2.2.2=[]\/∃ h hs,g.2.2.2.2=h::hs/\ao6 (idF idl::(f1++(f2++fs1))) h.name<0)) ?_ ?_
      ·(((with_reducible refine W.mk ?_);(conv=>whnf)))
       refine Bc.l ?_;by_cases hz15:atE xs p5 2=0
       ·repeat' first|refine sk77 ?_|intro b;conv=>whnf
        refine pA6 (aE1 xs hx bm _ ⟨by omega,by omega⟩) (zH ([mkB bm xs _]++_)) (fun s'=>s'++_) (fun s'=>zH _) ?_;rintro _ _ ⟨p6,fs2,⟨hp6,hp6'⟩,rfl,rfl,hP2⟩;have hn2:=hP2.two
        cases fs2 with
        | nil=>
         repeat' first|refine sk77 ?_|intro b;conv=>whnf
         refine Dr.l (by decide +kernel) ?_
         repeat' first|refine sk77 ?_|intro b;conv=>whnf
         refine Bc.l ?_
         repeat' first|refine sk77 ?_|intro b;conv=>whnf
         exact⟨(p6,_,_,s14,[]),(aa2 cl2),cl9,⟨by simp only;omega,by simp only;omega⟩,hr14,by simpa using le14,PlainF.none,.inl rfl⟩
        | cons h2 fs2=>
         have HH:=aO7 (idF idl::(f1++(f2++fs1))) h2.name (by simp only [List.length_cons,zI];omega);have h20:(h2::fs2)[Int.toNat 0]?=some h2:=rfl
         repeat' first|refine sk77 ?_|intro b;conv=>whnf
         refine Dr.l (by decide +kernel) ?_
         repeat' first|refine sk77 ?_|intro b;conv=>whnf
         refine Cp.pk (APk.peek (.cons (Pk.rowLe (τ:=mkB bm xs p6::kdB b7 (knm ks.length) lo (lo+atE xs (pos+1) 5) (.slice a14 rs14.length c14)::(b4,.cells 85 zK)::sk1) hr14 le14 cl10) (.cons (Pk.same _) .nil)) HH rfl) ?_;by_cases hx2:ao6 (idF idl::(f1++(f2++fs1))) h2.name<0
         ·repeat' first|refine sk77 ?_|intro b;conv=>whnf
          refine Bc.l ?_
          repeat' first|refine sk77 ?_|intro b;conv=>whnf
          refine Ap.go rfl rfl rfl rfl hr14 (τ:=mkB bm xs p6::kdB b7 (knm ks.length) lo (lo+atE xs (pos+1) 5) (.slice a14 rs14.length c14)::(b4,.cells 85 zK)::sk1) cl10 (bw4 (h2::fs2)) (zs:=rs14++(h2::fs2).map fldC) rfl (by rw [zI,zL];omega) (by rw [zI,zL];omega) (fun s'=>mkB bm xs p6::kdB b7 (knm ks.length) lo (lo+atE xs (pos+1) 5) (.slice a14 rs14.length c14)::(b4,.cells 85 zK)::(s'++sk1)) (fun s'=>cl11) (fun a16 c16 s16 hr16=>?_)
          repeat' first|refine sk77 ?_|intro b;conv=>whnf
          exact⟨(p6,_,_,s16,h2::fs2),(aa2 cl2),cl9,⟨by simp only;omega,by simp only;omega⟩,hr16,by have:=le14.append (LeR.refl ((h2::fs2).map fldC));simpa using this,hP2,.inr ⟨h2,fs2,rfl,hx2⟩⟩
         ·repeat' first|refine sk77 ?_|intro b;conv=>whnf
          refine Bc.l ?_
          repeat' first|refine sk77 ?_|intro b;conv=>whnf
          exact⟨(p6,_,_,s14,[]),(aa2 cl2),cl9,⟨by simp only;omega,by simp only;omega⟩,hr14,by simpa using le14,PlainF.none,.inl rfl⟩
       ·repeat' first|refine sk77 ?_|intro b;conv=>whnf
        exact⟨(p5+1,_,_,s14,[]),(aa2 cl2),cl9,⟨by simp only;omega,by simp only;omega⟩,hr14,by simpa using le14,PlainF.none,.inl rfl⟩
      ·rintro⟨p7,fv7,rs7,sf7,p2⟩ ⟨⟨hp7,hp7'⟩,hr7,hle7,hP2,hp2⟩;simp only at hp7 hp7' hr7 hle7 hP2 hp2 ⊢;obtain⟨a17,c17,rfl⟩:=hr7.slice
       repeat' first|refine sk77 ?_|intro b;conv=>whnf
       refine Rs.c aa0 (m:=2) rfl rfl rfl rfl rfl rfl ?_
       repeat' first|refine sk77 ?_|intro b;conv=>whnf
       have hs1:∀ z,z∈aa6 (mkB bm xs p7::sk1)->z∈aa6 (mkB bm xs p7::kdB b7 (knm ks.length) lo (lo+atE xs (pos+1) 5) (.slice a17 rs7.length c17)::kdB b4 (knm ks.length) lo (lo+atE xs (pos+1) 5) (.slice a17 rs7.length c17)::(sf7++sk1)):=by
        intro z hz;simp only [aa6,List.map_cons,yB,zU,zO] at hz ⊢;rcases hz with hz|hz<;>simp [hz]
       have hs2:∀ z,z∈aa6 (mkB bm xs p7::sk1)->z∈aa6 (mkB bm xs p7::kdB b7 (knm ks.length) lo (lo+atE xs (pos+1) 5) (.slice a17 rs7.length c17)::kdB b4 (knm ks.length) lo (lo+atE xs (pos+1) 5) (.slice a17 rs7.length c17)::sk1):=by
        intro z hz;simp only [aa6,List.map_cons,yB,zU,zO] at hz ⊢;rcases hz with hz|hz<;>simp [hz]
       refine Rt.by (σ':=mkB bm xs p7::sk1) (d':=kndD ⟨knm ks.length,lo,lo+atE xs (pos+1) 5,idF idl::(f1++(f2++(fs1++p2)))⟩) (Vs.vd ⟨kdB b7 (knm ks.length) lo (lo+atE xs (pos+1) 5) (.slice a17 rs7.length c17)::kdB b4 (knm ks.length) lo (lo+atE xs (pos+1) 5) (.slice a17 rs7.length c17)::sf7,by (refine ac3 fun a=>?_;simp only [kdB,mkB,List.append_eq,List.nil_append,ac4,af0,ae9,sD,iD,bD];omega)⟩ (Vd.agg (.cons (Vd.same hs1 _) (.cons (Vd.same hs1 _) (.cons (Vd.same hs1 _) (.cons (Vd.rowLe (ρ:=mkB bm xs p7::kdB b7 (knm ks.length) lo (lo+atE xs (pos+1) 5) (.slice a17 rs7.length c17)::kdB b4 (knm ks.length) lo (lo+atE xs (pos+1) 5) (.slice a17 rs7.length c17)::sk1) hr7 hle7 cl10 hs2) .nil)))))) ?_
       exact⟨p7,_,ks1,sk1,⟨by omega,by omega⟩,rfl,rfl,hkr1,⟨lo,atE xs (pos+1) 5,idl,f1,f2,fs1,p2,hlo,⟨h2.1,h2'⟩,hid,rfl,hRef,hf2,hP1,hP2,hp2⟩⟩
    ·repeat' first|refine sk77 ?_|intro b;conv=>whnf
     refine Bc.j ?_;refine av2 mixed aa0 (γ:=Int × Value × List (List D) × aa1 × List Fld) (fun _=>[]) (fun g=>mkB bm xs g.1::kdB b7 (knm ks.length) lo (lo+atE xs (pos+1) 5) g.2.1::(b4,.cells 85 zK)::(g.2.2.2.1++sk1)) (fun g=>(pos+3<=g.1/\g.1<=pos+35)/\RowIs 97 8 g.2.2.1 g.2.1 g.2.2.2.1/\LeR g.2.2.1 ((idF idl::(f1++g.2.2.2.2)).map fldC)/\(g.2.2.2.2=[]\/∃ y,ks[0]?=some y/\1<ks.length/\g.2.2.2.2=[byF y])) ?_ ?_
     ·(((with_reducible refine W.mk ?_);(conv=>whnf)))
      refine Bc.l ?_
      repeat' first|refine sk77 ?_|intro b;conv=>whnf
      exact⟨(p1,fv1,rs1,sf1,[]),(aa2 cl2),cl9,⟨by simp only;omega,by simp only;omega⟩,hr1,by simpa using hle1,.inl rfl⟩
     ·rintro⟨p4,fv4,rs4,sf4,f2⟩ ⟨⟨hp4,hp4'⟩,hr4,hle4,hf2⟩;simp only at hp4 hp4' hr4 hle4 hf2 ⊢;have hl2:f2.length<=1:=by rcases hf2 with rfl|⟨_,_,_,rfl⟩<;>simp
      have hl4:rs4.length<=10:=by have:=hle4.len;simp at this;omega
      repeat' first|refine sk77 ?_|intro b;conv=>whnf
      refine pA6 (aE1 xs hx bm _ ⟨by omega,by omega⟩) (zH ([mkB bm xs _]++_)) (fun s'=>s'++_) (fun s'=>zH _) ?_;rintro _ _ ⟨p5,fs1,⟨hp5,hp5'⟩,rfl,rfl,hP1⟩;have hn1:=hP1.two
      repeat' first|refine sk77 ?_|intro b;conv=>whnf
      refine Ap.go rfl rfl rfl rfl hr4 (τ:=mkB bm xs p5::kdB b7 (knm ks.length) lo (lo+atE xs (pos+1) 5) fv4::(b4,.cells 85 zK)::sk1) cl10 (bw4 fs1) (zs:=rs4++fs1.map fldC) rfl (by rw [zI,zL];omega) (by rw [zI,zL];omega) (fun s'=>mkB bm xs p5::kdB b7 (knm ks.length) lo (lo+atE xs (pos+1) 5) fv4::(b4,.cells 85 zK)::(s'++sk1)) (fun s'=>cl11) (fun a14 c14 s14 hr14=>?_);have le14:LeR (rs4++fs1.map fldC) ((idF idl::(f1++(f2++fs1))).map fldC):=by
       have:=hle4.append (LeR.refl (fs1.map fldC))
       simpa using this
      have hl14:(rs4++fs1.map fldC).length<=12:=by rw [zI,zL];omega
      have h15:=ac8 xs p5 2
      repeat' first|refine sk77 ?_|intro b;conv=>whnf
      ((refine pA6 (aa7 xs hx bm _ _ ⟨by omega,by omega⟩) (zH ([mkB bm xs _]++_)) (fun s'=>s'++_) (fun s'=>zH _) ?_);(rintro _ _ ⟨rfl,rfl⟩))
      generalize rs4++fs1.map fldC=rs14 at *
      repeat' first|refine sk77 ?_|intro b;conv=>whnf
      refine Bc.j ?_;refine av2 mixed aa0 (γ:=Int × Value × List (List D) × aa1 × List Fld) (fun _=>[]) (fun g=>mkB bm xs g.1::kdB b7 (knm ks.length) lo (lo+atE xs (pos+1) 5) g.2.1::(b4,.cells 85 zK)::(g.2.2.2.1++sk1)) (fun g=>(pos+3<=g.1/\g.1<=pos+80)/\RowIs 97 8 g.2.2.1 g.2.1 g.2.2.2.1/\LeR g.2.2.1 ((idF idl::(f1++(f2++(fs1++g.2.2.2.2)))).map fldC)/\PlainF g.2.2.2.2/\(g.2.2.2.2=[]\/∃ h hs,g.2.2.2.2=h::hs/\ao6 (idF idl::(f1++(f2++fs1))) h.name<0)) ?_ ?_
      ·(((with_reducible refine W.mk ?_);(conv=>whnf)))
       refine Bc.l ?_;by_cases hz15:atE xs p5 2=0
       ·repeat' first|refine sk77 ?_|intro b;conv=>whnf
        refine pA6 (aE1 xs hx bm _ ⟨by omega,by omega⟩) (zH ([mkB bm xs _]++_)) (fun s'=>s'++_) (fun s'=>zH _) ?_;rintro _ _ ⟨p6,fs2,⟨hp6,hp6'⟩,rfl,rfl,hP2⟩;have hn2:=hP2.two
        cases fs2 with
        | nil=>
         repeat' first|refine sk77 ?_|intro b;conv=>whnf
         refine Dr.l (by decide +kernel) ?_
         repeat' first|refine sk77 ?_|intro b;conv=>whnf
         refine Bc.l ?_
         repeat' first|refine sk77 ?_|intro b;conv=>whnf
         exact⟨(p6,_,_,s14,[]),(aa2 cl2),cl9,⟨by simp only;omega,by simp only;omega⟩,hr14,by simpa using le14,PlainF.none,.inl rfl⟩
        | cons h2 fs2=>
         have HH:=aO7 (idF idl::(f1++(f2++fs1))) h2.name (by simp only [List.length_cons,zI];omega);have h20:(h2::fs2)[Int.toNat 0]?=some h2:=rfl
         repeat' first|refine sk77 ?_|intro b;conv=>whnf
         refine Dr.l (by decide +kernel) ?_
         repeat' first|refine sk77 ?_|intro b;conv=>whnf
         refine Cp.pk (APk.peek (.cons (Pk.rowLe (τ:=mkB bm xs p6::kdB b7 (knm ks.length) lo (lo+atE xs (pos+1) 5) (.slice a14 rs14.length c14)::(b4,.cells 85 zK)::sk1) hr14 le14 cl10) (.cons (Pk.same _) .nil)) HH rfl) ?_;by_cases hx2:ao6 (idF idl::(f1++(f2++fs1))) h2.name<0
         ·repeat' first|refine sk77 ?_|intro b;conv=>whnf
          refine Bc.l ?_
          repeat' first|refine sk77 ?_|intro b;conv=>whnf
          refine Ap.go rfl rfl rfl rfl hr14 (τ:=mkB bm xs p6::kdB b7 (knm ks.length) lo (lo+atE xs (pos+1) 5) (.slice a14 rs14.length c14)::(b4,.cells 85 zK)::sk1) cl10 (bw4 (h2::fs2)) (zs:=rs14++(h2::fs2).map fldC) rfl (by rw [zI,zL];omega) (by rw [zI,zL];omega) (fun s'=>mkB bm xs p6::kdB b7 (knm ks.length) lo (lo+atE xs (pos+1) 5) (.slice a14 rs14.length c14)::(b4,.cells 85 zK)::(s'++sk1)) (fun s'=>cl11) (fun a16 c16 s16 hr16=>?_)
          repeat' first|refine sk77 ?_|intro b;conv=>whnf
          exact⟨(p6,_,_,s16,h2::fs2),(aa2 cl2),cl9,⟨by simp only;omega,by simp only;omega⟩,hr16,by have:=le14.append (LeR.refl ((h2::fs2).map fldC));simpa using this,hP2,.inr ⟨h2,fs2,rfl,hx2⟩⟩
         ·repeat' first|refine sk77 ?_|intro b;conv=>whnf
          refine Bc.l ?_
          repeat' first|refine sk77 ?_|intro b;conv=>whnf
          exact⟨(p6,_,_,s14,[]),(aa2 cl2),cl9,⟨by simp only;omega,by simp only;omega⟩,hr14,by simpa using le14,PlainF.none,.inl rfl⟩
       ·repeat' first|refine sk77 ?_|intro b;conv=>whnf
        exact⟨(p5+1,_,_,s14,[]),(aa2 cl2),cl9,⟨by simp only;omega,by simp only;omega⟩,hr14,by simpa using le14,PlainF.none,.inl rfl⟩
      ·rintro⟨p7,fv7,rs7,sf7,p2⟩ ⟨⟨hp7,hp7'⟩,hr7,hle7,hP2,hp2⟩;simp only at hp7 hp7' hr7 hle7 hP2 hp2 ⊢;obtain⟨a17,c17,rfl⟩:=hr7.slice
       repeat' first|refine sk77 ?_|intro b;conv=>whnf
       refine Rs.c aa0 (m:=2) rfl rfl rfl rfl rfl rfl ?_
       repeat' first|refine sk77 ?_|intro b;conv=>whnf
       have hs1:∀ z,z∈aa6 (mkB bm xs p7::sk1)->z∈aa6 (mkB bm xs p7::kdB b7 (knm ks.length) lo (lo+atE xs (pos+1) 5) (.slice a17 rs7.length c17)::kdB b4 (knm ks.length) lo (lo+atE xs (pos+1) 5) (.slice a17 rs7.length c17)::(sf7++sk1)):=by
        intro z hz;simp only [aa6,List.map_cons,yB,zU,zO] at hz ⊢;rcases hz with hz|hz<;>simp [hz]
       have hs2:∀ z,z∈aa6 (mkB bm xs p7::sk1)->z∈aa6 (mkB bm xs p7::kdB b7 (knm ks.length) lo (lo+atE xs (pos+1) 5) (.slice a17 rs7.length c17)::kdB b4 (knm ks.length) lo (lo+atE xs (pos+1) 5) (.slice a17 rs7.length c17)::sk1):=by
        intro z hz;simp only [aa6,List.map_cons,yB,zU,zO] at hz ⊢;rcases hz with hz|hz<;>simp [hz]
       refine Rt.by (σ':=mkB bm xs p7::sk1) (d':=kndD ⟨knm ks.length,lo,lo+atE xs (pos+1) 5,idF idl::(f1++(f2++(fs1++p2)))⟩) (Vs.vd ⟨kdB b7 (knm ks.length) lo (lo+atE xs (pos+1) 5) (.slice a17 rs7.length c17)::kdB b4 (knm ks.length) lo (lo+atE xs (pos+1) 5) (.slice a17 rs7.length c17)::sf7,by (refine ac3 fun a=>?_;simp only [kdB,mkB,List.append_eq,List.nil_append,ac4,af0,ae9,sD,iD,bD];omega)⟩ (Vd.agg (.cons (Vd.same hs1 _) (.cons (Vd.same hs1 _) (.cons (Vd.same hs1 _) (.cons (Vd.rowLe (ρ:=mkB bm xs p7::kdB b7 (knm ks.length) lo (lo+atE xs (pos+1) 5) (.slice a17 rs7.length c17)::kdB b4 (knm ks.length) lo (lo+atE xs (pos+1) 5) (.slice a17 rs7.length c17)::sk1) hr7 hle7 cl10 hs2) .nil)))))) ?_
       exact⟨p7,_,ks1,sk1,⟨by omega,by omega⟩,rfl,rfl,hkr1,⟨lo,atE xs (pos+1) 5,idl,f1,f2,fs1,p2,hlo,⟨h2.1,h2'⟩,hid,rfl,hRef,hf2,hP1,hP2,hp2⟩⟩
end
end Go.Proofs.YtlcfiilejnnlnaaGreatDoor
