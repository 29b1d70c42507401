/- A part of the proof: Hd Hk Jq O2. -/
import Derived.Test.YtjbbmjjildhfbaaGreatDoorP09
set_option maxRecDepth 100000
set_option maxHeartbeats 4000000
set_option linter.unusedVariables false
set_option linter.unusedSimpArgs false
namespace Go.Proofs.YtjbbmjjildhfbaaGreatDoor
section
open Go
abbrev aH7:ByteArray:=⟨#[111,114,100,101,114]⟩
abbrev be1:ByteArray:=⟨#[109,111,115,116]⟩
abbrev aH8:ByteArray:=⟨#[108,101,97,115,116]⟩
inductive RuleF (k:Knd):Rul→Prop
 | low (n:Int) (h:0≤am4 k.fields nLow) (hn:0≤n∧n<8):RuleF k ⟨aH7 ++ k.name.extract 0 1,k.name,nLow,nHigh,n - 2⟩
 | most (f:Fld) (n:Int) (h:0≤am4 k.fields nSize) (hf:k.fields[(am4 k.fields nSize).toNat]?=some f) (hn:0≤n∧n<12):RuleF k ⟨be1 ++ k.name.extract 0 1,k.name,nSize,nE,f.lo+n⟩
 | least (f:Fld) (n:Int) (h:0≤am4 k.fields nSize) (hf:k.fields[(am4 k.fields nSize).toNat]?=some f) (hn:0≤n∧n<12):RuleF k ⟨aH8 ++ k.name.extract 0 1,k.name,nE,nSize,n - f.hi⟩
theorem sk7 {A B:Prop} (k:B) (h:Hd7 B→A:=by intro hk7q;(first|refine sb0 ?_|refine sb5 ?_|((with_reducible refine' Cp.by ?hc ?_);(case hc=>exact aM7 _ _ hfl))|((with_reducible refine' CE.pure ?hc ?_);(case hc=>exact aM7 _ _ hfl)));exact hk7q.run):A:=h ⟨k⟩
theorem r09_rule (xs:List Int) (hx:I64s xs) (bm:Nat) (pos:Int) (hp:0≤pos∧pos≤100000000) (k:Knd) (hfl:k.fields.length≤1000000) (hnm:1≤k.name.size∧k.name.size≤12) (hsm:∀ f∈k.fields,(-100000≤f.lo∧f.lo≤100000)∧(-100000≤f.hi∧f.hi≤100000)) :
  ACall Tryz.prog 51 [ptr bm,kndD k] [mkB bm xs pos] (fun d σ=>∃ pos' r ok,(pos≤pos'∧pos'≤pos+20)∧d = .tup [rulD r,bD ok]∧σ=[mkB bm xs pos']∧(ok=true→RuleF k r)):=by
 have hex:(k.name.extract 0 (1:Int).toNat).size=1:=by
  rw [show (1:Int).toNat=1 from rfl,ByteArray.size_extract];omega
 refine aa4 mixed aa0 Tryz.func51 (by kernel_rfl) rfl Tryz.ntmps51 rfl ?_;intro BB
 repeat' (first|refine sk7 ?_|(intro b;conv=>whnf))
 generalize b=b4
 have fin:∀ (pos':Int) (r:Rul) (ok:Bool) (ρ:aa1),[mkB bm xs pos'].Sublist ρ→(pos≤pos'∧pos'≤pos+20)→(ok=true→RuleF k r)→Rt (fun d σ=>∃ pos' r ok,(pos≤pos'∧pos'≤pos+20)∧d = .tup [rulD r,bD ok]∧σ=[mkB bm xs pos']∧(ok=true→RuleF k r)) (.tup [rulD r,bD ok]) ρ:=fun pos' r ok ρ h0 h1 h2=>Rt.by (Vs.drop h0) ⟨_,_,_,h1,rfl,rfl,h2⟩
 by_cases hl:0≤am4 k.fields nLow
 ·have ha:=ae0 xs pos 3
  have ha':=ha.2 (by omega)
  repeat' (first|refine sk7 ?_|(intro b;conv=>whnf))
  ((refine CE.own (aa7 xs hx bm _ _ ⟨by omega,by omega⟩) (show List.Perm (_ :: mkB bm xs _ :: _) ([mkB bm xs _] ++ (_ :: _)) from List.Perm.swap _ _ _) (fun s'=>s' ++ (_ :: _)) (fun s'=>List.Perm.refl _) ?_);(rintro _ _ ⟨rfl,rfl⟩))
  by_cases hpos:0<atE xs pos 3
  ·have hb:=ae0 xs (pos+1) 8
   have hb':=hb.2 (by omega)
   repeat' (first|refine sk7 ?_|(intro b;conv=>whnf))
   (refine Dr.r ?_;(((with_reducible refine W.mk ?_);(conv=>whnf)));refine Dm.r ?_;refine W.mk ?_)
   refine ax6 mixed aa0 rfl [0,1,2,3,4,5,6] 5 (.one 7 (.one 8 (.one 9 (.one 10 (.one 11 .done))))) (γ:=Unit) (fun _=>[(5,bD true),(29,iD (atE xs (pos+1) 8)),(30,iD (atE xs (pos+1) 8 - 2)),(31,rulD ⟨aH7 ++ k.name.extract 0 1,k.name,nLow,nHigh,atE xs (pos+1) 8 - 2⟩)]) (fun _=>[mkB bm xs (pos+1+1),(b4,.cells 105 (rulC ⟨aH7 ++ k.name.extract 0 1,k.name,nLow,nHigh,atE xs (pos+1) 8 - 2⟩))]) (fun _=>True) (by decide +kernel) ?_ ?_
   ·repeat' (first|refine sk7 ?_|(intro b;conv=>whnf)|((with_reducible refine Sd.go ?qs8 ?_);(case qs8=>(rw [hex];decide)))|(refine And.intro ?_ ?_ <;> (conv=>whnf))|((refine CE.own (aa7 xs hx bm _ _ ⟨by omega,by omega⟩) (List.Perm.refl ([mkB bm xs _] ++ _)) (fun s'=>s' ++ _) (fun s'=>List.Perm.refl _) ?_);(rintro _ _ ⟨rfl,rfl⟩))|((refine CE.own (aa7 xs hx bm _ _ ⟨by omega,by omega⟩) (show List.Perm (_ :: mkB bm xs _ :: _) ([mkB bm xs _] ++ (_ :: _)) from List.Perm.swap _ _ _) (fun s'=>s' ++ (_ :: _)) (fun s'=>List.Perm.refl _) ?_);(rintro _ _ ⟨rfl,rfl⟩)))
    all_goals exact ⟨(),(aa2 cl2),rfl,trivial⟩
   ·rintro - -
    repeat' (first|refine sk7 ?_|(intro b;conv=>whnf))
    refine Rs.ct aa0 (m:=1) rfl rfl rfl rfl rfl rfl rfl ?_
    repeat' (first|refine sk7 ?_|(intro b;conv=>whnf))
    exact fin _ ⟨aH7 ++ k.name.extract 0 1,k.name,nLow,nHigh,atE xs (pos+1) 8 - 2⟩ true _ (.cons_cons _ (List.nil_sublist _)) ⟨by omega,by omega⟩ (fun _=>RuleF.low _ hl ⟨by omega,by omega⟩)
  ·generalize hq:pos+1=q
   have hqb:pos≤q∧q≤pos+1:=⟨by omega,by omega⟩
   clear hq
   by_cases hs:am4 k.fields nSize<0
   ·repeat' (first|refine sk7 ?_|(intro b;conv=>whnf))
    first
     | refine Rs.ct aa0 (m:=1) rfl rfl rfl rfl rfl rfl rfl ?_
     | refine Rs.ct aa0 (m:=0) rfl rfl rfl rfl rfl rfl rfl ?_
    repeat' (first|refine sk7 ?_|(intro b;conv=>whnf))
    refine fin q ⟨nE,nE,nE,nE,0⟩ false _ ?_ ⟨by omega,by omega⟩ (fun h=>by cases h)
    first
     | exact .cons_cons _ (List.nil_sublist _)
     | exact .cons _ (.cons_cons _ (List.nil_sublist _))
   ·have hlt:am4 k.fields nSize<k.fields.length:=aT3 _ _
    have h0l:0≤am4 k.fields ⟨#[115,105,122,101]⟩:=Int.not_lt.1 hs
    obtain ⟨f,hf⟩:∃ f,k.fields[(am4 k.fields nSize).toNat]?=some f:=⟨_,List.getElem?_eq_getElem (by omega)⟩
    obtain ⟨⟨hf1,hf2⟩,hf3,hf4⟩:=hsm f (List.mem_of_getElem? hf)
    have hc:=ae0 xs q 2
    have hd:=ae0 xs (q+1) 12
    have hd':=hd.2 (by omega)
    repeat' (first|refine sk7 ?_|(intro b;conv=>whnf))
    refine CE.own (t:=[(b,.cells 111 (fldC f)),(b4,.cells 105 [.v (zv ZV.str),.v (zv ZV.str),.v (zv ZV.str),.v (zv ZV.str),.v (zv (ZV.int IntKind.i64))])]) (aa7 xs hx bm q 2 ⟨by omega,by omega⟩) ?hpm (fun s'=>s' ++ [(b,.cells 111 (fldC f)),(b4,.cells 105 [.v (zv ZV.str),.v (zv ZV.str),.v (zv ZV.str),.v (zv ZV.str),.v (zv (ZV.int IntKind.i64))])]) (fun s'=>List.Perm.refl _) ?_
    case hpm=>
     first
      | exact List.Perm.swap _ _ _
      | exact (List.Perm.cons _ (List.Perm.swap _ _ _)).trans (List.Perm.swap _ _ _)
    rintro _ _ ⟨rfl,rfl⟩
    by_cases hz:atE xs q 2=0
    ·repeat' (first|refine sk7 ?_|(intro b;conv=>whnf))
     (refine Dr.r ?_;(((with_reducible refine W.mk ?_);(conv=>whnf)));refine Dm.r ?_;refine W.mk ?_)
     refine ax6 mixed aa0 rfl [0,1,2,3,4,5,6,8] 6 (.two 7 (.one 9 (.one 10 (.one 11 (.one 12 (.one 13 .done))))) 9 (.one 7 (.one 10 (.one 11 (.one 12 (.one 13 .done)))))) (γ:=Unit) (fun _=>[(5,bD true),(50,iD f.lo),(52,iD (atE xs (q+1) 12)),(53,iD (f.lo+atE xs (q+1) 12)),(54,rulD ⟨be1 ++ k.name.extract 0 1,k.name,nSize,nE,f.lo+atE xs (q+1) 12⟩)]) (fun _=>[mkB bm xs (q+1+1),(b,.cells 111 (fldC f)),(b4,.cells 105 (rulC ⟨be1 ++ k.name.extract 0 1,k.name,nSize,nE,f.lo+atE xs (q+1) 12⟩))]) (fun _=>True) (by decide +kernel) ?_ ?_
     ·repeat' (first|refine sk7 ?_|(intro b;conv=>whnf)|((with_reducible refine Sd.go ?qs8 ?_);(case qs8=>(rw [hex];decide)))|(refine And.intro ?_ ?_ <;> (conv=>whnf))|((refine CE.own (aa7 xs hx bm _ _ ⟨by omega,by omega⟩) (List.Perm.refl ([mkB bm xs _] ++ _)) (fun s'=>s' ++ _) (fun s'=>List.Perm.refl _) ?_);(rintro _ _ ⟨rfl,rfl⟩))|((refine CE.own (aa7 xs hx bm _ _ ⟨by omega,by omega⟩) (show List.Perm (_ :: mkB bm xs _ :: _) ([mkB bm xs _] ++ (_ :: _)) from List.Perm.swap _ _ _) (fun s'=>s' ++ (_ :: _)) (fun s'=>List.Perm.refl _) ?_);(rintro _ _ ⟨rfl,rfl⟩)))
      all_goals exact ⟨(),(aa2 cl2),rfl,trivial⟩
     ·rintro - -
      repeat' (first|refine sk7 ?_|(intro b;conv=>whnf))
      refine Rs.ct aa0 (m:=2) rfl rfl rfl rfl rfl rfl rfl ?_
      repeat' (first|refine sk7 ?_|(intro b;conv=>whnf))
      exact fin _ ⟨be1 ++ k.name.extract 0 1,k.name,nSize,nE,f.lo+atE xs (q+1) 12⟩ true _ (.cons_cons _ (List.nil_sublist _)) ⟨by omega,by omega⟩ (fun _=>RuleF.most f _ (by omega) hf ⟨by omega,by omega⟩)
    ·repeat' (first|refine sk7 ?_|(intro b;conv=>whnf))
     (refine Dr.r ?_;(((with_reducible refine W.mk ?_);(conv=>whnf)));refine Dm.r ?_;refine W.mk ?_)
     refine ax6 mixed aa0 rfl [0,1,2,3,4,5,6,8] 6 (.two 7 (.one 9 (.one 10 (.one 11 (.one 12 (.one 13 .done))))) 9 (.one 7 (.one 10 (.one 11 (.one 12 (.one 13 .done)))))) (γ:=Unit) (fun _=>[(5,bD true),(64,iD f.hi),(62,iD (atE xs (q+1) 12)),(65,iD (atE xs (q+1) 12 - f.hi)),(66,rulD ⟨aH8 ++ k.name.extract 0 1,k.name,nE,nSize,atE xs (q+1) 12 - f.hi⟩)]) (fun _=>[mkB bm xs (q+1+1),(b,.cells 111 (fldC f)),(b4,.cells 105 (rulC ⟨aH8 ++ k.name.extract 0 1,k.name,nE,nSize,atE xs (q+1) 12 - f.hi⟩))]) (fun _=>True) (by decide +kernel) ?_ ?_
     ·repeat' (first|refine sk7 ?_|(intro b;conv=>whnf)|((with_reducible refine Sd.go ?qs8 ?_);(case qs8=>(rw [hex];decide)))|(refine And.intro ?_ ?_ <;> (conv=>whnf))|((refine CE.own (aa7 xs hx bm _ _ ⟨by omega,by omega⟩) (List.Perm.refl ([mkB bm xs _] ++ _)) (fun s'=>s' ++ _) (fun s'=>List.Perm.refl _) ?_);(rintro _ _ ⟨rfl,rfl⟩))|((refine CE.own (aa7 xs hx bm _ _ ⟨by omega,by omega⟩) (show List.Perm (_ :: mkB bm xs _ :: _) ([mkB bm xs _] ++ (_ :: _)) from List.Perm.swap _ _ _) (fun s'=>s' ++ (_ :: _)) (fun s'=>List.Perm.refl _) ?_);(rintro _ _ ⟨rfl,rfl⟩)))
      all_goals exact ⟨(),(aa2 cl2),rfl,trivial⟩
     ·rintro - -
      repeat' (first|refine sk7 ?_|(intro b;conv=>whnf))
      refine Rs.ct aa0 (m:=2) rfl rfl rfl rfl rfl rfl rfl ?_
      repeat' (first|refine sk7 ?_|(intro b;conv=>whnf))
      exact fin _ ⟨aH8 ++ k.name.extract 0 1,k.name,nE,nSize,atE xs (q+1) 12 - f.hi⟩ true _ (.cons_cons _ (List.nil_sublist _)) ⟨by omega,by omega⟩ (fun _=>RuleF.least f _ (by omega) hf ⟨by omega,by omega⟩)
 ·skip
  by_cases hs:am4 k.fields nSize<0
  ·repeat' (first|refine sk7 ?_|(intro b;conv=>whnf))
   first
    | refine Rs.ct aa0 (m:=1) rfl rfl rfl rfl rfl rfl rfl ?_
    | refine Rs.ct aa0 (m:=0) rfl rfl rfl rfl rfl rfl rfl ?_
   repeat' (first|refine sk7 ?_|(intro b;conv=>whnf))
   refine fin pos ⟨nE,nE,nE,nE,0⟩ false _ ?_ ⟨by omega,by omega⟩ (fun h=>by cases h)
   first
    | exact .cons_cons _ (List.nil_sublist _)
    | exact .cons _ (.cons_cons _ (List.nil_sublist _))
  ·have hlt:am4 k.fields nSize<k.fields.length:=aT3 _ _
   have h0l:0≤am4 k.fields ⟨#[115,105,122,101]⟩:=Int.not_lt.1 hs
   obtain ⟨f,hf⟩:∃ f,k.fields[(am4 k.fields nSize).toNat]?=some f:=⟨_,List.getElem?_eq_getElem (by omega)⟩
   obtain ⟨⟨hf1,hf2⟩,hf3,hf4⟩:=hsm f (List.mem_of_getElem? hf)
   have hc:=ae0 xs pos 2
   have hd:=ae0 xs (pos+1) 12
   have hd':=hd.2 (by omega)
   repeat' (first|refine sk7 ?_|(intro b;conv=>whnf))
   refine CE.own (t:=[(b,.cells 111 (fldC f)),(b4,.cells 105 [.v (zv ZV.str),.v (zv ZV.str),.v (zv ZV.str),.v (zv ZV.str),.v (zv (ZV.int IntKind.i64))])]) (aa7 xs hx bm pos 2 ⟨by omega,by omega⟩) ?hpm (fun s'=>s' ++ [(b,.cells 111 (fldC f)),(b4,.cells 105 [.v (zv ZV.str),.v (zv ZV.str),.v (zv ZV.str),.v (zv ZV.str),.v (zv (ZV.int IntKind.i64))])]) (fun s'=>List.Perm.refl _) ?_
   case hpm=>
    first
     | exact List.Perm.swap _ _ _
     | exact (List.Perm.cons _ (List.Perm.swap _ _ _)).trans (List.Perm.swap _ _ _)
   rintro _ _ ⟨rfl,rfl⟩
   by_cases hz:atE xs pos 2=0
   ·repeat' (first|refine sk7 ?_|(intro b;conv=>whnf))
    (refine Dr.r ?_;(((with_reducible refine W.mk ?_);(conv=>whnf)));refine Dm.r ?_;refine W.mk ?_)
    refine ax6 mixed aa0 rfl [0,1,2,3,4,5,6,8] 6 (.two 7 (.one 9 (.one 10 (.one 11 (.one 12 (.one 13 .done))))) 9 (.one 7 (.one 10 (.one 11 (.one 12 (.one 13 .done)))))) (γ:=Unit) (fun _=>[(5,bD true),(50,iD f.lo),(52,iD (atE xs (pos+1) 12)),(53,iD (f.lo+atE xs (pos+1) 12)),(54,rulD ⟨be1 ++ k.name.extract 0 1,k.name,nSize,nE,f.lo+atE xs (pos+1) 12⟩)]) (fun _=>[mkB bm xs (pos+1+1),(b,.cells 111 (fldC f)),(b4,.cells 105 (rulC ⟨be1 ++ k.name.extract 0 1,k.name,nSize,nE,f.lo+atE xs (pos+1) 12⟩))]) (fun _=>True) (by decide +kernel) ?_ ?_
    ·repeat' (first|refine sk7 ?_|(intro b;conv=>whnf)|((with_reducible refine Sd.go ?qs8 ?_);(case qs8=>(rw [hex];decide)))|(refine And.intro ?_ ?_ <;> (conv=>whnf))|((refine CE.own (aa7 xs hx bm _ _ ⟨by omega,by omega⟩) (List.Perm.refl ([mkB bm xs _] ++ _)) (fun s'=>s' ++ _) (fun s'=>List.Perm.refl _) ?_);(rintro _ _ ⟨rfl,rfl⟩))|((refine CE.own (aa7 xs hx bm _ _ ⟨by omega,by omega⟩) (show List.Perm (_ :: mkB bm xs _ :: _) ([mkB bm xs _] ++ (_ :: _)) from List.Perm.swap _ _ _) (fun s'=>s' ++ (_ :: _)) (fun s'=>List.Perm.refl _) ?_);(rintro _ _ ⟨rfl,rfl⟩)))
     all_goals exact ⟨(),(aa2 cl2),rfl,trivial⟩
    ·rintro - -
     repeat' (first|refine sk7 ?_|(intro b;conv=>whnf))
     refine Rs.ct aa0 (m:=2) rfl rfl rfl rfl rfl rfl rfl ?_
     repeat' (first|refine sk7 ?_|(intro b;conv=>whnf))
     exact fin _ ⟨be1 ++ k.name.extract 0 1,k.name,nSize,nE,f.lo+atE xs (pos+1) 12⟩ true _ (.cons_cons _ (List.nil_sublist _)) ⟨by omega,by omega⟩ (fun _=>RuleF.most f _ (by omega) hf ⟨by omega,by omega⟩)
   ·repeat' (first|refine sk7 ?_|(intro b;conv=>whnf))
    (refine Dr.r ?_;(((with_reducible refine W.mk ?_);(conv=>whnf)));refine Dm.r ?_;refine W.mk ?_)
    refine ax6 mixed aa0 rfl [0,1,2,3,4,5,6,8] 6 (.two 7 (.one 9 (.one 10 (.one 11 (.one 12 (.one 13 .done))))) 9 (.one 7 (.one 10 (.one 11 (.one 12 (.one 13 .done)))))) (γ:=Unit) (fun _=>[(5,bD true),(64,iD f.hi),(62,iD (atE xs (pos+1) 12)),(65,iD (atE xs (pos+1) 12 - f.hi)),(66,rulD ⟨aH8 ++ k.name.extract 0 1,k.name,nE,nSize,atE xs (pos+1) 12 - f.hi⟩)]) (fun _=>[mkB bm xs (pos+1+1),(b,.cells 111 (fldC f)),(b4,.cells 105 (rulC ⟨aH8 ++ k.name.extract 0 1,k.name,nE,nSize,atE xs (pos+1) 12 - f.hi⟩))]) (fun _=>True) (by decide +kernel) ?_ ?_
    ·repeat' (first|refine sk7 ?_|(intro b;conv=>whnf)|((with_reducible refine Sd.go ?qs8 ?_);(case qs8=>(rw [hex];decide)))|(refine And.intro ?_ ?_ <;> (conv=>whnf))|((refine CE.own (aa7 xs hx bm _ _ ⟨by omega,by omega⟩) (List.Perm.refl ([mkB bm xs _] ++ _)) (fun s'=>s' ++ _) (fun s'=>List.Perm.refl _) ?_);(rintro _ _ ⟨rfl,rfl⟩))|((refine CE.own (aa7 xs hx bm _ _ ⟨by omega,by omega⟩) (show List.Perm (_ :: mkB bm xs _ :: _) ([mkB bm xs _] ++ (_ :: _)) from List.Perm.swap _ _ _) (fun s'=>s' ++ (_ :: _)) (fun s'=>List.Perm.refl _) ?_);(rintro _ _ ⟨rfl,rfl⟩)))
     all_goals exact ⟨(),(aa2 cl2),rfl,trivial⟩
    ·rintro - -
     repeat' (first|refine sk7 ?_|(intro b;conv=>whnf))
     refine Rs.ct aa0 (m:=2) rfl rfl rfl rfl rfl rfl rfl ?_
     repeat' (first|refine sk7 ?_|(intro b;conv=>whnf))
     exact fin _ ⟨aH8 ++ k.name.extract 0 1,k.name,nE,nSize,atE xs (pos+1) 12 - f.hi⟩ true _ (.cons_cons _ (List.nil_sublist _)) ⟨by omega,by omega⟩ (fun _=>RuleF.least f _ (by omega) hf ⟨by omega,by omega⟩)
end
section
open Go
abbrev nId:ByteArray:=⟨#[105,100]⟩
abbrev nOf:ByteArray:=⟨#[111,102]⟩
abbrev nSame:ByteArray:=⟨#[115,97,109,101]⟩
abbrev nPart:ByteArray:=⟨#[112,97,114,116]⟩
abbrev ap4:ByteArray:=⟨#[116,111,116,97,108]⟩
abbrev nBy:ByteArray:=⟨#[98,121]⟩
abbrev aN3:ByteArray:=⟨#[112,101,114,115,111,110]⟩
abbrev nItem:ByteArray:=⟨#[105,116,101,109]⟩
def knm (n:Nat):ByteArray:=[aN3,aH7,nItem].getD n nE
def idF (lo:Int):Fld:=⟨nId,nE,nE,0,lo,0,[],[]⟩
def ofF (k:Knd) (lo hi:Int):Fld:=⟨nOf,k.name,nE,1,lo,hi,[],[]⟩
def at5 (nm:ByteArray):Fld:=⟨nSame,nm,nOf,8,0,0,[],[]⟩
def aj5 (a b:Int):Fld:=⟨nPart,ap4,nOf,7,a,a+b,[],[]⟩
def totF (nm:ByteArray):Fld:=⟨ap4,nm,nE,6,0,0,[],[]⟩
def byF (k:Knd):Fld:=⟨nBy,k.name,nE,1,0,8,[],[]⟩
inductive RefP (ks:List Knd) (nm:ByteArray):List Fld→List Knd→Prop
 | none (h:ks=[]):RefP ks nm [] ks
 | of (to:Nat) (y:Knd) (lo hi:Int) (sm:List Fld) (hy:ks[to]?=some y) (hl:lo=0∨lo=1) (hh:hi∈[4,3,8,2]) (hs:sm=[]∨∃ g,0≤ap5 y∧y.fields[(ap5 y).toNat]?=some g∧sm=[at5 g.name]):RefP ks nm (ofF y lo hi :: sm) ks
 | part (to:Nat) (y:Knd) (lo hi a b:Int) (sm:List Fld) (hy:ks[to]?=some y) (hl:lo=0∨lo=1) (hh:hi∈[4,3,8,2]) (hs:sm=[]∨∃ g,0≤ap5 y∧y.fields[(ap5 y).toNat]?=some g∧sm=[at5 g.name])
   (ht:am4 y.fields ap4<0) (ha:0≤a∧a<3) (hb:0≤b∧b<8):RefP ks nm (ofF y lo hi :: (sm ++ [aj5 a b])) (ks.set to ⟨y.name,y.lo,y.hi,y.fields ++ [totF nm]⟩)
structure KMade (ks:List Knd) (k:Knd) (ks':List Knd):Prop where
 ex:∃ lo r idl f1 f2 p1 p2,lo∈[(0:Int),1,2,4,1,2]∧(0≤r∧r<5)∧idl∈[(0:Int),1,100,-3]∧k=⟨knm ks.length,lo,lo+r,idF idl :: (f1 ++ (f2 ++ (p1 ++ p2)))⟩∧RefP ks (knm ks.length) f1 ks' ∧
  (f2=[]∨∃ y,ks[0]?=some y∧1<ks.length∧f2=[byF y])∧PlainF p1∧PlainF p2∧(p2=[]∨∃ g gs,p2=g :: gs∧am4 (idF idl :: (f1 ++ (f2 ++ p1))) g.name<0)
end
section
open Go Go.RowKit Go.Shelf
theorem spl_set1 {cs x:List D} {off m:Nat} {d:D} (h:∀ j,j<x.length→cs[off+j]?=x[j]?) (hm:m<x.length):spl cs off (x.set m d)=cs.set (off+m) d:=by
 have hl:off+x.length≤cs.length:=by
  have:=h (x.length - 1) (by omega)
  rw [List.getElem?_eq_getElem (by omega:x.length - 1<x.length)] at this
  have:=(List.getElem?_eq_some_iff.1 this).1
  omega
 unfold spl
 apply List.ext_getElem?
 intro i
 rw [List.getElem?_set,List.length_set]
 rcases Nat.lt_or_ge i off with h1|h1
 ·rw [List.append_assoc,List.getElem?_append_left (by rw [List.length_take];omega),List.getElem?_take,if_pos h1,if_neg (by omega)]
 ·rcases Nat.lt_or_ge i (off+x.length) with h2|h2
  ·rw [List.append_assoc,List.getElem?_append_right (by rw [List.length_take];omega),List.length_take,Nat.min_eq_left (by omega),List.getElem?_append_left (by rw [List.length_set];omega),List.getElem?_set]
   by_cases e:off+m=i
   ·rw [if_pos e,if_pos (by omega),if_pos (by omega),if_pos (by omega)]
   ·rw [if_neg e,if_neg (by omega),← h (i - off) (by omega),show off+(i - off)=i by omega]
  ·rw [List.getElem?_append_right (by rw [List.length_append,List.length_take,List.length_set];omega),List.length_append,List.length_take,List.length_set,Nat.min_eq_left (by omega),List.getElem?_drop,if_neg (by omega),show off+x.length+(i - (off+x.length))=i by omega]
theorem RowIs.put1 {e:TypeId} {k:Nat} {xs:List (List D)} {b n cap:Nat} {cs:List D} (h:RowIs e k xs (.slice (some ⟨b,0,none⟩) n cap) [(b,.cells e cs)]) {i m:Nat} {x:List D} {d:D} (hx:xs[i]?=some x) (hm:m<k):RowIs e k (xs.set i (x.set m d)) (.slice (some ⟨b,0,none⟩) n cap) [(b,.cells e (cs.set (i*k+m) d))]:=by
 have hil:=(List.getElem?_eq_some_iff.1 hx).1
 have hxk:=h.len x (List.mem_of_getElem? hx)
 obtain ⟨b',cap',cs',e1,e2,h3⟩:=h.get hx
 cases e1
 have e3:cs'=cs:=by
  have:=List.cons.inj e2
  simpa using this.1.symm
 subst e3
 have:=h.put hil (x':=x.set m d) (by rw [List.length_set];exact hxk)
 rw [spl_set1 (by rw [hxk];exact h3) (by omega)] at this
 exact this
end
section
open Go Go.RowKit Go.Shelf
section
variable {P:Program} {r:Option Nat} {n:Nat} {df:Nat} {ops:Array Oper} {Q:Pst} {a:List D} {σ:aa1} {md:Region.Mode}
def inE (l:List Nat) (i:Nat):Bool:=l.any (Nat.beq i)
inductive Or2 where
 | done
 | one (i:Nat) (t:Or2)
 | two (i:Nat) (t:Or2) (j:Nat) (u:Or2)
 | three (i:Nat) (t:Or2) (j:Nat) (u:Or2) (k:Nat) (v:Or2)
 | fst (i:Nat) (t:Or2)
def or2B (md:Region.Mode) (ops:Array Oper) (E:Nat→Bool):Nat→Or2→Array Bool→Bool
 | 0,.done,listed=>(Region.ready md ops listed).isEmpty
 | f+1,.one i t,listed=>decide (Region.ready md ops listed=[i]) && (E i && or2B md ops E f t (listed.setIfInBounds i true))
 | f+1,.two i t j u,listed=>decide (Region.ready md ops listed=[i,j]) && (E i && E j && (or2B md ops E f t (listed.setIfInBounds i true) && or2B md ops E f u (listed.setIfInBounds j true)))
 | f+1,.three i t j u k v,listed=>decide (Region.ready md ops listed=[i,j,k]) && (E i && E j && E k && (or2B md ops E f t (listed.setIfInBounds i true) && (or2B md ops E f u (listed.setIfInBounds j true) && or2B md ops E f v (listed.setIfInBounds k true))))
 | f+1,.fst i t,listed=>(Region.ready md ops listed).contains i && Region.free md ops listed i && !E i && or2B md ops E f t (listed.setIfInBounds i true)
 | _,_,_=>false
def gOr2 (P:Program) (r:Option Nat) (n:Nat) (df:Nat) (ops:Array Oper) (E:Nat→Bool) (L:List D→aa1→Prop):Or2→List D→aa1→Prop
 | .done,a,σ=>L a σ
 | .one i t,a,σ=>gOp P r n df ops E i (gOr2 P r n df ops E L t) a σ
 | .two i t j u,a,σ=>gOp P r n df ops E i (gOr2 P r n df ops E L t) a σ∧gOp P r n df ops E j (gOr2 P r n df ops E L u) a σ
 | .three i t j u k v,a,σ=>gOp P r n df ops E i (gOr2 P r n df ops E L t) a σ∧gOp P r n df ops E j (gOr2 P r n df ops E L u) a σ∧gOp P r n df ops E k (gOr2 P r n df ops E L v) a σ
 | .fst i t,a,σ=>∃ o d,ops[i]?=some o∧YsIn none P ops [] o d a∧gOr2 P r n df ops E L t (putD a o.dst d) σ
theorem ai8 {E:Nat→Bool} {L:List D→aa1→Prop}:∀ (f:Nat) (t:Or2) (listed:Array Bool) (a:List D) (σ:aa1),HeadInv md ops ops.size listed→or2B md ops E f t listed=true→gOr2 P r n df ops E L t a σ→gAny P r n df md ops E L f listed a σ
 | 0,.done,listed,a,σ,_,hB,h=>⟨by simpa [or2B] using hB,h⟩
 | f+1,.one i t,listed,a,σ,inv,hB,h=>by
  simp only [or2B,Bool.and_eq_true,decide_eq_true_eq] at hB
  refine ⟨fun h1=>(by rw [hB.1] at h1;cases h1),fun k hk=>?_⟩
  have hk2:=hk
  rw [hB.1] at hk
  have:k=i:=by simpa using hk
  subst this
  obtain ⟨_,o,ho,_⟩:=mem_ready.1 hk2
  exact ac5 (fun a' σ' h'=>ai8 f t _ a' σ' (inv.set hk2 (Array.getElem?_eq_some_iff.1 ho).1) hB.2.2 h') h
 | f+1,.two i t j u,listed,a,σ,inv,hB,h=>by
  simp only [or2B,Bool.and_eq_true,decide_eq_true_eq] at hB
  refine ⟨fun h1=>(by rw [hB.1] at h1;cases h1),fun k hk=>?_⟩
  have hk2:=hk
  rw [hB.1] at hk
  obtain ⟨_,o,ho,_⟩:=mem_ready.1 hk2
  have inv':=inv.set hk2 (Array.getElem?_eq_some_iff.1 ho).1
  have:k=i∨k=j:=by simpa using hk
  rcases this with rfl|rfl
  ·exact ac5 (fun a' σ' h'=>ai8 f t _ a' σ' inv' hB.2.2.1 h') h.1
  ·exact ac5 (fun a' σ' h'=>ai8 f u _ a' σ' inv' hB.2.2.2 h') h.2
 | f+1,.three i t j u l v,listed,a,σ,inv,hB,h=>by
  simp only [or2B,Bool.and_eq_true,decide_eq_true_eq] at hB
  refine ⟨fun h1=>(by rw [hB.1] at h1;cases h1),fun k hk=>?_⟩
  have hk2:=hk
  rw [hB.1] at hk
  obtain ⟨_,o,ho,_⟩:=mem_ready.1 hk2
  have inv':=inv.set hk2 (Array.getElem?_eq_some_iff.1 ho).1
  have:k=i∨k=j∨k=l:=by simpa using hk
  rcases this with rfl|rfl|rfl
  ·exact ac5 (fun a' σ' h'=>ai8 f t _ a' σ' inv' hB.2.2.1 h') h.1
  ·exact ac5 (fun a' σ' h'=>ai8 f u _ a' σ' inv' hB.2.2.2.1 h') h.2.1
  ·exact ac5 (fun a' σ' h'=>ai8 f v _ a' σ' inv' hB.2.2.2.2 h') h.2.2
 | f+1,.fst i t,listed,a,σ,inv,hB,h=>by
  simp only [or2B,Bool.and_eq_true,Bool.not_eq_true'] at hB
  obtain ⟨⟨⟨hr,hf⟩,hE⟩,hB'⟩:=hB
  obtain ⟨o,d,ho,hy,hk⟩:=h
  have hr':i∈Region.ready md ops listed:=by simpa using hr
  have hin:i<ops.size:=(Array.getElem?_eq_some_iff.1 ho).1
  have H:=ai8 f t _ _ _ (inv.set hr' hin) hB' hk
  exact an7 (S:=fun _=>True) ho hE (fun _ _ _ _ _ _ _=>trivial) f listed a σ inv (Region.free_spec ho hf) hr' trivial (fun s _=>hy.free s) H
 | 0,.one _ _,_,_,_,_,hB,_=>by cases hB
 | 0,.three _ _ _ _ _ _,_,_,_,_,hB,_=>by cases hB
 | 0,.two _ _ _ _,_,_,_,_,hB,_=>by cases hB
 | 0,.fst _ _,_,_,_,_,hB,_=>by cases hB
 | _+1,.done,_,_,_,_,hB,_=>by cases hB
def mixO2 (md:Region.Mode) (ops:Array Oper) (E:Nat→Bool) (f:Nat) (t:Or2):List Nat→Array Bool→Bool
 | [],listed=>or2B md ops E f t listed
 | i :: hs,listed=>(Region.ready md ops listed).contains i && Region.free md ops listed i && !E i && mixO2 md ops E f t hs (listed.setIfInBounds i true)
theorem aI3 {E:Nat→Bool} {L:List D→aa1→Prop} {f:Nat} {t:Or2}:∀ (hs:List Nat) (listed:Array Bool) (a:List D) (σ:aa1),HeadInv md ops ops.size listed→mixO2 md ops E f t hs listed=true →
  gLex P md ops E (gOr2 P r n df ops E L t) hs a σ→gAny P r n df md ops E L (hs.length+f) listed a σ
 | [],listed,a,σ,inv,hB,h=>by
  rw [show ([]:List Nat).length+f=f by simp]
  exact ai8 f t listed a σ inv hB h
 | i :: hs,listed,a,σ,inv,hB,h=>by
  simp only [mixO2,Bool.and_eq_true,Bool.not_eq_true'] at hB
  obtain ⟨⟨⟨hr,hf⟩,hE⟩,hB'⟩:=hB
  obtain ⟨o,d,ho,hy,hk⟩:=h
  have hr':i∈Region.ready md ops listed:=by simpa using hr
  have hin:i<ops.size:=(Array.getElem?_eq_some_iff.1 ho).1
  have H:=aI3 hs _ _ _ (inv.set hr' hin) hB' hk
  rw [show (i :: hs).length+f=(hs.length+f)+1 by simp;omega]
  rcases hy with ⟨hb,hy⟩|hy
  ·exact an7 (S:=fun s=>s=σ) ho hE (fun ls i1 i2 j hj e=>by rw [barB_ok hb ls i1 i2 j hj] at e;cases e) _ listed a σ inv (Region.free_spec ho hf) hr' rfl (fun s e=>by subst e;exact hy) H
  ·exact an7 (S:=fun _=>True) ho hE (fun _ _ _ _ _ _ _=>trivial) _ listed a σ inv (Region.free_spec ho hf) hr' trivial (fun s _=>hy.free s) H
theorem bh6 {id:Nat} {l:List Oper} (E:Nat→Bool) (hs:List Nat) (f:Nat) (t:Or2) (hm:P.follows .mixedOrders=true) (hl:hs.length+f=l.length) (hB:mixO2 .any l.toArray E f t hs (Array.replicate l.length false)=true)
  (h:gLex P .any l.toArray E (gOr2 P r n df l.toArray E (fun a σ=>Q .normal a σ) t) hs a σ):AWP P r n df (.region id l.toArray true) Q a σ:=by
 refine ⟨fun w X fr hst=>?_⟩
 have inv0:HeadInv .any l.toArray l.toArray.size (Array.replicate l.length false):=
  ⟨by simp,fun j oj _ hl=>(by rw [getD_replicate_false] at hl;cases hl),fun t ht ht'=>by omega⟩
 refine wpIn_region_any hm ?_
 have hx0:=az8 w
 have:=al1 (w0:=w) (σ0:=σ) (X:=X) _ _ _ _ fr { w with drawn:=w.drawn+1 } (Mv.of_ex hx0) (hst.ex hx0) (aI3 hs _ a σ inv0 hB h)
 rw [hl] at this
 have e:l.toArray.size=l.length:=by simp
 rw [e]
 exact this
theorem ao8 {E:Nat→Bool} {L L':List D→aa1→Prop} (h:∀ a σ,L a σ→L' a σ):∀ {t:Or2} {a:List D} {σ:aa1},gOr2 P r n df ops E L t a σ→gOr2 P r n df ops E L' t a σ
 | .done,_,_,hh=>h _ _ hh
 | .one _ _,_,_,hh=>ac5 (fun _ _=>ao8 h) hh
 | .two _ _ _ _,_,_,hh=>⟨ac5 (fun _ _=>ao8 h) hh.1,ac5 (fun _ _=>ao8 h) hh.2⟩
 | .three _ _ _ _ _ _,_,_,hh=>⟨ac5 (fun _ _=>ao8 h) hh.1,ac5 (fun _ _=>ao8 h) hh.2.1,ac5 (fun _ _=>ao8 h) hh.2.2⟩
 | .fst _ _,_,_,hh=>let ⟨o,d,h1,h2,h3⟩:=hh;⟨o,d,h1,h2,ao8 h h3⟩
end
section
variable {P:Program} {r:Option Nat} {n:Nat} {df:Nat} {N:Nat} {σ:aa1} {a:List D} {f:Frm} {T:TypeId→Option TI} {L:List Oper} {Q:Fst}
def exFst (P:Program) (T:TypeId→Option TI) (N:Nat) (L:List Oper) (i:Nat) (K:Frm→Prop) (f:Frm):Prop:=match L[i]? with
 | none=>False
 | some o=>exG L f o fun go=>match go with
  | true=>bif ah2 o.op then exY P T o f [] (fun d=>putK N o.dst d f K) else False
  | false=>putK N o.dst (.v undef) f K
def aQ7 (P:Program) (T:TypeId→Option TI) (r:Option Nat) (n:Nat) (df:Nat) (N:Nat) (L:List Oper) (K:Frm→aa1→Prop):Or2→Frm→aa1→Prop
 | .done,f,σ=>K f σ
 | .one i t,f,σ=>ay2 P T r n df N L i (aQ7 P T r n df N L K t) f σ
 | .two i t j u,f,σ=>ay2 P T r n df N L i (aQ7 P T r n df N L K t) f σ∧ay2 P T r n df N L j (aQ7 P T r n df N L K u) f σ
 | .three i t j u k v,f,σ=>ay2 P T r n df N L i (aQ7 P T r n df N L K t) f σ∧ay2 P T r n df N L j (aQ7 P T r n df N L K u) f σ∧ay2 P T r n df N L k (aQ7 P T r n df N L K v) f σ
 | .fst i t,f,σ=>exFst P T N L i (fun f'=>aQ7 P T r n df N L K t f' σ) f
theorem exFst_ok (hT:∀ t i,T t=some i→tiOf P t=some i) {i:Nat} {K:Frm→Prop} (h:exFst P T N L i K f) (hs:Sp N a f):∃ o d,L.toArray[i]?=some o∧YsIn none P L.toArray [] o d a∧∃ f',Sp N (putD a o.dst d) f'∧K f':=by
 unfold exFst at h
 split at h
 ·exact h.elim
 ·rename_i o ho
  have ho':L.toArray[i]?=some o:=by simpa using ho
  obtain ⟨go,hw,h1⟩:=aU0 (K:=fun go=>match go with
   | true=>bif ah2 o.op then exY P T o f [] (fun d=>putK N o.dst d f K) else False
   | false=>putK N o.dst (.v undef) f K) h hs
  cases go with
  | true=>
   obtain ⟨hn,h2⟩:=ae2 h1
   obtain ⟨d,hy,h3⟩:=aT9 hT h2
   obtain ⟨f',hs',h4⟩:=ad7 h3 hs
   exact ⟨o,d,ho',.inl ⟨hw,hn,.of (hy.le hs.le)⟩,f',hs',h4⟩
  | false=>
   obtain ⟨f',hs',h4⟩:=ad7 h1 hs
   exact ⟨o,_,ho',.inr ⟨hw,rfl⟩,f',hs',h4⟩
def au7 (p:Nat→Bool):Or2→Bool
 | .done=>true
 | .one i t=>p i && au7 p t
 | .two i t j u=>p i && (au7 p t && (p j && au7 p u))
 | .three i t j u k v=>p i && (au7 p t && (p j && (au7 p u && (p k && au7 p v))))
 | .fst _ t=>au7 p t
theorem as8 (hT:∀ t i,T t=some i→tiOf P t=some i) {E:Nat→Bool}:∀ {t:Or2} {K:Frm→aa1→Prop} {f:Frm} {σ:aa1} {a:List D},au7 E t=true→aQ7 P T r n df N L K t f σ→Sp N a f→gOr2 P r n df L.toArray E (fun a' σ'=>∃ f',Sp N a' f'∧K f' σ') t a σ
 | .done,K,f,σ,a,hE,h,hs=>⟨f,hs,h⟩
 | .one i t,K,f,σ,a,hE,h,hs=>by
  simp only [au7,Bool.and_eq_true] at hE
  exact aq1 hT hE.1 h hs (fun f' σ' a' h2 hs'=>as8 hT hE.2 h2 hs')
 | .two i t j u,K,f,σ,a,hE,h,hs=>by
  simp only [au7,Bool.and_eq_true] at hE
  exact ⟨aq1 hT hE.1 h.1 hs (fun f' σ' a' h2 hs'=>as8 hT hE.2.1 h2 hs'),aq1 hT hE.2.2.1 h.2 hs (fun f' σ' a' h2 hs'=>as8 hT hE.2.2.2 h2 hs')⟩
 | .three i t j u k v,K,f,σ,a,hE,h,hs=>by
  simp only [au7,Bool.and_eq_true] at hE
  exact ⟨aq1 hT hE.1 h.1 hs (fun f' σ' a' h2 hs'=>as8 hT hE.2.1 h2 hs'),aq1 hT hE.2.2.1 h.2.1 hs (fun f' σ' a' h2 hs'=>as8 hT hE.2.2.2.1 h2 hs'),aq1 hT hE.2.2.2.2.1 h.2.2 hs (fun f' σ' a' h2 hs'=>as8 hT hE.2.2.2.2.2 h2 hs')⟩
 | .fst i t,K,f,σ,a,hE,h,hs=>by
  simp only [au7] at hE
  obtain ⟨o,d,h1,h2,f',h3,h4⟩:=exFst_ok (K:=fun f'=>aQ7 P T r n df N L K t f' σ) hT h hs
  exact ⟨o,d,h1,h2,as8 hT hE h4 h3⟩
theorem aE1 (hm:P.follows .mixedOrders=true) (hT:∀ t i,T t=some i→tiOf P t=some i) {id:Nat} {O:Array Oper} (hO:O=L.toArray) (hs:List Nat) (fu:Nat) (E:Nat→Bool) (t:Or2) {γ:Type} (ps:γ→Frm) (S:γ→aa1) (I:γ→Prop)
  (hB:(Nat.beq (hs.length+fu) L.length && mixO2 .any L.toArray E fu t hs (Array.replicate L.length false) && au7 E t)=true)
  (h:W (exHs P T N L E σ hs (fun f1=>aQ7 P T r n df N L (fun f' σ'=>∃ g,chkF f' (ar0 (.region id O true) f (ps g))∧Sc σ' (S g)∧I g) t f1 σ) f))
  (kk:∀ g,I g→W (aE7 (ar0 (.region id O true) f (ps g)) fun F=>Q .normal F (S g))):Lp P r n df N (.region id O true) Q f σ:=by
 subst hO
 simp only [Bool.and_eq_true] at hB
 refine ⟨fun a hs'=>?_⟩
 refine aK2 (bh6 (Q:=fun e a' σ'=>e = .normal∧∃ f',Sp N a' f'∧∃ g,chkF f' (ar0 (.region id L.toArray true) f (ps g))∧Sc σ' (S g)∧I g) E hs fu t hm (Nat.eq_of_beq_eq_true hB.1.1) hB.1.2 (ay0 (fun a' σ' h'=>?_) (aB7 hT h.h hs'))) ?_
 ·obtain ⟨rfl,f',h1,h2⟩:=h'
  have:=as8 hT hB.2 h2 h1
  exact ao8 (fun a σ h=>⟨rfl,h⟩) this
 ·rintro e a' σ' ⟨rfl,f',h1,g,h2,h4,h3⟩
  exact ⟨S g,h4,_,h1.sub h2,ao9 (kk g h3).h⟩
end
end
end Go.Proofs.YtjbbmjjildhfbaaGreatDoor
