/- A part of the proof: Hc Hd Hk Jq O2. -/
import Derived.Test.YtjbbmjjildhfbaaGreatDoorW09
set_option maxRecDepth 100000
set_option maxHeartbeats 4000000
set_option linter.unusedVariables false
set_option linter.unusedSimpArgs false
namespace Go.Proofs.YtjbbmjjildhfbaaGreatDoor
section
open Go
abbrev nE:ByteArray:=⟨#[]⟩
abbrev nSize:ByteArray:=⟨#[115,105,122,101]⟩
abbrev nTag:ByteArray:=⟨#[116,97,103]⟩
abbrev aL0:ByteArray:=⟨#[98,111,114,110]⟩
abbrev nLeft:ByteArray:=⟨#[108,101,102,116]⟩
abbrev nState:ByteArray:=⟨#[115,116,97,116,101]⟩
abbrev nLife:ByteArray:=⟨#[108,105,102,101]⟩
abbrev nLow:ByteArray:=⟨#[108,111,119]⟩
abbrev nHigh:ByteArray:=⟨#[104,105,103,104]⟩
abbrev nRed:ByteArray:=⟨#[114,101,100]⟩
abbrev aP3:ByteArray:=⟨#[103,114,101,101,110]⟩
abbrev nBlue:ByteArray:=⟨#[98,108,117,101]⟩
inductive PlainF:List Fld→Prop
 | none:PlainF []
 | size (a b:Int) (ha:-5≤a∧a≤5) (hb:0≤b∧b<20):PlainF [⟨nSize,nE,nE,2,a,a+b,[],[]⟩]
 | tag (n:Nat) (ws:List Int) (hn:1≤n∧n≤3) (hw:ws.length=n) (h0:∀ w∈ws,0≤w∧w≤4) (h1:∃ w∈ws,1≤w):PlainF [⟨nTag,nE,nE,3,0,0,[nRed,aP3,nBlue].take n,ws⟩]
 | born (a b c d:Int) (ha:-200≤a∧a<200) (hb:0≤b∧b<60) (hc:0≤c∧c<3) (hd:0≤d∧d<30):PlainF [⟨aL0,nE,nE,4,a,a+b,[],[]⟩,⟨nLeft,aL0,nE,4,c,3+d,[],[]⟩]
 | state (a b:Int) (ha:0≤a∧a<3) (hb:0≤b∧b<4):PlainF [⟨nState,nLife,nE,5,a,a+b,[],[]⟩]
 | low (a b c d:Int) (ha:0≤a∧a<5) (hb:0≤b∧b<10) (hc:0≤c∧c<5) (hd:0≤d∧d<10):PlainF [⟨nLow,nE,nE,2,a,5+b,[],[]⟩,⟨nHigh,nE,nE,2,c,10+d,[],[]⟩]
abbrev nilD:D:=.v (.slice .none 0 0)
abbrev fldR (f:Fld) (w g:D):List D:=[sD f.name,sD f.of,sD f.up,iD f.kind,iD f.lo,iD f.hi,w,g]
theorem Vd.nil {σ τ:aa1} (k:Nat):Vd σ τ (.v (.slice .none 0 0)) (.sl k []):=fun w X u _ h=>by
 rw [h.val rfl]
 exact .sl k [] .none 0 (fun _ _=>undef) (by simp) (fun y hy=>by cases hy) (fun i y hy=>by simp at hy) (fun i y hy=>by simp at hy)
theorem Vd.row {σ τ ρ:aa1} {e:TypeId} {k:Nat} {xs:List (List D)} {v:Value} {s:aa1} (h:RowIs e k xs v s) (hp:σ.Perm (s ++ ρ)) (hsub:∀ b,b∈ab2 τ→b∈ab2 ρ):Vd σ τ (.v v) (.sl k xs):=
 fun w X u hs hr=>ak5 ((Vs.row h hp).run w X u hs hr).2 hsub
theorem sb5 {A B:Prop} (k:B) (h:Hd7 B→A:=by intro hk7q;(first|(with_reducible refine Bc.l ?_)|(with_reducible refine Bx.l ?_)|fail|((with_reducible refine Cb.go ?h ?_);(case h=>decide +kernel)));exact hk7q.run):A:=h ⟨k⟩
theorem sk6 {A B:Prop} (k:B) (h:Hd7 B→A:=by intro hk7q;(first|refine sb0 ?_|refine sb5 ?_|((with_reducible refine' Cp.by ?hc ?_);(case hc=>fail))|((with_reducible refine' CE.pure ?hc ?_);(case hc=>fail)));exact hk7q.run):A:=h ⟨k⟩
theorem cl4 {p:Prop} (h:p:=by repeat' (first|exact Vd3.nil|exact Vd2.nil|refine Vd3.cons ?_ ?_|refine Vd2.cons ?_ ?_|exact Vd.nil _|exact Vd.same (fun _ h=>h) _)):p:=h
theorem cl5 {p:Prop} (h:p:=by (refine ac3 fun a=>?_;simp only [List.append_eq,List.nil_append,ac4,ae7,af1,rfC,atC,iD,bD];omega)):p:=h
theorem cl6 {p:Prop} (h:p:=by (refine ac3 fun a=>?_;simp only [List.append_eq,List.nil_append,ac4,ae7,af1,rfC,atC,iD,bD];omega)):p:=h
theorem cl7 {p:Prop} (h:p:=by repeat (first|exact Chk.nil|refine Chk.cons rfl ?_|(refine Chk.cons (congrArg (fun n=>some (iD n)) ?h) ?_;(case h=>(first|omega|((try simp only [List.length_map,List.length_take,List.length_append,List.length_cons,List.length_nil,List.length_replicate,Nat.reduceAdd]);omega)))))):p:=h
theorem aF0 (xs:List Int) (hx:I64s xs) (bm:Nat) (pos:Int) (hp:0≤pos∧pos≤100000000):ACall Tryz.prog 72 [ptr bm] [mkB bm xs pos] (fun d σ=>∃ pos' fs,(pos≤pos'∧pos'≤pos+20)∧d=slF fs∧σ=[mkB bm xs pos']∧PlainF fs):=by
 refine aa3 mixed aa0 Tryz.func72 (by kernel_rfl) rfl Tryz.ntmps72 rfl ?_;intro BB
 repeat' (first|refine sk6 ?_|(intro b;conv=>whnf))
 (refine CE.own (an2 xs hx bm _ _ ⟨by omega,by omega⟩) (List.Perm.refl ([mkB bm xs _] ++ _)) (fun s'=>s' ++ _) (fun s'=>List.Perm.refl _) ?_)
 rintro _ _ ⟨r,rfl,⟨hr,hr'⟩,rfl⟩
 have hr':=hr' (by omega)
 by_cases e0:r=0
 ·repeat' (first|refine sk6 ?_|(intro b;conv=>whnf))
  (refine CE.own (an2 xs hx bm _ _ ⟨by omega,by omega⟩) (List.Perm.refl ([mkB bm xs _] ++ _)) (fun s'=>s' ++ _) (fun s'=>List.Perm.refl _) ?_)
  rintro _ _ ⟨a,rfl,⟨ha,ha'⟩,rfl⟩
  have ha':=ha' (by omega)
  repeat' (first|refine sk6 ?_|(intro b;conv=>whnf))
  (refine CE.own (an2 xs hx bm _ _ ⟨by omega,by omega⟩) (List.Perm.refl ([mkB bm xs _] ++ _)) (fun s'=>s' ++ _) (fun s'=>List.Perm.refl _) ?_)
  rintro _ _ ⟨b,rfl,⟨hb,hb'⟩,rfl⟩
  have hb':=hb' (by omega)
  repeat' (first|refine sk6 ?_|(intro b;conv=>whnf))
  exact Rt.by (Vs.vd ⟨[],List.Perm.refl _⟩ (Vd.sl (fun _ h=>h) cl4)) ⟨_,_,⟨by omega,by omega⟩,rfl,rfl,PlainF.size (a - 5) b ⟨by omega,by omega⟩ ⟨by omega,by omega⟩⟩
 by_cases e1:r=1
 ·repeat' (first|refine sk6 ?_|(intro b;conv=>whnf))
  (refine CE.own (an2 xs hx bm _ _ ⟨by omega,by omega⟩) (List.Perm.refl ([mkB bm xs _] ++ _)) (fun s'=>s' ++ _) (fun s'=>List.Perm.refl _) ?_)
  rintro _ _ ⟨c,rfl,⟨hc,hc'⟩,rfl⟩
  have hc':=hc' (by omega)
  obtain ⟨n,hn,rfl⟩:∃ n:Nat,n<3∧c=n:=⟨c.toNat,by omega,by omega⟩
  repeat' (first|refine sk6 ?_|(intro b;conv=>whnf))
  generalize hW:(List.take (1+(n:Int)).toNat [[D.v (Value.string nRed)],[D.v (Value.string aP3)],[D.v (Value.string nBlue)]])=Wd
  have hWl:Wd.length=n+1:=by rw [← hW,List.length_take];simp;omega
  refine lp_perm (List.Perm.swap _ _ _) ?_
  refine aa6 mixed aa0 (γ:=List Int × Value × aa1) (fun g=>[(6,iD g.1.length)]) (fun g=>mkB bm xs (pos+2+g.1.length) :: (b,.cells 111 (fldR ⟨nTag,nE,nE,3,0,0,[],[]⟩ (.sl 1 Wd) (.v g.2.1))) :: g.2.2) (fun g=>g.1.length≤n+1∧(∀ z∈g.1,0≤z∧z≤4)∧RowIs 3 1 (g.1.map fun z=>[iD z]) g.2.1 g.2.2) (fun g=>n+1 - g.1.length) ([],.slice none 0 0,[]) (aa2 cl2) (by simp only [List.length_nil];rw [show pos+2+((0:Nat):Int)=pos+1+1 by omega];exact cl3) ⟨Nat.zero_le _,(by simp),RowIs.nil _ _⟩ ?_
  ·rintro ⟨ws,v,s⟩ ⟨hwl,hw,hrow⟩
   simp only at hwl hw hrow ⊢
   by_cases hlt:ws.length<n+1
   ·have hb:=af2 xs (pos+2+ws.length) 5
    have hb':=hb.2 (by omega)
    repeat' (first|refine sk6 ?_|(intro b;conv=>whnf))
    (refine Dr.r ?_;(((with_reducible refine W.mk ?_);(conv=>whnf)));refine Dm.r ?_;refine W.mk ?_)
    refine aA1 mixed aa0 rfl [0,2] 6 (.two 1 (.one 3 (.one 4 (.one 5 (.one 6 (.one 7 .done))))) 3 (.two 1 (.one 4 (.one 5 (.one 6 (.one 7 .done)))) 4 (.one 1 (.one 5 (.one 6 (.one 7 .done)))))) (γ:=Value × aa1) (fun g=>[(39,.v v),(41,iD (atE xs (pos+2+ws.length) 5)),(42,.sl 1 [[iD (atE xs (pos+2+ws.length) 5)]]),(43,.v g.1),(44,.v (.pointer (some ⟨b,0+7,none⟩)))]) (fun g=>mkB bm xs (pos+2+ws.length+1) :: (b,.cells 111 (fldR ⟨nTag,nE,nE,3,0,0,[],[]⟩ (.sl 1 Wd) (.v g.1))) :: g.2) (fun g=>RowIs 3 1 ((ws ++ [atE xs (pos+2+ws.length) 5]).map fun z=>[iD z]) g.1 g.2) (by decide +kernel) ?_ ?_
    ·repeat' (first|refine sk6 ?_|(intro b;conv=>whnf))
     repeat' (first|refine sk6 ?_|(intro b;conv=>whnf)|(refine And.intro ?_ ?_ <;> (conv=>whnf))|((refine CE.own (aa8 xs hx bm _ _ ⟨by omega,by omega⟩) (List.Perm.refl ([mkB bm xs _] ++ _)) (fun s'=>s' ++ _) (fun s'=>List.Perm.refl _) ?_);(rintro _ _ ⟨rfl,rfl⟩))|((refine CE.own (aa8 xs hx bm _ _ ⟨by omega,by omega⟩) (show List.Perm (_ :: mkB bm xs _ :: _) ([mkB bm xs _] ++ (_ :: _)) from List.Perm.swap _ _ _) (fun s'=>s' ++ (_ :: _)) (fun s'=>List.Perm.refl _) ?_);(rintro _ _ ⟨rfl,rfl⟩))|(refine Ap.go rfl rfl rfl rfl hrow (τ:=[mkB bm xs (pos+2+ws.length+1),(b,.cells 111 (fldR ⟨nTag,nE,nE,3,0,0,[],[]⟩ (.sl 1 Wd) (.v v)))]) cl5 rfl (zs:=(ws ++ [atE xs (pos+2+ws.length) 5]).map fun z=>[iD z]) (by simp) (by simp;omega) (by simp;omega) (fun s'=>mkB bm xs (pos+2+ws.length+1) :: (b,.cells 111 (fldR ⟨nTag,nE,nE,3,0,0,[],[]⟩ (.sl 1 Wd) (.v v))) :: s') (fun s'=>cl6) (fun a2 c2 s2 hr2=>?_)))
     all_goals exact ⟨(_,s2),(aa2 cl2),rfl,hr2⟩
    ·rintro ⟨v2,s2⟩ hr2
     generalize atE xs (pos+2+ws.length) 5=B at *
     simp only at hr2 ⊢
     repeat' (first|refine sk6 ?_|(intro b;conv=>whnf))
     refine ⟨(ws ++ [B],v2,s2),?_,?_,⟨by simp;omega,fun z hz=>?_,hr2⟩,by simp only [List.length_append,List.length_cons,List.length_nil];omega⟩
     ·simp only [List.length_append,List.length_cons,List.length_nil];exact (aa2 cl7)
     ·simp only [List.length_append,List.length_cons,List.length_nil]
      rw [show pos+2+((ws.length+(0+1):Nat):Int)=pos+2+ws.length+1 by omega]
      exact cl3
     ·rcases List.mem_append.1 hz with h|h
      ·exact hw z h
      ·rw [List.mem_singleton] at h;subst h;exact ⟨hb.1,by omega⟩
   ·have hwn:ws.length=n+1:=by omega
    rw [hwn]
    have hcn:=af2 xs (pos+2+(n+1:Nat)) (Wd.length:Nat)
    have hcn':=hcn.2 (by omega)
    have hdn:=af2 xs (pos+2+(n+1:Nat)+1) 3
    have hdn':=hdn.2 (by omega)
    obtain ⟨c,hcc⟩:∃ c:Nat,atE xs (pos+2+(n+1:Nat)) (Wd.length:Nat)=c:=⟨(atE xs (pos+2+(n+1:Nat)) (Wd.length:Nat)).toNat,by omega⟩
    have hcl:c<ws.length:=by omega
    obtain ⟨z,hz⟩:∃ z,ws[c]?=some z:=⟨_,List.getElem?_eq_getElem hcl⟩
    obtain ⟨b1,cap1,cs1,rfl,rfl,hc1,hset⟩:=aX2 (g:=iD) hrow hz
    have hc1l:=(List.getElem?_eq_some_iff.1 hc1).1
    repeat' (first|refine sk6 ?_|(intro b;conv=>whnf))
    (refine Dr.r ?_;(((with_reducible refine W.mk ?_);(conv=>whnf)));refine Dm.r ?_;refine W.mk ?_)
    refine aA1 mixed aa0 rfl [0,2,3,4,6] 6 (.two 1 (.one 5 (.one 7 (.one 8 (.one 9 (.one 10 .done))))) 5 (.two 1 (.one 7 (.one 8 (.one 9 (.one 10 .done)))) 7 (.two 1 (.one 8 (.one 9 (.one 10 .done))) 8 (.one 1 (.one 9 (.one 10 .done)))))) (γ:=Unit) (fun _=>[(46,.v (.slice (some ⟨b1,0,none⟩) ws.length cap1)),(50,iD (atE xs (pos+2+(n+1:Nat)) (Wd.length:Nat))),(52,iD (atE xs (pos+2+(n+1:Nat)+1) 3)),(53,iD (1+atE xs (pos+2+(n+1:Nat)+1) 3)),(54,.v (.pointer (some ⟨b1,0+(atE xs (pos+2+(n+1:Nat)) (Wd.length:Nat)).toNat*1,none⟩)))]) (fun _=>(b1,.cells 3 (cs1.set c (iD (1+atE xs (pos+2+(n+1:Nat)+1) 3)))) :: [mkB bm xs (pos+2+(n+1:Nat)+1+1),(b,.cells 111 (fldR ⟨nTag,nE,nE,3,0,0,[],[]⟩ (.sl 1 Wd) (.v (.slice (some ⟨b1,0,none⟩) ws.length cap1))))]) (fun _=>True) (by decide +kernel) ?_ ?_
    ·repeat' (first|refine sk6 ?_|(intro b;conv=>whnf))
     repeat' (first|refine sk6 ?_|(intro b;conv=>whnf)|(refine And.intro ?_ ?_ <;> (conv=>whnf))|((refine CE.own (aa8 xs hx bm _ _ ⟨by omega,by omega⟩) (List.Perm.refl ([mkB bm xs _] ++ _)) (fun s'=>s' ++ _) (fun s'=>List.Perm.refl _) ?_);(rintro _ _ ⟨rfl,rfl⟩))|((refine CE.own (aa8 xs hx bm _ _ ⟨by omega,by omega⟩) (show List.Perm (_ :: mkB bm xs _ :: _) ([mkB bm xs _] ++ (_ :: _)) from List.Perm.swap _ _ _) (fun s'=>s' ++ (_ :: _)) (fun s'=>List.Perm.refl _) ?_);(rintro _ _ ⟨rfl,rfl⟩))|(refine Sv.cellm (tb:=3) (cs:=cs1) (cs':=cs1.set c (iD (1+atE xs (pos+2+(n+1:Nat)+1) 3))) (τ:=[mkB bm xs (pos+2+(n+1:Nat)+1+1),(b,.cells 111 (fldR ⟨nTag,nE,nE,3,0,0,[],[]⟩ (.sl 1 Wd) (.v (.slice (some ⟨b1,0,none⟩) ws.length cap1))))]) cl5 (by rw [hcc,ix1];exact hc1l) rfl (by rw [hcc,ix1]) ?_))
     all_goals exact ⟨(),(aa2 cl2),rfl,trivial⟩
    ·rintro - -
     have hrow2:=hset (1+atE xs (pos+2+(n+1:Nat)+1) 3)
     generalize atE xs (pos+2+(n+1:Nat)+1) 3=E at *
     have hWd:Wd=([nRed,aP3,nBlue].take (n+1)).map fun x=>[sD x]:=by
      rw [← hW,show (1+(n:Int)).toNat=n+1 by omega,List.map_take];rfl
     repeat' (first|refine sk6 ?_|(intro b;conv=>whnf))
     rw [hWd]
     have hs:∀ x,x∈ab2 [mkB bm xs (pos+2+(n+1:Nat)+1+1)]→x∈ab2 ((b1,Blk.cells 3 (cs1.set c (iD (1+E)))) :: [mkB bm xs (pos+2+(n+1:Nat)+1+1),(b,.cells 111 (fldR ⟨nTag,nE,nE,3,0,0,[],[]⟩ (.sl 1 (([nRed,aP3,nBlue].take (n+1)).map fun x=>[sD x])) (.v (.slice (some ⟨b1,0,none⟩) ws.length cap1))))]):=fun x h=>by simp [ab2] at h ⊢;exact .inr (.inl h)
     refine Rt.by (Vs.vd ⟨[(b1,Blk.cells 3 (cs1.set c (iD (1+E)))),(b,.cells 111 (fldR ⟨nTag,nE,nE,3,0,0,[],[]⟩ (.sl 1 (([nRed,aP3,nBlue].take (n+1)).map fun x=>[sD x])) (.v (.slice (some ⟨b1,0,none⟩) ws.length cap1))))],by (refine ac3 fun a=>?_;simp only [List.append_eq,List.nil_append,ac4,ae7,af1,rfC,atC,iD,bD];omega)⟩ (Vd.sl hs (.cons (.cons (Vd.same hs _) (.cons (Vd.same hs _) (.cons (Vd.same hs _) (.cons (Vd.same hs _) (.cons (Vd.same hs _) (.cons (Vd.same hs _) (.cons (Vd.same hs _) (.cons (Vd.row hrow2 (List.Perm.refl _) (fun x h=>by simp [ab2] at h ⊢;exact .inl h)) .nil)))))))) .nil))) ⟨_,_,⟨?_,?_⟩,rfl,rfl,PlainF.tag (n+1) (ws.set c (1+E)) ⟨by omega,by omega⟩ (by rw [List.length_set];omega) (fun z hz=>?_) ⟨1+E,?_,by omega⟩⟩
     ·omega
     ·omega
     ·rcases List.mem_or_eq_of_mem_set hz with h|rfl
      ·exact hw z h
      ·omega
     ·exact List.mem_set hcl _
 by_cases e2:r=2
 ·repeat' (first|refine sk6 ?_|(intro b;conv=>whnf))
  (refine CE.own (an2 xs hx bm _ _ ⟨by omega,by omega⟩) (List.Perm.refl ([mkB bm xs _] ++ _)) (fun s'=>s' ++ _) (fun s'=>List.Perm.refl _) ?_)
  rintro _ _ ⟨a,rfl,⟨ha,ha'⟩,rfl⟩
  have ha':=ha' (by omega)
  repeat' (first|refine sk6 ?_|(intro b;conv=>whnf))
  have hb:=af2 xs (pos+1+1) 60
  have hb':=hb.2 (by omega)
  (refine Dr.r ?_;(((with_reducible refine W.mk ?_);(conv=>whnf)));refine Dm.r ?_;refine W.mk ?_)
  refine aA1 mixed aa0 rfl [0,2] 5 (.two 1 (.one 3 (.one 4 (.one 5 (.one 6 .done)))) 3 (.one 1 (.one 4 (.one 5 (.one 6 .done))))) (γ:=Unit) (fun _=>[(64,iD (a - 200)),(66,iD (atE xs (pos+1+1) 60)),(67,iD (a - 200+atE xs (pos+1+1) 60)),(68,.v (.pointer (some ⟨b,0+5,none⟩)))]) (fun _=>[mkB bm xs (pos+1+1+1),(b,.cells 111 (fldR ⟨aL0,nE,nE,4,a - 200,a - 200+atE xs (pos+1+1) 60,[],[]⟩ nilD nilD))]) (fun _=>True) (by decide +kernel) ?_ ?_
  ·repeat' (first|refine sk6 ?_|(intro b;conv=>whnf))
   repeat' (first|refine sk6 ?_|(intro b;conv=>whnf)|(refine And.intro ?_ ?_ <;> (conv=>whnf))|((refine CE.own (aa8 xs hx bm _ _ ⟨by omega,by omega⟩) (List.Perm.refl ([mkB bm xs _] ++ _)) (fun s'=>s' ++ _) (fun s'=>List.Perm.refl _) ?_);(rintro _ _ ⟨rfl,rfl⟩))|((refine CE.own (aa8 xs hx bm _ _ ⟨by omega,by omega⟩) (show List.Perm (_ :: mkB bm xs _ :: _) ([mkB bm xs _] ++ (_ :: _)) from List.Perm.swap _ _ _) (fun s'=>s' ++ (_ :: _)) (fun s'=>List.Perm.refl _) ?_);(rintro _ _ ⟨rfl,rfl⟩)))
   all_goals exact ⟨(),(aa2 cl2),rfl,trivial⟩
  ·rintro - -
   generalize atE xs (pos+1+1) 60=B at *
   have hc:=af2 xs (pos+1+1+1) 3
   have hc':=hc.2 (by omega)
   have hd:=af2 xs (pos+1+1+1+1) 30
   have hd':=hd.2 (by omega)
   repeat' (first|refine sk6 ?_|(intro b;conv=>whnf))
   (refine Dr.r ?_;refine W.mk ?_)
   refine aA1 mixed aa0 rfl [1,3] 7 (.two 0 (.one 2 (.one 4 (.one 5 (.one 6 (.one 7 (.one 8 .done)))))) 2 (.two 0 (.one 4 (.one 5 (.one 6 (.one 7 (.one 8 .done))))) 4 (.two 0 (.one 5 (.one 6 (.one 7 (.one 8 .done)))) 5 (.two 0 (.one 6 (.one 7 (.one 8 .done))) 6 (.one 0 (.one 7 (.one 8 .done))))))) (γ:=Unit) (fun _=>[(2,.sl 8 [fldR ⟨aL0,nE,nE,4,a - 200,a - 200+B,[],[]⟩ nilD nilD,fldR ⟨nLeft,aL0,nE,4,atE xs (pos+1+1+1) 3,3+atE xs (pos+1+1+1+1) 30,[],[]⟩ nilD nilD])]) (fun _=>[mkB bm xs (pos+1+1+1+1+1),(b,.cells 111 (fldR ⟨aL0,nE,nE,4,a - 200,a - 200+B,[],[]⟩ nilD nilD))]) (fun _=>True) (by decide +kernel) ?_ ?_
   ·repeat' (first|refine sk6 ?_|(intro b;conv=>whnf))
    repeat' (first|refine sk6 ?_|(intro b;conv=>whnf)|(refine And.intro ?_ ?_ <;> (conv=>whnf))|((refine CE.own (aa8 xs hx bm _ _ ⟨by omega,by omega⟩) (List.Perm.refl ([mkB bm xs _] ++ _)) (fun s'=>s' ++ _) (fun s'=>List.Perm.refl _) ?_);(rintro _ _ ⟨rfl,rfl⟩))|((refine CE.own (aa8 xs hx bm _ _ ⟨by omega,by omega⟩) (show List.Perm (_ :: mkB bm xs _ :: _) ([mkB bm xs _] ++ (_ :: _)) from List.Perm.swap _ _ _) (fun s'=>s' ++ (_ :: _)) (fun s'=>List.Perm.refl _) ?_);(rintro _ _ ⟨rfl,rfl⟩)))
    all_goals exact ⟨(),(aa2 cl2),rfl,trivial⟩
   ·rintro - -
    generalize atE xs (pos+1+1+1) 3=C at *
    generalize atE xs (pos+1+1+1+1) 30=E at *
    repeat' (first|refine sk6 ?_|(intro b;conv=>whnf))
    have hs:∀ x,x∈ab2 [mkB bm xs (pos+1+1+1+1+1)]→x∈ab2 [mkB bm xs (pos+1+1+1+1+1),(b,.cells 111 (fldR ⟨aL0,nE,nE,4,a - 200,a - 200+B,[],[]⟩ nilD nilD))]:=fun x h=>by simp [ab2] at h ⊢;exact .inl h
    exact Rt.by (Vs.vd ⟨[_],List.Perm.swap _ _ _⟩ (Vd.sl hs (by repeat' (first|exact Vd3.nil|exact Vd2.nil|refine Vd3.cons ?_ ?_|refine Vd2.cons ?_ ?_|exact Vd.nil _|exact Vd.same hs _)))) ⟨_,_,⟨by omega,by omega⟩,rfl,rfl,PlainF.born (a - 200) B C E ⟨by omega,by omega⟩ ⟨by omega,by omega⟩ ⟨by omega,by omega⟩ ⟨by omega,by omega⟩⟩
 by_cases e3:r=3
 ·repeat' (first|refine sk6 ?_|(intro b;conv=>whnf))
  (refine CE.own (an2 xs hx bm _ _ ⟨by omega,by omega⟩) (List.Perm.refl ([mkB bm xs _] ++ _)) (fun s'=>s' ++ _) (fun s'=>List.Perm.refl _) ?_)
  rintro _ _ ⟨a,rfl,⟨ha,ha'⟩,rfl⟩
  have ha':=ha' (by omega)
  repeat' (first|refine sk6 ?_|(intro b;conv=>whnf))
  (refine CE.own (an2 xs hx bm _ _ ⟨by omega,by omega⟩) (List.Perm.refl ([mkB bm xs _] ++ _)) (fun s'=>s' ++ _) (fun s'=>List.Perm.refl _) ?_)
  rintro _ _ ⟨b,rfl,⟨hb,hb'⟩,rfl⟩
  have hb':=hb' (by omega)
  repeat' (first|refine sk6 ?_|(intro b;conv=>whnf))
  exact Rt.by (Vs.vd ⟨[],List.Perm.refl _⟩ (Vd.sl (fun _ h=>h) cl4)) ⟨_,_,⟨by omega,by omega⟩,rfl,rfl,PlainF.state a b ⟨by omega,by omega⟩ ⟨by omega,by omega⟩⟩
 by_cases e4:r=4
 ·repeat' (first|refine sk6 ?_|(intro b;conv=>whnf))
  (refine CE.own (an2 xs hx bm _ _ ⟨by omega,by omega⟩) (List.Perm.refl ([mkB bm xs _] ++ _)) (fun s'=>s' ++ _) (fun s'=>List.Perm.refl _) ?_)
  rintro _ _ ⟨a,rfl,⟨ha,ha'⟩,rfl⟩
  have ha':=ha' (by omega)
  repeat' (first|refine sk6 ?_|(intro b;conv=>whnf))
  (refine CE.own (an2 xs hx bm _ _ ⟨by omega,by omega⟩) (List.Perm.refl ([mkB bm xs _] ++ _)) (fun s'=>s' ++ _) (fun s'=>List.Perm.refl _) ?_)
  rintro _ _ ⟨b,rfl,⟨hb,hb'⟩,rfl⟩
  have hb':=hb' (by omega)
  repeat' (first|refine sk6 ?_|(intro b;conv=>whnf))
  (refine CE.own (an2 xs hx bm _ _ ⟨by omega,by omega⟩) (List.Perm.refl ([mkB bm xs _] ++ _)) (fun s'=>s' ++ _) (fun s'=>List.Perm.refl _) ?_)
  rintro _ _ ⟨c,rfl,⟨hc,hc'⟩,rfl⟩
  have hc':=hc' (by omega)
  repeat' (first|refine sk6 ?_|(intro b;conv=>whnf))
  (refine CE.own (an2 xs hx bm _ _ ⟨by omega,by omega⟩) (List.Perm.refl ([mkB bm xs _] ++ _)) (fun s'=>s' ++ _) (fun s'=>List.Perm.refl _) ?_)
  rintro _ _ ⟨d,rfl,⟨hd,hd'⟩,rfl⟩
  have hd':=hd' (by omega)
  repeat' (first|refine sk6 ?_|(intro b;conv=>whnf))
  exact Rt.by (Vs.vd ⟨[],List.Perm.refl _⟩ (Vd.sl (fun _ h=>h) cl4)) ⟨_,_,⟨by omega,by omega⟩,rfl,rfl,PlainF.low a b c d ⟨by omega,by omega⟩ ⟨by omega,by omega⟩ ⟨by omega,by omega⟩ ⟨by omega,by omega⟩⟩
 ·repeat' (first|refine sk6 ?_|(intro b;conv=>whnf))
  exact Rt.by (Vs.vd ⟨[],List.Perm.refl _⟩ (Vd.nil 8)) ⟨_,_,⟨by omega,by omega⟩,rfl,rfl,PlainF.none⟩
end
section
open Go
abbrev aJ9:ByteArray:=⟨#[111,114,100,101,114]⟩
abbrev bg5:ByteArray:=⟨#[109,111,115,116]⟩
abbrev aK0:ByteArray:=⟨#[108,101,97,115,116]⟩
inductive RuleF (k:Knd):Rul→Prop
 | low (n:Int) (h:0≤ao8 k.fields nLow) (hn:0≤n∧n<8):RuleF k ⟨aJ9 ++ k.name.extract 0 1,k.name,nLow,nHigh,n - 2⟩
 | most (f:Fld) (n:Int) (h:0≤ao8 k.fields nSize) (hf:k.fields[(ao8 k.fields nSize).toNat]?=some f) (hn:0≤n∧n<12):RuleF k ⟨bg5 ++ k.name.extract 0 1,k.name,nSize,nE,f.lo+n⟩
 | least (f:Fld) (n:Int) (h:0≤ao8 k.fields nSize) (hf:k.fields[(ao8 k.fields nSize).toNat]?=some f) (hn:0≤n∧n<12):RuleF k ⟨aK0 ++ k.name.extract 0 1,k.name,nE,nSize,n - f.hi⟩
theorem sk7 {A B:Prop} (k:B) (h:Hd7 B→A:=by intro hk7q;(first|refine sb0 ?_|refine sb5 ?_|((with_reducible refine' Cp.by ?hc ?_);(case hc=>exact aO7 _ _ hfl))|((with_reducible refine' CE.pure ?hc ?_);(case hc=>exact aO7 _ _ hfl)));exact hk7q.run):A:=h ⟨k⟩
theorem r09_rule (xs:List Int) (hx:I64s xs) (bm:Nat) (pos:Int) (hp:0≤pos∧pos≤100000000) (k:Knd) (hfl:k.fields.length≤1000000) (hnm:1≤k.name.size∧k.name.size≤12) (hsm:∀ f∈k.fields,(-100000≤f.lo∧f.lo≤100000)∧(-100000≤f.hi∧f.hi≤100000)) :
  ACall Tryz.prog 51 [ptr bm,kndD k] [mkB bm xs pos] (fun d σ=>∃ pos' r ok,(pos≤pos'∧pos'≤pos+20)∧d = .tup [rulD r,bD ok]∧σ=[mkB bm xs pos']∧(ok=true→RuleF k r)):=by
 have hex:(k.name.extract 0 (1:Int).toNat).size=1:=by
  rw [show (1:Int).toNat=1 from rfl,ByteArray.size_extract];omega
 refine aa3 mixed aa0 Tryz.func51 (by kernel_rfl) rfl Tryz.ntmps51 rfl ?_;intro BB
 repeat' (first|refine sk7 ?_|(intro b;conv=>whnf))
 generalize b=b4
 have fin:∀ (pos':Int) (r:Rul) (ok:Bool) (ρ:aa1),[mkB bm xs pos'].Sublist ρ→(pos≤pos'∧pos'≤pos+20)→(ok=true→RuleF k r)→Rt (fun d σ=>∃ pos' r ok,(pos≤pos'∧pos'≤pos+20)∧d = .tup [rulD r,bD ok]∧σ=[mkB bm xs pos']∧(ok=true→RuleF k r)) (.tup [rulD r,bD ok]) ρ:=fun pos' r ok ρ h0 h1 h2=>Rt.by (Vs.drop h0) ⟨_,_,_,h1,rfl,rfl,h2⟩
 by_cases hl:0≤ao8 k.fields nLow
 ·have ha:=af2 xs pos 3
  have ha':=ha.2 (by omega)
  repeat' (first|refine sk7 ?_|(intro b;conv=>whnf))
  ((refine CE.own (aa8 xs hx bm _ _ ⟨by omega,by omega⟩) (show List.Perm (_ :: mkB bm xs _ :: _) ([mkB bm xs _] ++ (_ :: _)) from List.Perm.swap _ _ _) (fun s'=>s' ++ (_ :: _)) (fun s'=>List.Perm.refl _) ?_);(rintro _ _ ⟨rfl,rfl⟩))
  by_cases hpos:0<atE xs pos 3
  ·have hb:=af2 xs (pos+1) 8
   have hb':=hb.2 (by omega)
   repeat' (first|refine sk7 ?_|(intro b;conv=>whnf))
   (refine Dr.r ?_;(((with_reducible refine W.mk ?_);(conv=>whnf)));refine Dm.r ?_;refine W.mk ?_)
   refine aA1 mixed aa0 rfl [0,1,2,3,4,5,6] 5 (.one 7 (.one 8 (.one 9 (.one 10 (.one 11 .done))))) (γ:=Unit) (fun _=>[(5,bD true),(29,iD (atE xs (pos+1) 8)),(30,iD (atE xs (pos+1) 8 - 2)),(31,rulD ⟨aJ9 ++ k.name.extract 0 1,k.name,nLow,nHigh,atE xs (pos+1) 8 - 2⟩)]) (fun _=>[mkB bm xs (pos+1+1),(b4,.cells 105 (rulC ⟨aJ9 ++ k.name.extract 0 1,k.name,nLow,nHigh,atE xs (pos+1) 8 - 2⟩))]) (fun _=>True) (by decide +kernel) ?_ ?_
   ·repeat' (first|refine sk7 ?_|(intro b;conv=>whnf)|((with_reducible refine Sd.go ?qs8 ?_);(case qs8=>(rw [hex];decide)))|(refine And.intro ?_ ?_ <;> (conv=>whnf))|((refine CE.own (aa8 xs hx bm _ _ ⟨by omega,by omega⟩) (List.Perm.refl ([mkB bm xs _] ++ _)) (fun s'=>s' ++ _) (fun s'=>List.Perm.refl _) ?_);(rintro _ _ ⟨rfl,rfl⟩))|((refine CE.own (aa8 xs hx bm _ _ ⟨by omega,by omega⟩) (show List.Perm (_ :: mkB bm xs _ :: _) ([mkB bm xs _] ++ (_ :: _)) from List.Perm.swap _ _ _) (fun s'=>s' ++ (_ :: _)) (fun s'=>List.Perm.refl _) ?_);(rintro _ _ ⟨rfl,rfl⟩)))
    all_goals exact ⟨(),(aa2 cl2),rfl,trivial⟩
   ·rintro - -
    repeat' (first|refine sk7 ?_|(intro b;conv=>whnf))
    refine Rs.ct aa0 (m:=1) rfl rfl rfl rfl rfl rfl rfl ?_
    repeat' (first|refine sk7 ?_|(intro b;conv=>whnf))
    exact fin _ ⟨aJ9 ++ k.name.extract 0 1,k.name,nLow,nHigh,atE xs (pos+1) 8 - 2⟩ true _ (.cons_cons _ (List.nil_sublist _)) ⟨by omega,by omega⟩ (fun _=>RuleF.low _ hl ⟨by omega,by omega⟩)
  ·generalize hq:pos+1=q
   have hqb:pos≤q∧q≤pos+1:=⟨by omega,by omega⟩
   clear hq
   by_cases hs:ao8 k.fields nSize<0
   ·repeat' (first|refine sk7 ?_|(intro b;conv=>whnf))
    first
     | refine Rs.ct aa0 (m:=1) rfl rfl rfl rfl rfl rfl rfl ?_
     | refine Rs.ct aa0 (m:=0) rfl rfl rfl rfl rfl rfl rfl ?_
    repeat' (first|refine sk7 ?_|(intro b;conv=>whnf))
    refine fin q ⟨nE,nE,nE,nE,0⟩ false _ ?_ ⟨by omega,by omega⟩ (fun h=>by cases h)
    first
     | exact .cons_cons _ (List.nil_sublist _)
     | exact .cons _ (.cons_cons _ (List.nil_sublist _))
   ·have hlt:ao8 k.fields nSize<k.fields.length:=aU7 _ _
    have h0l:0≤ao8 k.fields ⟨#[115,105,122,101]⟩:=Int.not_lt.1 hs
    obtain ⟨f,hf⟩:∃ f,k.fields[(ao8 k.fields nSize).toNat]?=some f:=⟨_,List.getElem?_eq_getElem (by omega)⟩
    obtain ⟨⟨hf1,hf2⟩,hf3,hf4⟩:=hsm f (List.mem_of_getElem? hf)
    have hc:=af2 xs q 2
    have hd:=af2 xs (q+1) 12
    have hd':=hd.2 (by omega)
    repeat' (first|refine sk7 ?_|(intro b;conv=>whnf))
    refine CE.own (t:=[(b,.cells 111 (fldC f)),(b4,.cells 105 [.v (zv ZV.str),.v (zv ZV.str),.v (zv ZV.str),.v (zv ZV.str),.v (zv (ZV.int IntKind.i64))])]) (aa8 xs hx bm q 2 ⟨by omega,by omega⟩) ?hpm (fun s'=>s' ++ [(b,.cells 111 (fldC f)),(b4,.cells 105 [.v (zv ZV.str),.v (zv ZV.str),.v (zv ZV.str),.v (zv ZV.str),.v (zv (ZV.int IntKind.i64))])]) (fun s'=>List.Perm.refl _) ?_
    case hpm=>
     first
      | exact List.Perm.swap _ _ _
      | exact (List.Perm.cons _ (List.Perm.swap _ _ _)).trans (List.Perm.swap _ _ _)
    rintro _ _ ⟨rfl,rfl⟩
    by_cases hz:atE xs q 2=0
    ·repeat' (first|refine sk7 ?_|(intro b;conv=>whnf))
     (refine Dr.r ?_;(((with_reducible refine W.mk ?_);(conv=>whnf)));refine Dm.r ?_;refine W.mk ?_)
     refine aA1 mixed aa0 rfl [0,1,2,3,4,5,6,8] 6 (.two 7 (.one 9 (.one 10 (.one 11 (.one 12 (.one 13 .done))))) 9 (.one 7 (.one 10 (.one 11 (.one 12 (.one 13 .done)))))) (γ:=Unit) (fun _=>[(5,bD true),(50,iD f.lo),(52,iD (atE xs (q+1) 12)),(53,iD (f.lo+atE xs (q+1) 12)),(54,rulD ⟨bg5 ++ k.name.extract 0 1,k.name,nSize,nE,f.lo+atE xs (q+1) 12⟩)]) (fun _=>[mkB bm xs (q+1+1),(b,.cells 111 (fldC f)),(b4,.cells 105 (rulC ⟨bg5 ++ k.name.extract 0 1,k.name,nSize,nE,f.lo+atE xs (q+1) 12⟩))]) (fun _=>True) (by decide +kernel) ?_ ?_
     ·repeat' (first|refine sk7 ?_|(intro b;conv=>whnf)|((with_reducible refine Sd.go ?qs8 ?_);(case qs8=>(rw [hex];decide)))|(refine And.intro ?_ ?_ <;> (conv=>whnf))|((refine CE.own (aa8 xs hx bm _ _ ⟨by omega,by omega⟩) (List.Perm.refl ([mkB bm xs _] ++ _)) (fun s'=>s' ++ _) (fun s'=>List.Perm.refl _) ?_);(rintro _ _ ⟨rfl,rfl⟩))|((refine CE.own (aa8 xs hx bm _ _ ⟨by omega,by omega⟩) (show List.Perm (_ :: mkB bm xs _ :: _) ([mkB bm xs _] ++ (_ :: _)) from List.Perm.swap _ _ _) (fun s'=>s' ++ (_ :: _)) (fun s'=>List.Perm.refl _) ?_);(rintro _ _ ⟨rfl,rfl⟩)))
      all_goals exact ⟨(),(aa2 cl2),rfl,trivial⟩
     ·rintro - -
      repeat' (first|refine sk7 ?_|(intro b;conv=>whnf))
      refine Rs.ct aa0 (m:=2) rfl rfl rfl rfl rfl rfl rfl ?_
      repeat' (first|refine sk7 ?_|(intro b;conv=>whnf))
      exact fin _ ⟨bg5 ++ k.name.extract 0 1,k.name,nSize,nE,f.lo+atE xs (q+1) 12⟩ true _ (.cons_cons _ (List.nil_sublist _)) ⟨by omega,by omega⟩ (fun _=>RuleF.most f _ (by omega) hf ⟨by omega,by omega⟩)
    ·repeat' (first|refine sk7 ?_|(intro b;conv=>whnf))
     (refine Dr.r ?_;(((with_reducible refine W.mk ?_);(conv=>whnf)));refine Dm.r ?_;refine W.mk ?_)
     refine aA1 mixed aa0 rfl [0,1,2,3,4,5,6,8] 6 (.two 7 (.one 9 (.one 10 (.one 11 (.one 12 (.one 13 .done))))) 9 (.one 7 (.one 10 (.one 11 (.one 12 (.one 13 .done)))))) (γ:=Unit) (fun _=>[(5,bD true),(64,iD f.hi),(62,iD (atE xs (q+1) 12)),(65,iD (atE xs (q+1) 12 - f.hi)),(66,rulD ⟨aK0 ++ k.name.extract 0 1,k.name,nE,nSize,atE xs (q+1) 12 - f.hi⟩)]) (fun _=>[mkB bm xs (q+1+1),(b,.cells 111 (fldC f)),(b4,.cells 105 (rulC ⟨aK0 ++ k.name.extract 0 1,k.name,nE,nSize,atE xs (q+1) 12 - f.hi⟩))]) (fun _=>True) (by decide +kernel) ?_ ?_
     ·repeat' (first|refine sk7 ?_|(intro b;conv=>whnf)|((with_reducible refine Sd.go ?qs8 ?_);(case qs8=>(rw [hex];decide)))|(refine And.intro ?_ ?_ <;> (conv=>whnf))|((refine CE.own (aa8 xs hx bm _ _ ⟨by omega,by omega⟩) (List.Perm.refl ([mkB bm xs _] ++ _)) (fun s'=>s' ++ _) (fun s'=>List.Perm.refl _) ?_);(rintro _ _ ⟨rfl,rfl⟩))|((refine CE.own (aa8 xs hx bm _ _ ⟨by omega,by omega⟩) (show List.Perm (_ :: mkB bm xs _ :: _) ([mkB bm xs _] ++ (_ :: _)) from List.Perm.swap _ _ _) (fun s'=>s' ++ (_ :: _)) (fun s'=>List.Perm.refl _) ?_);(rintro _ _ ⟨rfl,rfl⟩)))
      all_goals exact ⟨(),(aa2 cl2),rfl,trivial⟩
     ·rintro - -
      repeat' (first|refine sk7 ?_|(intro b;conv=>whnf))
      refine Rs.ct aa0 (m:=2) rfl rfl rfl rfl rfl rfl rfl ?_
      repeat' (first|refine sk7 ?_|(intro b;conv=>whnf))
      exact fin _ ⟨aK0 ++ k.name.extract 0 1,k.name,nE,nSize,atE xs (q+1) 12 - f.hi⟩ true _ (.cons_cons _ (List.nil_sublist _)) ⟨by omega,by omega⟩ (fun _=>RuleF.least f _ (by omega) hf ⟨by omega,by omega⟩)
 ·skip
  by_cases hs:ao8 k.fields nSize<0
  ·repeat' (first|refine sk7 ?_|(intro b;conv=>whnf))
   first
    | refine Rs.ct aa0 (m:=1) rfl rfl rfl rfl rfl rfl rfl ?_
    | refine Rs.ct aa0 (m:=0) rfl rfl rfl rfl rfl rfl rfl ?_
   repeat' (first|refine sk7 ?_|(intro b;conv=>whnf))
   refine fin pos ⟨nE,nE,nE,nE,0⟩ false _ ?_ ⟨by omega,by omega⟩ (fun h=>by cases h)
   first
    | exact .cons_cons _ (List.nil_sublist _)
    | exact .cons _ (.cons_cons _ (List.nil_sublist _))
  ·have hlt:ao8 k.fields nSize<k.fields.length:=aU7 _ _
   have h0l:0≤ao8 k.fields ⟨#[115,105,122,101]⟩:=Int.not_lt.1 hs
   obtain ⟨f,hf⟩:∃ f,k.fields[(ao8 k.fields nSize).toNat]?=some f:=⟨_,List.getElem?_eq_getElem (by omega)⟩
   obtain ⟨⟨hf1,hf2⟩,hf3,hf4⟩:=hsm f (List.mem_of_getElem? hf)
   have hc:=af2 xs pos 2
   have hd:=af2 xs (pos+1) 12
   have hd':=hd.2 (by omega)
   repeat' (first|refine sk7 ?_|(intro b;conv=>whnf))
   refine CE.own (t:=[(b,.cells 111 (fldC f)),(b4,.cells 105 [.v (zv ZV.str),.v (zv ZV.str),.v (zv ZV.str),.v (zv ZV.str),.v (zv (ZV.int IntKind.i64))])]) (aa8 xs hx bm pos 2 ⟨by omega,by omega⟩) ?hpm (fun s'=>s' ++ [(b,.cells 111 (fldC f)),(b4,.cells 105 [.v (zv ZV.str),.v (zv ZV.str),.v (zv ZV.str),.v (zv ZV.str),.v (zv (ZV.int IntKind.i64))])]) (fun s'=>List.Perm.refl _) ?_
   case hpm=>
    first
     | exact List.Perm.swap _ _ _
     | exact (List.Perm.cons _ (List.Perm.swap _ _ _)).trans (List.Perm.swap _ _ _)
   rintro _ _ ⟨rfl,rfl⟩
   by_cases hz:atE xs pos 2=0
   ·repeat' (first|refine sk7 ?_|(intro b;conv=>whnf))
    (refine Dr.r ?_;(((with_reducible refine W.mk ?_);(conv=>whnf)));refine Dm.r ?_;refine W.mk ?_)
    refine aA1 mixed aa0 rfl [0,1,2,3,4,5,6,8] 6 (.two 7 (.one 9 (.one 10 (.one 11 (.one 12 (.one 13 .done))))) 9 (.one 7 (.one 10 (.one 11 (.one 12 (.one 13 .done)))))) (γ:=Unit) (fun _=>[(5,bD true),(50,iD f.lo),(52,iD (atE xs (pos+1) 12)),(53,iD (f.lo+atE xs (pos+1) 12)),(54,rulD ⟨bg5 ++ k.name.extract 0 1,k.name,nSize,nE,f.lo+atE xs (pos+1) 12⟩)]) (fun _=>[mkB bm xs (pos+1+1),(b,.cells 111 (fldC f)),(b4,.cells 105 (rulC ⟨bg5 ++ k.name.extract 0 1,k.name,nSize,nE,f.lo+atE xs (pos+1) 12⟩))]) (fun _=>True) (by decide +kernel) ?_ ?_
    ·repeat' (first|refine sk7 ?_|(intro b;conv=>whnf)|((with_reducible refine Sd.go ?qs8 ?_);(case qs8=>(rw [hex];decide)))|(refine And.intro ?_ ?_ <;> (conv=>whnf))|((refine CE.own (aa8 xs hx bm _ _ ⟨by omega,by omega⟩) (List.Perm.refl ([mkB bm xs _] ++ _)) (fun s'=>s' ++ _) (fun s'=>List.Perm.refl _) ?_);(rintro _ _ ⟨rfl,rfl⟩))|((refine CE.own (aa8 xs hx bm _ _ ⟨by omega,by omega⟩) (show List.Perm (_ :: mkB bm xs _ :: _) ([mkB bm xs _] ++ (_ :: _)) from List.Perm.swap _ _ _) (fun s'=>s' ++ (_ :: _)) (fun s'=>List.Perm.refl _) ?_);(rintro _ _ ⟨rfl,rfl⟩)))
     all_goals exact ⟨(),(aa2 cl2),rfl,trivial⟩
    ·rintro - -
     repeat' (first|refine sk7 ?_|(intro b;conv=>whnf))
     refine Rs.ct aa0 (m:=2) rfl rfl rfl rfl rfl rfl rfl ?_
     repeat' (first|refine sk7 ?_|(intro b;conv=>whnf))
     exact fin _ ⟨bg5 ++ k.name.extract 0 1,k.name,nSize,nE,f.lo+atE xs (pos+1) 12⟩ true _ (.cons_cons _ (List.nil_sublist _)) ⟨by omega,by omega⟩ (fun _=>RuleF.most f _ (by omega) hf ⟨by omega,by omega⟩)
   ·repeat' (first|refine sk7 ?_|(intro b;conv=>whnf))
    (refine Dr.r ?_;(((with_reducible refine W.mk ?_);(conv=>whnf)));refine Dm.r ?_;refine W.mk ?_)
    refine aA1 mixed aa0 rfl [0,1,2,3,4,5,6,8] 6 (.two 7 (.one 9 (.one 10 (.one 11 (.one 12 (.one 13 .done))))) 9 (.one 7 (.one 10 (.one 11 (.one 12 (.one 13 .done)))))) (γ:=Unit) (fun _=>[(5,bD true),(64,iD f.hi),(62,iD (atE xs (pos+1) 12)),(65,iD (atE xs (pos+1) 12 - f.hi)),(66,rulD ⟨aK0 ++ k.name.extract 0 1,k.name,nE,nSize,atE xs (pos+1) 12 - f.hi⟩)]) (fun _=>[mkB bm xs (pos+1+1),(b,.cells 111 (fldC f)),(b4,.cells 105 (rulC ⟨aK0 ++ k.name.extract 0 1,k.name,nE,nSize,atE xs (pos+1) 12 - f.hi⟩))]) (fun _=>True) (by decide +kernel) ?_ ?_
    ·repeat' (first|refine sk7 ?_|(intro b;conv=>whnf)|((with_reducible refine Sd.go ?qs8 ?_);(case qs8=>(rw [hex];decide)))|(refine And.intro ?_ ?_ <;> (conv=>whnf))|((refine CE.own (aa8 xs hx bm _ _ ⟨by omega,by omega⟩) (List.Perm.refl ([mkB bm xs _] ++ _)) (fun s'=>s' ++ _) (fun s'=>List.Perm.refl _) ?_);(rintro _ _ ⟨rfl,rfl⟩))|((refine CE.own (aa8 xs hx bm _ _ ⟨by omega,by omega⟩) (show List.Perm (_ :: mkB bm xs _ :: _) ([mkB bm xs _] ++ (_ :: _)) from List.Perm.swap _ _ _) (fun s'=>s' ++ (_ :: _)) (fun s'=>List.Perm.refl _) ?_);(rintro _ _ ⟨rfl,rfl⟩)))
     all_goals exact ⟨(),(aa2 cl2),rfl,trivial⟩
    ·rintro - -
     repeat' (first|refine sk7 ?_|(intro b;conv=>whnf))
     refine Rs.ct aa0 (m:=2) rfl rfl rfl rfl rfl rfl rfl ?_
     repeat' (first|refine sk7 ?_|(intro b;conv=>whnf))
     exact fin _ ⟨aK0 ++ k.name.extract 0 1,k.name,nE,nSize,atE xs (pos+1) 12 - f.hi⟩ true _ (.cons_cons _ (List.nil_sublist _)) ⟨by omega,by omega⟩ (fun _=>RuleF.least f _ (by omega) hf ⟨by omega,by omega⟩)
end
section
open Go
abbrev nId:ByteArray:=⟨#[105,100]⟩
abbrev nOf:ByteArray:=⟨#[111,102]⟩
abbrev nSame:ByteArray:=⟨#[115,97,109,101]⟩
abbrev nPart:ByteArray:=⟨#[112,97,114,116]⟩
abbrev ar5:ByteArray:=⟨#[116,111,116,97,108]⟩
abbrev nBy:ByteArray:=⟨#[98,121]⟩
abbrev aP2:ByteArray:=⟨#[112,101,114,115,111,110]⟩
abbrev nItem:ByteArray:=⟨#[105,116,101,109]⟩
def knm (n:Nat):ByteArray:=[aP2,aJ9,nItem].getD n nE
def idF (lo:Int):Fld:=⟨nId,nE,nE,0,lo,0,[],[]⟩
def ofF (k:Knd) (lo hi:Int):Fld:=⟨nOf,k.name,nE,1,lo,hi,[],[]⟩
def av9 (nm:ByteArray):Fld:=⟨nSame,nm,nOf,8,0,0,[],[]⟩
def ak6 (a b:Int):Fld:=⟨nPart,ar5,nOf,7,a,a+b,[],[]⟩
def totF (nm:ByteArray):Fld:=⟨ar5,nm,nE,6,0,0,[],[]⟩
def byF (k:Knd):Fld:=⟨nBy,k.name,nE,1,0,8,[],[]⟩
inductive RefP (ks:List Knd) (nm:ByteArray):List Fld→List Knd→Prop
 | none (h:ks=[]):RefP ks nm [] ks
 | of (to:Nat) (y:Knd) (lo hi:Int) (sm:List Fld) (hy:ks[to]?=some y) (hl:lo=0∨lo=1) (hh:hi∈[4,3,8,2]) (hs:sm=[]∨∃ g,0≤ar7 y∧y.fields[(ar7 y).toNat]?=some g∧sm=[av9 g.name]):RefP ks nm (ofF y lo hi :: sm) ks
 | part (to:Nat) (y:Knd) (lo hi a b:Int) (sm:List Fld) (hy:ks[to]?=some y) (hl:lo=0∨lo=1) (hh:hi∈[4,3,8,2]) (hs:sm=[]∨∃ g,0≤ar7 y∧y.fields[(ar7 y).toNat]?=some g∧sm=[av9 g.name])
   (ht:ao8 y.fields ar5<0) (ha:0≤a∧a<3) (hb:0≤b∧b<8):RefP ks nm (ofF y lo hi :: (sm ++ [ak6 a b])) (ks.set to ⟨y.name,y.lo,y.hi,y.fields ++ [totF nm]⟩)
structure KMade (ks:List Knd) (k:Knd) (ks':List Knd):Prop where
 ex:∃ lo r idl f1 f2 p1 p2,lo∈[(0:Int),1,2,4,1,2]∧(0≤r∧r<5)∧idl∈[(0:Int),1,100,-3]∧k=⟨knm ks.length,lo,lo+r,idF idl :: (f1 ++ (f2 ++ (p1 ++ p2)))⟩∧RefP ks (knm ks.length) f1 ks' ∧
  (f2=[]∨∃ y,ks[0]?=some y∧1<ks.length∧f2=[byF y])∧PlainF p1∧PlainF p2∧(p2=[]∨∃ g gs,p2=g :: gs∧ao8 (idF idl :: (f1 ++ (f2 ++ p1))) g.name<0)
end
section
open Go Go.RowKit Go.Shelf
theorem spl_set1 {cs x:List D} {off m:Nat} {d:D} (h:∀ j,j<x.length→cs[off+j]?=x[j]?) (hm:m<x.length):spl cs off (x.set m d)=cs.set (off+m) d:=by
 have hl:off+x.length≤cs.length:=by
  have:=h (x.length - 1) (by omega)
  rw [List.getElem?_eq_getElem (by omega:x.length - 1<x.length)] at this
  have:=(List.getElem?_eq_some_iff.1 this).1
  omega
 unfold spl
 apply List.ext_getElem?
 intro i
 rw [List.getElem?_set,List.length_set]
 rcases Nat.lt_or_ge i off with h1|h1
 ·rw [List.append_assoc,List.getElem?_append_left (by rw [List.length_take];omega),List.getElem?_take,if_pos h1,if_neg (by omega)]
 ·rcases Nat.lt_or_ge i (off+x.length) with h2|h2
  ·rw [List.append_assoc,List.getElem?_append_right (by rw [List.length_take];omega),List.length_take,Nat.min_eq_left (by omega),List.getElem?_append_left (by rw [List.length_set];omega),List.getElem?_set]
   by_cases e:off+m=i
   ·rw [if_pos e,if_pos (by omega),if_pos (by omega),if_pos (by omega)]
   ·rw [if_neg e,if_neg (by omega),← h (i - off) (by omega),show off+(i - off)=i by omega]
  ·rw [List.getElem?_append_right (by rw [List.length_append,List.length_take,List.length_set];omega),List.length_append,List.length_take,List.length_set,Nat.min_eq_left (by omega),List.getElem?_drop,if_neg (by omega),show off+x.length+(i - (off+x.length))=i by omega]
theorem RowIs.put1 {e:TypeId} {k:Nat} {xs:List (List D)} {b n cap:Nat} {cs:List D} (h:RowIs e k xs (.slice (some ⟨b,0,none⟩) n cap) [(b,.cells e cs)]) {i m:Nat} {x:List D} {d:D} (hx:xs[i]?=some x) (hm:m<k):RowIs e k (xs.set i (x.set m d)) (.slice (some ⟨b,0,none⟩) n cap) [(b,.cells e (cs.set (i*k+m) d))]:=by
 have hil:=(List.getElem?_eq_some_iff.1 hx).1
 have hxk:=h.len x (List.mem_of_getElem? hx)
 obtain ⟨b',cap',cs',e1,e2,h3⟩:=h.get hx
 cases e1
 have e3:cs'=cs:=by
  have:=List.cons.inj e2
  simpa using this.1.symm
 subst e3
 have:=h.put hil (x':=x.set m d) (by rw [List.length_set];exact hxk)
 rw [spl_set1 (by rw [hxk];exact h3) (by omega)] at this
 exact this
end
section
open Go Go.RowKit Go.Shelf
section
variable {P:Program} {r:Option Nat} {n:Nat} {df:Nat} {ops:Array Oper} {Q:Pst} {a:List D} {σ:aa1} {md:Region.Mode}
def inE (l:List Nat) (i:Nat):Bool:=l.any (Nat.beq i)
inductive Or2 where
 | done
 | one (i:Nat) (t:Or2)
 | two (i:Nat) (t:Or2) (j:Nat) (u:Or2)
 | three (i:Nat) (t:Or2) (j:Nat) (u:Or2) (k:Nat) (v:Or2)
 | fst (i:Nat) (t:Or2)
def or2B (md:Region.Mode) (ops:Array Oper) (E:Nat→Bool):Nat→Or2→Array Bool→Bool
 | 0,.done,listed=>(Region.ready md ops listed).isEmpty
 | f+1,.one i t,listed=>decide (Region.ready md ops listed=[i]) && (E i && or2B md ops E f t (listed.setIfInBounds i true))
 | f+1,.two i t j u,listed=>decide (Region.ready md ops listed=[i,j]) && (E i && E j && (or2B md ops E f t (listed.setIfInBounds i true) && or2B md ops E f u (listed.setIfInBounds j true)))
 | f+1,.three i t j u k v,listed=>decide (Region.ready md ops listed=[i,j,k]) && (E i && E j && E k && (or2B md ops E f t (listed.setIfInBounds i true) && (or2B md ops E f u (listed.setIfInBounds j true) && or2B md ops E f v (listed.setIfInBounds k true))))
 | f+1,.fst i t,listed=>(Region.ready md ops listed).contains i && Region.free md ops listed i && !E i && or2B md ops E f t (listed.setIfInBounds i true)
 | _,_,_=>false
def gOr2 (P:Program) (r:Option Nat) (n:Nat) (df:Nat) (ops:Array Oper) (E:Nat→Bool) (L:List D→aa1→Prop):Or2→List D→aa1→Prop
 | .done,a,σ=>L a σ
 | .one i t,a,σ=>gOp P r n df ops E i (gOr2 P r n df ops E L t) a σ
 | .two i t j u,a,σ=>gOp P r n df ops E i (gOr2 P r n df ops E L t) a σ∧gOp P r n df ops E j (gOr2 P r n df ops E L u) a σ
 | .three i t j u k v,a,σ=>gOp P r n df ops E i (gOr2 P r n df ops E L t) a σ∧gOp P r n df ops E j (gOr2 P r n df ops E L u) a σ∧gOp P r n df ops E k (gOr2 P r n df ops E L v) a σ
 | .fst i t,a,σ=>∃ o d,ops[i]?=some o∧YsIn none P ops [] o d a∧gOr2 P r n df ops E L t (putD a o.dst d) σ
theorem aj9 {E:Nat→Bool} {L:List D→aa1→Prop}:∀ (f:Nat) (t:Or2) (listed:Array Bool) (a:List D) (σ:aa1),HeadInv md ops ops.size listed→or2B md ops E f t listed=true→gOr2 P r n df ops E L t a σ→gAny P r n df md ops E L f listed a σ
 | 0,.done,listed,a,σ,_,hB,h=>⟨by simpa [or2B] using hB,h⟩
 | f+1,.one i t,listed,a,σ,inv,hB,h=>by
  simp only [or2B,Bool.and_eq_true,decide_eq_true_eq] at hB
  refine ⟨fun h1=>(by rw [hB.1] at h1;cases h1),fun k hk=>?_⟩
  have hk2:=hk
  rw [hB.1] at hk
  have:k=i:=by simpa using hk
  subst this
  obtain ⟨_,o,ho,_⟩:=mem_ready.1 hk2
  exact ac7 (fun a' σ' h'=>aj9 f t _ a' σ' (inv.set hk2 (Array.getElem?_eq_some_iff.1 ho).1) hB.2.2 h') h
 | f+1,.two i t j u,listed,a,σ,inv,hB,h=>by
  simp only [or2B,Bool.and_eq_true,decide_eq_true_eq] at hB
  refine ⟨fun h1=>(by rw [hB.1] at h1;cases h1),fun k hk=>?_⟩
  have hk2:=hk
  rw [hB.1] at hk
  obtain ⟨_,o,ho,_⟩:=mem_ready.1 hk2
  have inv':=inv.set hk2 (Array.getElem?_eq_some_iff.1 ho).1
  have:k=i∨k=j:=by simpa using hk
  rcases this with rfl|rfl
  ·exact ac7 (fun a' σ' h'=>aj9 f t _ a' σ' inv' hB.2.2.1 h') h.1
  ·exact ac7 (fun a' σ' h'=>aj9 f u _ a' σ' inv' hB.2.2.2 h') h.2
 | f+1,.three i t j u l v,listed,a,σ,inv,hB,h=>by
  simp only [or2B,Bool.and_eq_true,decide_eq_true_eq] at hB
  refine ⟨fun h1=>(by rw [hB.1] at h1;cases h1),fun k hk=>?_⟩
  have hk2:=hk
  rw [hB.1] at hk
  obtain ⟨_,o,ho,_⟩:=mem_ready.1 hk2
  have inv':=inv.set hk2 (Array.getElem?_eq_some_iff.1 ho).1
  have:k=i∨k=j∨k=l:=by simpa using hk
  rcases this with rfl|rfl|rfl
  ·exact ac7 (fun a' σ' h'=>aj9 f t _ a' σ' inv' hB.2.2.1 h') h.1
  ·exact ac7 (fun a' σ' h'=>aj9 f u _ a' σ' inv' hB.2.2.2.1 h') h.2.1
  ·exact ac7 (fun a' σ' h'=>aj9 f v _ a' σ' inv' hB.2.2.2.2 h') h.2.2
 | f+1,.fst i t,listed,a,σ,inv,hB,h=>by
  simp only [or2B,Bool.and_eq_true,Bool.not_eq_true'] at hB
  obtain ⟨⟨⟨hr,hf⟩,hE⟩,hB'⟩:=hB
  obtain ⟨o,d,ho,hy,hk⟩:=h
  have hr':i∈Region.ready md ops listed:=by simpa using hr
  have hin:i<ops.size:=(Array.getElem?_eq_some_iff.1 ho).1
  have H:=aj9 f t _ _ _ (inv.set hr' hin) hB' hk
  exact ap0 (S:=fun _=>True) ho hE (fun _ _ _ _ _ _ _=>trivial) f listed a σ inv (Region.free_spec ho hf) hr' trivial (fun s _=>hy.free s) H
 | 0,.one _ _,_,_,_,_,hB,_=>by cases hB
 | 0,.three _ _ _ _ _ _,_,_,_,_,hB,_=>by cases hB
 | 0,.two _ _ _ _,_,_,_,_,hB,_=>by cases hB
 | 0,.fst _ _,_,_,_,_,hB,_=>by cases hB
 | _+1,.done,_,_,_,_,hB,_=>by cases hB
def mixO2 (md:Region.Mode) (ops:Array Oper) (E:Nat→Bool) (f:Nat) (t:Or2):List Nat→Array Bool→Bool
 | [],listed=>or2B md ops E f t listed
 | i :: hs,listed=>(Region.ready md ops listed).contains i && Region.free md ops listed i && !E i && mixO2 md ops E f t hs (listed.setIfInBounds i true)
theorem aK5 {E:Nat→Bool} {L:List D→aa1→Prop} {f:Nat} {t:Or2}:∀ (hs:List Nat) (listed:Array Bool) (a:List D) (σ:aa1),HeadInv md ops ops.size listed→mixO2 md ops E f t hs listed=true →
  gLex P md ops E (gOr2 P r n df ops E L t) hs a σ→gAny P r n df md ops E L (hs.length+f) listed a σ
 | [],listed,a,σ,inv,hB,h=>by
  rw [show ([]:List Nat).length+f=f by simp]
  exact aj9 f t listed a σ inv hB h
 | i :: hs,listed,a,σ,inv,hB,h=>by
  simp only [mixO2,Bool.and_eq_true,Bool.not_eq_true'] at hB
  obtain ⟨⟨⟨hr,hf⟩,hE⟩,hB'⟩:=hB
  obtain ⟨o,d,ho,hy,hk⟩:=h
  have hr':i∈Region.ready md ops listed:=by simpa using hr
  have hin:i<ops.size:=(Array.getElem?_eq_some_iff.1 ho).1
  have H:=aK5 hs _ _ _ (inv.set hr' hin) hB' hk
  rw [show (i :: hs).length+f=(hs.length+f)+1 by simp;omega]
  rcases hy with ⟨hb,hy⟩|hy
  ·exact ap0 (S:=fun s=>s=σ) ho hE (fun ls i1 i2 j hj e=>by rw [barB_ok hb ls i1 i2 j hj] at e;cases e) _ listed a σ inv (Region.free_spec ho hf) hr' rfl (fun s e=>by subst e;exact hy) H
  ·exact ap0 (S:=fun _=>True) ho hE (fun _ _ _ _ _ _ _=>trivial) _ listed a σ inv (Region.free_spec ho hf) hr' trivial (fun s _=>hy.free s) H
theorem awp_draw_or2 {id:Nat} {l:List Oper} (E:Nat→Bool) (hs:List Nat) (f:Nat) (t:Or2) (hm:P.follows .mixedOrders=true) (hl:hs.length+f=l.length) (hB:mixO2 .any l.toArray E f t hs (Array.replicate l.length false)=true)
  (h:gLex P .any l.toArray E (gOr2 P r n df l.toArray E (fun a σ=>Q .normal a σ) t) hs a σ):AWP P r n df (.region id l.toArray true) Q a σ:=by
 refine ⟨fun w X fr hst=>?_⟩
 have inv0:HeadInv .any l.toArray l.toArray.size (Array.replicate l.length false):=
  ⟨by simp,fun j oj _ hl=>(by rw [getD_replicate_false] at hl;cases hl),fun t ht ht'=>by omega⟩
 refine wpIn_region_any hm ?_
 have hx0:=aB8 w
 have:=am4 (w0:=w) (σ0:=σ) (X:=X) _ _ _ _ fr { w with drawn:=w.drawn+1 } (Mv.of_ex hx0) (hst.ex hx0) (aK5 hs _ a σ inv0 hB h)
 rw [hl] at this
 have e:l.toArray.size=l.length:=by simp
 rw [e]
 exact this
theorem aq6 {E:Nat→Bool} {L L':List D→aa1→Prop} (h:∀ a σ,L a σ→L' a σ):∀ {t:Or2} {a:List D} {σ:aa1},gOr2 P r n df ops E L t a σ→gOr2 P r n df ops E L' t a σ
 | .done,_,_,hh=>h _ _ hh
 | .one _ _,_,_,hh=>ac7 (fun _ _=>aq6 h) hh
 | .two _ _ _ _,_,_,hh=>⟨ac7 (fun _ _=>aq6 h) hh.1,ac7 (fun _ _=>aq6 h) hh.2⟩
 | .three _ _ _ _ _ _,_,_,hh=>⟨ac7 (fun _ _=>aq6 h) hh.1,ac7 (fun _ _=>aq6 h) hh.2.1,ac7 (fun _ _=>aq6 h) hh.2.2⟩
 | .fst _ _,_,_,hh=>let ⟨o,d,h1,h2,h3⟩:=hh;⟨o,d,h1,h2,aq6 h h3⟩
end
section
variable {P:Program} {r:Option Nat} {n:Nat} {df:Nat} {N:Nat} {σ:aa1} {a:List D} {f:Frm} {T:TypeId→Option TI} {L:List Oper} {Q:Fst}
def exFst (P:Program) (T:TypeId→Option TI) (N:Nat) (L:List Oper) (i:Nat) (K:Frm→Prop) (f:Frm):Prop:=match L[i]? with
 | none=>False
 | some o=>exG L f o fun go=>match go with
  | true=>bif ai4 o.op then exY P T o f [] (fun d=>putK N o.dst d f K) else False
  | false=>putK N o.dst (.v undef) f K
def aS6 (P:Program) (T:TypeId→Option TI) (r:Option Nat) (n:Nat) (df:Nat) (N:Nat) (L:List Oper) (K:Frm→aa1→Prop):Or2→Frm→aa1→Prop
 | .done,f,σ=>K f σ
 | .one i t,f,σ=>an7 P T r n df N L i (aS6 P T r n df N L K t) f σ
 | .two i t j u,f,σ=>an7 P T r n df N L i (aS6 P T r n df N L K t) f σ∧an7 P T r n df N L j (aS6 P T r n df N L K u) f σ
 | .three i t j u k v,f,σ=>an7 P T r n df N L i (aS6 P T r n df N L K t) f σ∧an7 P T r n df N L j (aS6 P T r n df N L K u) f σ∧an7 P T r n df N L k (aS6 P T r n df N L K v) f σ
 | .fst i t,f,σ=>exFst P T N L i (fun f'=>aS6 P T r n df N L K t f' σ) f
theorem exFst_ok (hT:∀ t i,T t=some i→tiOf P t=some i) {i:Nat} {K:Frm→Prop} (h:exFst P T N L i K f) (hs:Sp N a f):∃ o d,L.toArray[i]?=some o∧YsIn none P L.toArray [] o d a∧∃ f',Sp N (putD a o.dst d) f'∧K f':=by
 unfold exFst at h
 split at h
 ·exact h.elim
 ·rename_i o ho
  have ho':L.toArray[i]?=some o:=by simpa using ho
  obtain ⟨go,hw,h1⟩:=aV1 (K:=fun go=>match go with
   | true=>bif ai4 o.op then exY P T o f [] (fun d=>putK N o.dst d f K) else False
   | false=>putK N o.dst (.v undef) f K) h hs
  cases go with
  | true=>
   obtain ⟨hn,h2⟩:=af5 h1
   obtain ⟨d,hy,h3⟩:=aV0 hT h2
   obtain ⟨f',hs',h4⟩:=ae0 h3 hs
   exact ⟨o,d,ho',.inl ⟨hw,hn,.of (hy.le hs.le)⟩,f',hs',h4⟩
  | false=>
   obtain ⟨f',hs',h4⟩:=ae0 h1 hs
   exact ⟨o,_,ho',.inr ⟨hw,rfl⟩,f',hs',h4⟩
def ax0 (p:Nat→Bool):Or2→Bool
 | .done=>true
 | .one i t=>p i && ax0 p t
 | .two i t j u=>p i && (ax0 p t && (p j && ax0 p u))
 | .three i t j u k v=>p i && (ax0 p t && (p j && (ax0 p u && (p k && ax0 p v))))
 | .fst _ t=>ax0 p t
theorem av4 (hT:∀ t i,T t=some i→tiOf P t=some i) {E:Nat→Bool}:∀ {t:Or2} {K:Frm→aa1→Prop} {f:Frm} {σ:aa1} {a:List D},ax0 E t=true→aS6 P T r n df N L K t f σ→Sp N a f→gOr2 P r n df L.toArray E (fun a' σ'=>∃ f',Sp N a' f'∧K f' σ') t a σ
 | .done,K,f,σ,a,hE,h,hs=>⟨f,hs,h⟩
 | .one i t,K,f,σ,a,hE,h,hs=>by
  simp only [ax0,Bool.and_eq_true] at hE
  exact ah3 hT hE.1 h hs (fun f' σ' a' h2 hs'=>av4 hT hE.2 h2 hs')
 | .two i t j u,K,f,σ,a,hE,h,hs=>by
  simp only [ax0,Bool.and_eq_true] at hE
  exact ⟨ah3 hT hE.1 h.1 hs (fun f' σ' a' h2 hs'=>av4 hT hE.2.1 h2 hs'),ah3 hT hE.2.2.1 h.2 hs (fun f' σ' a' h2 hs'=>av4 hT hE.2.2.2 h2 hs')⟩
 | .three i t j u k v,K,f,σ,a,hE,h,hs=>by
  simp only [ax0,Bool.and_eq_true] at hE
  exact ⟨ah3 hT hE.1 h.1 hs (fun f' σ' a' h2 hs'=>av4 hT hE.2.1 h2 hs'),ah3 hT hE.2.2.1 h.2.1 hs (fun f' σ' a' h2 hs'=>av4 hT hE.2.2.2.1 h2 hs'),ah3 hT hE.2.2.2.2.1 h.2.2 hs (fun f' σ' a' h2 hs'=>av4 hT hE.2.2.2.2.2 h2 hs')⟩
 | .fst i t,K,f,σ,a,hE,h,hs=>by
  simp only [ax0] at hE
  obtain ⟨o,d,h1,h2,f',h3,h4⟩:=exFst_ok (K:=fun f'=>aS6 P T r n df N L K t f' σ) hT h hs
  exact ⟨o,d,h1,h2,av4 hT hE h4 h3⟩
theorem aK1 (hm:P.follows .mixedOrders=true) (hT:∀ t i,T t=some i→tiOf P t=some i) {id:Nat} {O:Array Oper} (hO:O=L.toArray) (hs:List Nat) (fu:Nat) (E:Nat→Bool) (t:Or2) {γ:Type} (ps:γ→Frm) (S:γ→aa1) (I:γ→Prop)
  (hB:(Nat.beq (hs.length+fu) L.length && mixO2 .any L.toArray E fu t hs (Array.replicate L.length false) && ax0 E t)=true)
  (h:W (exHs P T N L E σ hs (fun f1=>aS6 P T r n df N L (fun f' σ'=>∃ g,chkF f' (aq5 (.region id O true) f (ps g))∧Sc σ' (S g)∧I g) t f1 σ) f))
  (kk:∀ g,I g→W (aC6 (aq5 (.region id O true) f (ps g)) fun F=>Q .normal F (S g))):Lp P r n df N (.region id O true) Q f σ:=by
 subst hO
 simp only [Bool.and_eq_true] at hB
 refine ⟨fun a hs'=>?_⟩
 refine aH3 (awp_draw_or2 (Q:=fun e a' σ'=>e = .normal∧∃ f',Sp N a' f'∧∃ g,chkF f' (aq5 (.region id L.toArray true) f (ps g))∧Sc σ' (S g)∧I g) E hs fu t hm (Nat.eq_of_beq_eq_true hB.1.1) hB.1.2 (ax7 (fun a' σ' h'=>?_) (aA6 hT h.h hs'))) ?_
 ·obtain ⟨rfl,f',h1,h2⟩:=h'
  have:=av4 hT hB.2 h2 h1
  exact aq6 (fun a σ h=>⟨rfl,h⟩) this
 ·rintro e a' σ' ⟨rfl,f',h1,g,h2,h4,h3⟩
  exact ⟨S g,h4,_,h1.sub h2,an5 (kk g h3).h⟩
end
end
end Go.Proofs.YtjbbmjjildhfbaaGreatDoor
