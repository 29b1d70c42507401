/- A part of the proof: Wb Gc Bp Gd. -/
import Derived.Test.YtlcfiilejnnlnaaGreatDoorB16
import Derived.Laws.AppendOwn
set_option maxRecDepth 100000
set_option maxHeartbeats 20000000
set_option linter.unusedVariables false
set_option linter.unusedSimpArgs false
namespace Go.Proofs.YtlcfiilejnnlnaaGreatDoor
section
open Go Go.RowKit Go.Shelf
theorem aX2 (l:List Int) (hl:I64s l):ASome Tryz.prog 6 [slI l] (fun d=>∃ x,d=schD x∧GenX x):=
 ASome.of_call ((bn0 l hl).imp fun d σ ⟨x,e,_,h⟩=>⟨x,e,h⟩)
theorem sk110 {A B:Prop} (k:B) (h:Hd7 B→A:=by intro hk7q;(first|refine sb0 ?_|refine sb1 ?_|((with_reducible refine' Cp.by ?hc ?_);(case hc=>first|exact HEW|exact HRW|exact HEV|exact HRV|exact HDV|exact HQV|exact HSB|exact HSV|exact HS1|exact HS2|exact HSVV|exact HFW|exact HAK|exact HD1|exact HD2|exact HS3|exact HS4|exact aQ1))|((with_reducible refine' CE.pure ?hc ?_);(case hc=>first|exact HEW|exact HRW|exact HEV|exact HRV|exact HDV|exact HQV|exact HSB|exact HSV|exact HS1|exact HS2|exact HSVV|exact HFW|exact HAK|exact HD1|exact HD2|exact HS3|exact HS4|exact aQ1)));exact hk7q.run):A:=h ⟨k⟩
theorem sk111 {A B:Prop} (k:B) (h:Hd7 B→A:=by intro hk7q;(first|refine sb0 ?_|refine sb75 ?_|((with_reducible refine' Cp.by ?hc ?_);(case hc=>first|exact HEW|exact HRW|exact HEV|exact HRV|exact HDV|exact HQV|exact HSB|exact HSV|exact HS1|exact HS2|exact HSVV|exact HFW|exact HAK|exact HD1|exact HD2|exact HS3|exact HS4|exact aQ1))|((with_reducible refine' CE.pure ?hc ?_);(case hc=>first|exact HEW|exact HRW|exact HEV|exact HRV|exact HDV|exact HQV|exact HSB|exact HSV|exact HS1|exact HS2|exact HSVV|exact HFW|exact HAK|exact HD1|exact HD2|exact HS3|exact HS4|exact aQ1)));exact hk7q.run):A:=h ⟨k⟩
theorem sq8 {A B:Prop} (k:B) (h:Hd7 B→A:=by intro hk7q;(first|refine sk110 ?_|(with_reducible refine Br.t (beq_self_eq_true _) ?_));exact hk7q.run):A:=h ⟨k⟩
theorem aY5 (HBent:∀ w,WTiny w→∀ at_ how by_:Int,I64n at_→I64n how→I64n by_→ASome Tryz.prog 8 [slW w,iD at_,iD how,iD by_] (fun d=>∃ w',d=slW w'∧WSm w'))
  (l m:List Int) (at_ how by_:Int) (raw:List Nat) (hl:I64s l) (hm:I64s m) (hat:I64n at_) (hhow:I64n how) (hby:I64n by_) (hr1:∀ d∈raw,d<256) (hr2:raw.length≤140737488355328) :
  APure Tryz.prog 3 [slI l,slI m,iD at_,iD how,iD by_,slY raw] (bD true):=by
 refine eP7 Tryz.func3 Tryz.ntmps3 fun BB=>?_
 repeat' first|refine sk110 ?_|(intro b;conv=>whnf)
 refine CE.some (aX2 l hl) ?_
 rintro _ ⟨x,rfl,hgx⟩
 have hnk:=hgx.nk
 repeat' first|refine sk110 ?_|(intro b;conv=>whnf)
 obtain ⟨bx,rfl⟩:∃ bx,bx=b:=⟨_,rfl⟩
 refine CE.some (bu4 x (by omega) (fun k hk=>by have:=(hgx.ks.ck hgx.nk.2 k hk).ck.nf;omega) m hm) ?_
 rintro _ ⟨w,rfl,hw⟩
 repeat' first|refine sk110 ?_|(intro b;conv=>whnf)
 refine CE.some (HBent w hw at_ how by_ hat hhow hby) ?_
 rintro _ ⟨v,rfl,hv⟩
 have hws:=hw.sm
 have hel:=hws.len
 have hvl:=hv.len
 have hec:=bY2 w
 have hlt:=bf7 hws.wd
 have hH:=cd8 (au7 (encW v))
 have HEW:=bc4 w hws
 have HRW:=aR3 w hws
 have HEV:=bc4 v hv
 have HRV:=aR3 v hv
 have HDV:=cc4 v hv
 have HQV:=bS7 v hv
 have HSB:=aR5 (encW w) (encW w) (by omega) (by omega)
 have HSV:=aR5 (encW v) (encW v) (by omega) (by omega)
 rw [decide_eq_true rfl] at HSB HSV
 have HS1:=bc3 w v hws.ct hv.ct
 have HS2:=aw3 w v hws.ct hv.ct
 have HSVV:=bc3 v v hv.ct hv.ct
 rw [decide_eq_true rfl] at HSVV
 generalize decide (w=v)=q at HS1 HS2
 have HFW:=ce9 raw hr2
 have hcl:((encW w).map yC).length=(encW w).length:=List.length_map ..
 have HAK:=aj0 by_ ((encW w).map yC).length hby
 obtain ⟨hk1,hk2,_⟩:=aC6 by_ ((encW w).map yC).length
 have hk3:=hk2 (by omega)
 obtain ⟨k,hk⟩:∃ k:Nat,arE by_ ((encW w).map yC).length=k:=⟨(arE by_ ((encW w).map yC).length).toNat,by omega⟩
 rw [hk] at HAK hk1 hk3
 clear hk hk2
 have HD1:=trivial
 have HD2:=trivial
 have HS3:=trivial
 have HS4:=trivial
 repeat' first|refine sq8 ?_|(intro b;conv=>whnf)|((with_reducible refine' Ot.yd ?hydn ?_);(case hydn=>first|exact cb8 rfl rfl rfl hH|exact bP5 rfl rfl rfl Tryz.underlying4))
 refine Ap.go rfl rfl rfl rfl (RowIs.e0 5 1 (some ⟨b,0,none⟩)) (List.Perm.refl ([] ++ [(bx,Blk.cells 28 (schC x))])) (aD6 _) (zs:=(encW w).map yC) rfl (sz_y (c:=300000) (by omega) (by decide)) (by rw [hcl];omega) (fun s'=>s' ++ [(bx,Blk.cells 28 (schC x))]) (fun s'=>List.Perm.refl _) (fun a5 c5 s5 hr5=>?_)
 obtain ⟨bk,hbk⟩:∃ c,(encW w)[k]?=some c:=⟨_,List.getElem?_eq_getElem (by omega)⟩
 obtain ⟨b1,cap1,cs1,e1,rfl,hck,hset⟩:=bi8 (g:=yD) (show RowR 5 yD (encW w) _ _ from hr5) hbk
 obtain ⟨rfl,_,rfl⟩:=Value.slice.inj e1
 clear e1
 repeat' first|refine sk110 ?_|(intro b;conv=>whnf)
 refine Ot.yd (ab5 (m:=(((at_ % 256).toNat:Nat):Int)) rfl rfl Tryz.underlying3 Tryz.underlying5 (by rw [IntKind.wrap_u8];omega)) ?_
 have hzl:(at_ % 256).toNat<256:=by omega
 generalize (at_ % 256).toNat=z at *
 repeat' first|refine sk110 ?_|(intro b;conv=>whnf)
 refine Sv.cellm (tb:=5) (cs:=cs1) (cs':=cs1.set k (yD z)) (τ:=[(bx,Blk.cells 28 (schC x))]) (List.Perm.refl _) (by rw [ix1];exact (List.getElem?_eq_some_iff.1 hck).1) rfl (by rw [ix1]) ?_
 repeat' first|refine sk111 ?_|(intro b;conv=>whnf)
 refine dr7 ?_
 refine aB6 (i:=19) (d':=slY ((encW w).set k z)) (τ:=[(bx,Blk.cells 28 (schC x))]) rfl (fun h=>by cases h) (Vs.row (hset z) (List.Perm.refl _)) ?_
 have hfl:(raw.take 30).length≤30:=by rw [List.length_take];omega
 have hfl2:∀ d∈raw.take 30,d<256:=fun d hd=>hr1 d (List.mem_of_mem_take hd)
 generalize raw.take 30=few at *
 refine al6 mixed aa0 rfl [1,3,5,6,7,8,9] 5 (inE [0,2,4]) (.one 0 (.one 2 (.one 4 (.fst 10 (.fst 11 .done))))) (γ:=Unit) (fun _=>[(20,.sl 1 [[slY (encW w ++ few)],[(D.sl 1 (((encW w).map yC).take ((k:Nat):Int).toNat))],[slY ((encW w).set k z)],[slY few]])]) (fun _=>[(bx,Blk.cells 28 (schC x))]) (fun _=>True) (by decide +kernel) ?_ ?_
 ·repeat' first|refine sk110 ?_|(intro b;conv=>whnf)|(refine Ap.go rfl rfl rfl rfl (RowIs.e0 5 1 (some ⟨b,0,none⟩)) (List.Perm.refl ([] ++ [(bx,Blk.cells 28 (schC x))])) (aD6 _) (zs:=(encW w).map yC) rfl (sz_y (c:=300000) (by omega) (by decide)) (by rw [hcl];omega) (fun s'=>s' ++ [(bx,Blk.cells 28 (schC x))]) (fun s'=>List.Perm.refl _) (fun a6 c6 s6 hr6=>?_))|(refine Ap.frz rfl rfl rfl rfl hr6 (τ:=[(bx,Blk.cells 28 (schC x))]) (List.Perm.refl _) (aD6 _) (zs:=(encW w ++ few).map yC) (by rw [List.map_append]) (sz_y (c:=300030) (by rw [List.length_append];omega) (by decide)) (by rw [List.length_map,List.length_append];omega) ?_)|(refine And.intro ?_ ?_ <;> (conv=>whnf))
  exact ⟨(),(aa2 cl2),Sc.refl _,trivial⟩
 intro _ _
 repeat' first|refine sk110 ?_|(intro b;conv=>whnf)
 have hal:((encW w ++ few)).length≤1000000:=by rw [List.length_append];omega
 have hsl:((encW w).set k z).length≤1000000:=by rw [List.length_set];omega
 have htl:((encW w).take k).length≤1000000:=by rw [List.length_take];omega
 have halt:∀ d∈encW w ++ few,d<256:=fun d hd=>(List.mem_append.1 hd).elim (hlt d) (hfl2 d)
 have hslt:∀ d∈(encW w).set k z,d<256:=fun d hd=>(List.mem_or_eq_of_mem_set hd).elim (hlt d) (fun h=>by omega)
 have htlt:∀ d∈(encW w).take k,d<256:=fun d hd=>hlt d (List.mem_of_mem_take hd)
 have htk:slY ((encW w).take k)=(D.sl 1 (((encW w).map yC).take ((k:Nat):Int).toNat)):=by rw [Int.toNat_natCast,← List.map_take]
 have HS4:=bc3 w w hws.ct hws.ct
 rw [decide_eq_true rfl] at HS4
 refine aa5 mixed aa0 (γ:=Nat) (fun i=>[(21,iD i)]) (fun _=>[(bx,Blk.cells 28 (schC x))]) (fun i=>i≤4) (fun i=>4 - i) 0 (aa2 cl2) (Sc.refl _) (by decide) ?_
 intro i hi
 simp only at hi ⊢
 rcases i with _ | _ | _ | _|i
 ·have HD1:=bg9 (encW w ++ few) halt hal
  have HD2:=aR4 (encW w ++ few) halt hal
  have HS3:=aw3 w w hws.ct hws.ct
  rw [ba0 hws.wd few] at HD1 HD2
  rw [decide_eq_true rfl] at HS3
  repeat' first|refine sk110 ?_|(intro b;conv=>whnf)|(refine Ix.at rfl (by decide) ?_)
  exact ⟨1,(aa2 cl2),Sc.refl _,by decide,by decide⟩
 ·have HD1:=bg9 ((encW w).take k) htlt htl
  have HD2:=aR4 ((encW w).take k) htlt htl
  have hne:=bz6 hws.wd hlt (k:=k) (by omega)
  have hct:=bf9 ((encW w).take k) htl
  rw [htk] at HD1 HD2
  generalize decW ((encW w).take k)=p at *
  have HS3:=aw3 p.1 p.1 hct hct
  rw [decide_eq_true rfl] at HS3
  obtain ⟨y,n,e⟩:=p
  simp only at *
  repeat' first|refine sk110 ?_|(intro b;conv=>whnf)|(refine Ix.at rfl (by decide) ?_)
  exact ⟨2,(aa2 cl2),Sc.refl _,by decide,by decide⟩
 ·have HD1:=bg9 ((encW w).set k z) hslt hsl
  have HD2:=aR4 ((encW w).set k z) hslt hsl
  have hct:=bf9 ((encW w).set k z) hsl
  generalize decW ((encW w).set k z)=p at *
  have HS3:=aw3 p.1 p.1 hct hct
  rw [decide_eq_true rfl] at HS3
  obtain ⟨y,n,e⟩:=p
  simp only at *
  repeat' first|refine sk110 ?_|(intro b;conv=>whnf)|(refine Ix.at rfl (by decide) ?_)
  exact ⟨3,(aa2 cl2),Sc.refl _,by decide,by decide⟩
 ·have HD1:=bg9 few hfl2 (by omega)
  have HD2:=aR4 few hfl2 (by omega)
  have hct:=bf9 few (by omega)
  generalize decW few=p at *
  have HS3:=aw3 p.1 p.1 hct hct
  rw [decide_eq_true rfl] at HS3
  obtain ⟨y,n,e⟩:=p
  simp only at *
  repeat' first|refine sk110 ?_|(intro b;conv=>whnf)|(refine Ix.at rfl (by decide) ?_)
  exact ⟨4,(aa2 cl2),Sc.refl _,by decide,by decide⟩
 ·obtain rfl:i=0:=by omega
  repeat' first|refine sk110 ?_|(intro b;conv=>whnf)
  exact Rt.pure rfl
end
section
open Go
def oK (w:Wd) (k:Nat) (x:List (List Int)):Wd:=w.take k ++ x :: List.replicate (w.length - k - 1) []
theorem cg6 {w:Wd} {k:Nat} (h:k<w.length) (x:List (List Int)):(oK w k x).length=w.length:=by unfold oK;simp;omega
theorem cn7 {w:Wd} {k:Nat} (h:k<w.length) (x:List (List Int)):(oK w k x)[k]?=some x:=by
 unfold oK
 rw [List.getElem?_append_right (by simp;omega),List.length_take,show k - min k w.length=0 by omega]
 rfl
theorem cg5 {w:Wd} {k:Nat} (h:k<w.length) (x y:List (List Int)):(oK w k x).set k y=oK w k y:=by
 unfold oK
 rw [List.set_append_right _ _ (by simp;omega),List.length_take,show k - min k w.length=0 by omega]
 rfl
theorem bG5 {w:Wd} {k:Nat} (h:k<w.length):w.take k ++ List.replicate (w.length - k) []=oK w k []:=by
 unfold oK
 rw [show w.length - k=(w.length - k - 1)+1 by omega,List.replicate_succ]
 rfl
theorem bT8 {w:Wd} {k:Nat} {l:List (List Int)} (h:w[k]?=some l):oK w k l=w.take (k+1) ++ List.replicate (w.length - (k+1)) []:=by
 unfold oK
 rw [List.take_add_one,h,show w.length - k - 1=w.length - (k+1) by omega]
 simp
theorem sk112 {A B:Prop} (k:B) (h:Hd7 B→A:=by intro hk7q;(first|refine sb0 ?_|refine sb75 ?_|((with_reducible refine' Cp.by ?hc ?_);(case hc=>fail))|((with_reducible refine' CE.pure ?hc ?_);(case hc=>fail)));exact hk7q.run):A:=h ⟨k⟩
theorem bu1 (w:Wd) (hw:WTiny w):ACall Tryz.prog 23 [slW w] [] (fun d s=>∃ v,d = .v v∧RW w v s):=by
 have hwk:=hw.k
 refine eC7 Tryz.func23 Tryz.ntmps23 fun BB=>?_
 repeat' first|refine sk2 ?_|(intro b;conv=>whnf)
 refine Mk.go w.length rfl rfl rfl rfl rfl (by simp) (by omega) (by omega) (fun bo=>?_)
 repeat' first|refine sk2 ?_|(intro b;conv=>whnf)
 have hR0:RW (w.take 0 ++ List.replicate (w.length - 0) []) (.slice (some ⟨bo,0,none⟩) w.length w.length) [(bo,.cells 62 (List.replicate w.length (.v (.slice none 0 0))))]:=
  RowsOf.made (R:=RW1) (x0:=[]) (RowsOf.nil _ _) _ bo (by unfold maxLen;omega)
 refine aa5 mixed aa0 (γ:=Nat × aa1) (fun g=>[(4,iD g.1)]) (fun g=>g.2) (fun g=>g.1≤w.length∧RW (w.take g.1 ++ List.replicate (w.length - g.1) []) (.slice (some ⟨bo,0,none⟩) w.length w.length) g.2) (fun g=>w.length - g.1) (0,_) (aa2 cl2) (Sc.refl _) ⟨Nat.zero_le _,hR0⟩ ?_
 clear hR0
 rintro ⟨k,s⟩ ⟨hk,hR⟩
 simp only at hk hR ⊢
 by_cases hkl:k<w.length
 ·obtain ⟨l,hl⟩:∃ l,w[k]?=some l:=⟨_,List.getElem?_eq_getElem hkl⟩
  have hl':w[((k:Nat):Int).toNat]?=some l:=hl
  have hln:=hw.n l (List.mem_of_getElem? hl)
  rw [bG5 hkl] at hR
  repeat' first|refine sk2 ?_|(intro b;conv=>whnf)
  refine aa5 mixed aa0 (γ:=Nat × aa1) (fun g=>[(5,iD g.1)]) (fun g=>g.2) (fun g=>g.1≤l.length∧RW (oK w k (l.take g.1)) (.slice (some ⟨bo,0,none⟩) w.length w.length) g.2) (fun g=>l.length - g.1) (0,s) (aa2 cl2) (Sc.refl _) ⟨Nat.zero_le _,hR⟩ ?_
  clear hR
  rintro ⟨i,s⟩ ⟨hi,hR⟩
  simp only at hi hR ⊢
  by_cases hil:i<l.length
  ·obtain ⟨r,hr⟩:∃ r,l[i]?=some r:=⟨_,List.getElem?_eq_getElem hil⟩
   have hr':l[((i:Nat):Int).toNat]?=some r:=hr
   have hrl:=hw.f l (List.mem_of_getElem? hl) r (List.mem_of_getElem? hr)
   obtain ⟨b0,cap0,cs0,u,t,τ,e0,p0,c0,hu,upo⟩:=RowsOf.at hR (cn7 hkl (l.take i))
   rw [cg6 hkl] at e0
   cases e0
   obtain ⟨a1,ca1,rfl⟩:=RowsOf.slice hu
   obtain ⟨vs,s0,ts,g1,g2,g3⟩:=hu.ex
   have hvl:=g2.len.1
   rw [List.length_take] at hvl
   repeat' first|refine sk112 ?_|(intro b;conv=>whnf)
   refine dr7 ?_
   refine al6 mixed aa0 rfl [0,1,2,3,4,7,8,9,10,11,12,13] 7 (inE [5,6,14,16,18]) (.two 5 (.one 6 (.one 14 (.fst 15 (.one 16 (.fst 17 (.one 18 .done)))))) 6 (.two 5 (.one 14 (.fst 15 (.one 16 (.fst 17 (.one 18 .done))))) 14 (.fst 15 (.one 5 (.one 16 (.fst 17 (.one 18 .done))))))) (γ:=aa1) (fun _=>[]) (fun g=>g) (fun g=>RW (oK w k (l.take (i+1))) (.slice (some ⟨bo,0,none⟩) w.length w.length) g) (by decide +kernel) ?_ ?_
   ·repeat' first|refine sk2 ?_|(intro b;conv=>whnf)|(refine And.intro ?_ ?_ <;> (conv=>whnf))|(refine Ld.cellm (tb:=62) (cs:=cs0) (p0.mem_iff.2 List.mem_cons_self) (by rw [ix1];exact c0) ?_)|(refine Ld.cellm (tb:=62) (cs:=cs0) (List.mem_append_right _ (p0.mem_iff.2 List.mem_cons_self)) (by rw [ix1];exact c0) ?_)|(refine Ap.go rfl rfl rfl rfl (RowIs.e0 _ _ (some ⟨b,0,none⟩)) (List.Perm.refl ([] ++ s)) (cn6 r) (zs:=r.map fun n=>[iD n]) rfl (sz_i (c:=50) hrl (by decide)) (by simp;omega) (fun s'=>s' ++ s) (fun s'=>List.Perm.refl _) (fun a5 c5 s5 hr5=>?_))|(refine Ap.go rfl rfl rfl rfl g1 (τ:=((bo,Blk.cells 62 cs0) :: (ts.flatten ++ (τ ++ s5)))) (by refine ac9 fun a=>?_;have e1:=ai0 p0 a;have e2:=ai0 g3 a;simp only [List.append_eq,List.nil_append,ad1,af7,af6] at e1 e2 ⊢;omega) rfl (zs:=vs.map (fun u=>[D.v u]) ++ [[D.v (.slice a5 (r.map fun n=>[iD n]).length c5)]]) rfl (sz_2 (c:=50) (by omega) (by decide)) (by simp;omega) (fun s'=>s' ++ ((bo,Blk.cells 62 cs0) :: (ts.flatten ++ (τ ++ s5)))) (fun s'=>List.Perm.refl _) (fun a6 c6 s6 hr6=>?_))
    all_goals
     have hpu:=an9 g2 hr6 (x:=r) hr5 (s':=s6 ++ (ts.flatten ++ s5)) (List.Perm.refl _)
     rw [show l.take i ++ [r]=l.take (i+1) by rw [List.take_add_one,hr];rfl] at hpu
     have hfin:=upo _ _ _ ((bo,.cells 62 (cs0.set k (.v (.slice a6 (vs.map (fun u=>[D.v u]) ++ [[D.v (.slice a5 (r.map fun n=>[iD n]).length c5)]]).length c6)))) :: ((s6 ++ (ts.flatten ++ s5)) ++ τ)) hpu (List.Perm.refl _)
     rw [cg5 hkl] at hfin
     refine Sv.cellm (tb:=62) (cs:=cs0) (cs':=cs0.set k (.v (.slice a6 (vs.map (fun u=>[D.v u]) ++ [[D.v (.slice a5 (r.map fun n=>[iD n]).length c5)]]).length c6))) (τ:=s6 ++ (ts.flatten ++ (τ ++ s5))) cl18 (by rw [ix1];exact (List.getElem?_eq_some_iff.1 c0).1) rfl (by rw [ix1]) ?_
     repeat' first|refine sk2 ?_|(intro b;conv=>whnf)
     exact ⟨_,(aa2 cl7),Sc.perm cl18,hfin⟩
   ·intro g hg
    repeat' first|refine sk2 ?_|(intro b;conv=>whnf)
    exact ⟨(i+1,g),(aa2 cl2),Sc.refl _,⟨by simp only;omega,hg⟩,by simp only;omega⟩
  ·obtain rfl:i=l.length:=by omega
   rw [List.take_length,bT8 hl] at hR
   repeat' first|refine sk2 ?_|(intro b;conv=>whnf)
   exact ⟨(k+1,s),(aa2 cl2),Sc.refl _,⟨by simp only;omega,hR⟩,by simp only;omega⟩
 ·obtain rfl:k=w.length:=by omega
  rw [List.take_length,Nat.sub_self,List.replicate_zero,List.append_nil] at hR
  repeat' first|refine sk2 ?_|(intro b;conv=>whnf)
  exact Rt.same ⟨_,rfl,hR⟩
end
section
open Go Go.RowKit Go.Shelf
section
variable {P:Program} {r:Option Nat} {n:Nat} {df:Nat} {N:Nat} {σ:aa1} {a:List D} {f:Frm} {T:TypeId→Option TI} {L:List Oper} {Q:Fst} {ρ:Operand→D}
theorem aG4 (hT:∀ t i,T t=some i→tiOf P t=some i) {o:Oper} {t:TypeId} {x y:Operand} {b off m c:Nat} {kk:IntKind} {i:TI} {p:Nat × Bool × Nat × Nat} (ho:o.op = .slice t x (some y) none none) (hx:ρ x = .v (.slice (some ⟨b,off,none⟩) m c)) (ht:T t=some i) (hs:i.sl=some p)
  (hy:ρ y = .v (.int kk (c:Int))) (hm:m=c):Yd P o ρ σ (.v (.slice (some ⟨b,off,none⟩) 0 0)):=by
 subst hm
 intro w X η hη hst
 obtain ⟨dst,op,ty,pos,aft,g⟩:=o
 simp only at ho
 subst ho
 obtain ⟨e,ag,k',by_⟩:=p
 obtain ⟨hu,hsz,_⟩:=ag3 (hT t i ht) hs
 have hz:=(ai7 hsz w).2
 have hxv:=(hη x (by simp [Op.operands])).val hx
 have hyv:=(hη y (by simp [Op.operands])).val hy
 refine ac8 (s:=Instr.sliceAt t (η x) (some (η y)) none none) (u:=.slice (some ⟨b,off,none⟩) 0 0) ?_ (Ex.refl w) (.v _)
 rw [hxv]
 have hb:(Instr.sliceBounds true m m (some (η y)) none none).run P w = .ok (m,m,m) w:=by
  simp [Instr.sliceBounds,Instr.sliceBound,Result.andThen,hyv,asIntOf]
 simp only [Instr.sliceAt,Sem.run_bind,run_underlying hu,Result.andThen,Instr.slice,hb,hz,Sem.run_pure,if_true,Nat.sub_self]
theorem OtE.apown (hT:∀ t i,T t=some i→tiOf P t=some i) {o:Oper} {p x:Operand} {t e:TypeId} {i j:TI} {ag:Bool} {k by_ b n0 cap o2 m c2:Nat} {cs new:List D} {τ:aa1} {K:Frm→aa1→Prop}
  (ho:o.op = .call { callee:=.builtin .append,args:=#[p,x],argTypes:=#[t,t] }) (hp:evF f p = .v (.slice (some ⟨b,0,none⟩) n0 cap)) (hx:evF f x = .v (.slice (some ⟨b,o2,none⟩) m c2)) (ht:T t=some i) (hs:i.sl=some (e,ag,k,by_)) (he:T e=some j) (hjs:j.size=k)
  (hb:σ.Perm ((b,.cells e cs) :: τ)) (hnew:new=(cs.drop o2).take (m*k)) (hl:new.length=m*k) (hroom:n0+m≤cap) (hfit:n0*k+m*k≤cs.length) (hone:new.all oneD=true)
  (kk:W (putK N o.dst (.v (.slice (some ⟨b,0,none⟩) (n0+m) cap)) f (fun f'=>K f' ((b,.cells e (spl cs (n0*k) new)) :: τ)))):OtE P r n df L N o f σ K:=by
 refine ⟨fun rest Q a hsp hw hk=>?_⟩
 refine am2 hb ?_
 refine ad7 hw (by rw [ho];rfl) fun w X fr hst=>?_
 have hpv:=hsp.le p _ _ _ (hst.fr.eval p)
 rw [hp] at hpv
 have hpv:=hpv.val rfl
 have hxv:=hsp.le x _ _ _ (hst.fr.eval x)
 rw [hx] at hxv
 have hxv:=hxv.val rfl
 obtain ⟨hu,hsz,_⟩:=ag3 (hT t i ht) hs
 obtain ⟨inf,u,q1,_,_,q4,_⟩:=ao9 (hT e j he)
 obtain ⟨_,ob,hob,vs,rfl,hvs⟩:=hst.st.at_ b _ List.mem_cons_self
 have hr2:=(hvs.drop o2).take (m*k)
 rw [← hnew] at hr2
 have hsk:inf.size=k:=by rw [← hjs,← q4]
 have hrun:=run_append_room (P:=P) (w:=w) t o.type e inf hu q1 b n0 cap vs.toArray hob ⟨b,o2,none⟩ m c2 ((vs.drop o2).take (m*k)) (by rw [hr2.len,hl,hsk]) (fun j v hv=>by
  rw [List.getElem?_take] at hv
  split at hv
  ·rw [List.getElem?_drop] at hv
   have hlt:=(List.getElem?_eq_some_iff.1 hv).1
   rw [ah4]
   simp [World.cell?,hob,hv]
  ·cases hv) (aR2 hr2 hone) hroom (by rw [hr2.len,hl,hsk];simp [hvs.len];omega)
 have ee:(execOp fr.eval o).run P w = .ok (.value (.slice (some ⟨b,0,none⟩) (n0+m) cap)) (w.setRow b (vs.take (n0*k) ++ (vs.drop o2).take (m*k) ++ vs.drop (n0*k+((vs.drop o2).take (m*k)).length)).toArray):=by
  rw [hsk] at hrun
  simp only [execOp,ho,resolve,invoke,builtin,Sem.run_bind,Sem.run_pure,Result.andThen,List.map_toArray,List.map_cons,List.map_nil,hpv,hxv,hrun]
 rw [ee]
 obtain ⟨q5,q6⟩:=av1 (cur':=(vs.take (n0*k) ++ (vs.drop o2).take (m*k) ++ vs.drop (n0*k+((vs.drop o2).take (m*k)).length)).toArray) hob
 have hnw:RdL w (Own ((b,Blk.cells e cs) :: τ) X) (spl cs (n0*k) new) (vs.take (n0*k) ++ (vs.drop o2).take (m*k) ++ vs.drop (n0*k+((vs.drop o2).take (m*k)).length)):=by
  unfold spl
  rw [hr2.len]
  exact ((hvs.take (n0*k)).append hr2).append (hvs.drop _)
 obtain ⟨g1,g2,g3,g4⟩:=hst.st.upd (i:=0) rfl (k':=.cells e (spl cs (n0*k) new)) q6 q5 ⟨_,rfl,hnw⟩
 obtain ⟨f',hs',h4⟩:=ac7 kk.h hsp
 exact ⟨_,_,g2,(⟨hst.fr.keep q6.size g3 g4,g1,hst.df.keep q6.size g3 g4⟩:St _ X df a _ fr).put (.v _) o.dst,hk _ _ _ h4 hs'⟩
theorem Vs.sc {σ τ:aa1} (h:Sc σ τ) (d:D):Vs σ d τ d:=⟨fun w X _ hs hr=>⟨h.run w X hs,ak9 hr h.sub⟩,h.sub⟩
theorem Sc.any {b:Nat} {e:TypeId} {cs cs':List D} {τ:aa1} (hl:cs'.length=cs.length) (h:∀ (i:Nat) d',cs'[i]?=some d'→d' = .any∨cs[i]?=some d'):Sc ((b,.cells e cs) :: τ) ((b,.cells e cs') :: τ):=by
 refine ⟨fun w X hs=>⟨hs.nodup,fun x kk hm=>?_,hs.xlt,hs.gok⟩,fun b hb=>hb⟩
 rcases List.mem_cons.1 hm with e1|hm
 ·cases e1
  obtain ⟨h1,o,h2,vs,rfl,h3⟩:=hs.at_ b _ List.mem_cons_self
  exact ⟨h1,_,h2,vs,rfl,⟨by rw [h3.len,hl],fun i d u hi hu=>by
   rcases h i d hi with rfl|h'
   ·exact .any u
   ·exact h3.at_ i d u h' hu⟩⟩
 ·exact hs.at_ x kk (List.mem_cons_of_mem _ hm)
theorem RowIs.del {e:TypeId} {k:Nat} {xs:List (List D)} {b n0 cap:Nat} {cs:List D} (h:RowIs e k xs (.slice (some ⟨b,0,none⟩) n0 cap) [(b,.cells e cs)]) {i:Nat} (hi:i<xs.length) :
  (cs.drop ((i+1)*k)).take ((xs.length - (i+1))*k)=(xs.drop (i+1)).flatten∧(xs.drop (i+1)).flatten.length=(xs.length - (i+1))*k∧n0=xs.length∧xs.length≤cap∧cs.length=cap*k ∧
  ∃ cs',RowIs e k (xs.take i ++ xs.drop (i+1)) (.slice (some ⟨b,0,none⟩) (i+(xs.length - (i+1))) cap) [(b,.cells e cs')]∧∀ τ:aa1,Sc ((b,.cells e (spl cs (i*k) (xs.drop (i+1)).flatten)) :: τ) ((b,.cells e cs') :: τ):=by
 obtain ⟨b',cap',junk,e1,e2,q3,q4,q5,q6⟩:=h.block (fun h=>by subst h;simp at hi)
 cases e1
 have e3:cs=xs.flatten ++ junk:=by simpa using e2
 have hf1:(xs.take (i+1)).flatten.length=(i+1)*k:=by
  rw [aj2 (k:=k) (fun y hy=>h.len y (List.mem_of_mem_take hy)),List.length_take,Nat.min_eq_left (by omega)]
 have hf0:(xs.take i).flatten.length=i*k:=by
  rw [aj2 (k:=k) (fun y hy=>h.len y (List.mem_of_mem_take hy)),List.length_take,Nat.min_eq_left (by omega)]
 have hfd:(xs.drop (i+1)).flatten.length=(xs.length - (i+1))*k:=by
  rw [aj2 (k:=k) (fun y hy=>h.len y (List.mem_of_mem_drop hy)),List.length_drop]
 have hfa:xs.flatten.length=xs.length*k:=aj2 h.len
 have hs1:xs.flatten=(xs.take (i+1)).flatten ++ (xs.drop (i+1)).flatten:=by rw [← List.flatten_append,List.take_append_drop]
 have hs0:xs.flatten=(xs.take i).flatten ++ (xs.drop i).flatten:=by rw [← List.flatten_append,List.take_append_drop]
 have hcl:cs.length=cap*k:=by rw [e3,List.length_append,hfa];exact q5
 have hmul:(i+1)*k+(xs.length - (i+1))*k=xs.length*k:=by rw [← Nat.add_mul];congr 1;omega
 have hmul2:(i+1)*k=i*k+k:=Nat.succ_mul i k
 have hcap:xs.length*k≤cap*k:=Nat.mul_le_mul_right _ q3
 refine ⟨?_,hfd,rfl,q3,hcl,(xs.take i ++ xs.drop (i+1)).flatten ++ List.replicate (cap*k - (i*k+(xs.length - (i+1))*k)) .any,?_,?_⟩
 ·rw [e3,hs1,List.append_assoc,List.drop_left' hf1,List.take_left' hfd]
 ·refine ⟨fun y hy=>?_,.inr ⟨b,cap,_,?_,rfl,?_,q4,?_,fun d hd=>(List.mem_replicate.1 hd).2⟩⟩
  ·rcases List.mem_append.1 hy with hy|hy
   ·exact h.len y (List.mem_of_mem_take hy)
   ·exact h.len y (List.mem_of_mem_drop hy)
  ·rw [List.length_append,List.length_take,List.length_drop,Nat.min_eq_left (by omega)]
  ·rw [List.length_append,List.length_take,List.length_drop];omega
  ·rw [List.length_append,List.length_take,List.length_drop,Nat.min_eq_left (by omega),List.length_replicate,Nat.add_mul]
   omega
 ·intro τ
  have hsp:spl cs (i*k) (xs.drop (i+1)).flatten=(xs.take i ++ xs.drop (i+1)).flatten ++ cs.drop (i*k+(xs.length - (i+1))*k):=by
   unfold spl
   rw [hfd,List.flatten_append]
   congr 2
   rw [e3,hs0,List.append_assoc,List.take_left' hf0]
  have hl2:(xs.take i ++ xs.drop (i+1)).flatten.length=i*k+(xs.length - (i+1))*k:=by rw [List.flatten_append,List.length_append,hf0,hfd]
  rw [hsp]
  refine Sc.any (by rw [List.length_append,List.length_append,List.length_replicate,List.length_drop,hcl]) (fun q d hq=>?_)
  by_cases hlt:q<(xs.take i ++ xs.drop (i+1)).flatten.length
  ·rw [List.getElem?_append_left hlt] at hq ⊢
   exact .inr hq
  ·rw [List.getElem?_append_right (by omega)] at hq
   exact .inl (List.mem_replicate.1 (List.mem_of_getElem? hq)).2
end
end
section
open Go Go.RowKit Go.Shelf
theorem bn7 {w w':World} {X:Nat→Prop} {τ ρ s:aa1} (hsp:StOK w X (τ ++ ρ)) (g4:StOK w' X s) (g5:Mv w τ w' s) (f2:FlS s):StOK w' X (s ++ ρ)∧Mv w (τ ++ ρ) w' (s ++ ρ)∧(∀ b,b<w.heap.size→¬ Own (τ ++ ρ) X b→¬ Own (s ++ ρ) X b)∧(∀ b,b<w.heap.size→¬ Own (τ ++ ρ) X b→w'.heap[b]?=w.heap[b]?):=by
 have hnd:=hsp.nodup
 rw [aa4,List.nodup_append] at hnd
 obtain ⟨n1,n2,n3⟩:=hnd
 have hz:=g5.keep.size
 have hblk:∀ b,b<w.heap.size→¬ Own (τ ++ ρ) X b→w'.heap[b]?=w.heap[b]?:=fun b hb hn=>g5.keep.block b hb (fun hk=>hn (.inr (by rw [aa4];exact List.mem_append_left _ hk)))
 have hO:∀ b,b<w.heap.size→¬ Own (τ ++ ρ) X b→¬ Own (s ++ ρ) X b:=fun b hb hn ho=>by
  rcases ho with ho|ho
  ·exact hn (.inl ho)
  ·rw [aa4,List.mem_append] at ho
   rcases ho with ho|ho
   ·rcases g5.new b ho with h|h
    ·exact hn (.inr (by rw [aa4];exact List.mem_append_left _ h))
    ·omega
   ·exact hn (.inr (by rw [aa4];exact List.mem_append_right _ ho))
 have hρ:∀ b,b∈ab4 ρ→b<w.heap.size:=fun b hb=>hsp.lt (by rw [aa4];exact List.mem_append_right _ hb)
 refine ⟨⟨?_,fun b k hbk=>?_,fun b hb=>Nat.lt_of_lt_of_le (hsp.xlt b hb) hz,?_⟩,⟨⟨g5.keep.os,g5.keep.tape,g5.keep.output,hz,fun b hb hn=>g5.keep.block b hb (fun hk=>hn (by rw [aa4];exact List.mem_append_left _ hk))⟩,fun b hb=>?_⟩,hO,hblk⟩
 ·rw [aa4,List.nodup_append]
  refine ⟨g4.nodup,n2,fun b h1 c h2 e=>?_⟩
  subst e
  rcases g5.new b h1 with h|h
  ·exact n3 b h b h2 rfl
  ·have:=hρ b h2;omega
 ·rcases List.mem_append.1 hbk with h|h
  ·obtain ⟨h1,o,h2,h3⟩:=g4.at_ b k h
   refine ⟨h1,o,h2,?_⟩
   have hfk:=f2 _ h
   cases k with
   | cells t cs=>
    obtain ⟨vs,q1,q2⟩:=h3
    exact ⟨vs,q1,q2.len,fun j d u r1 r2=>by5 (q2.at_ j d u r1 r2) (hfk d (List.mem_of_getElem? r1))⟩
   | obj ok=>exact h3
   | mp P k G=>exact hfk.elim
  ·obtain ⟨h1,o,h2,h3⟩:=hsp.at_ b k (List.mem_append_right _ h)
   have hlt:=(Array.getElem?_eq_some_iff.1 h2).1
   have hnτ:b ∉ ab4 τ:=fun hb=>n3 b hb b (au8 h) rfl
   exact ⟨h1,o,(g5.keep.block b hlt hnτ).trans h2,Blk.ok_keep hz hO hblk h3⟩
 ·refine hsp.gok.keep hz hO hblk (fun b hb=>?_)
  rcases hb with hb|hb
  ·exact Nat.lt_of_lt_of_le (hsp.xlt b hb) hz
  ·rw [aa4,List.mem_append] at hb
   rcases hb with hb|hb
   ·exact g4.lt hb
   ·exact Nat.lt_of_lt_of_le (hρ b hb) hz
 ·rw [aa4,List.mem_append] at hb
  rcases hb with hb|hb
  ·rcases g5.new b hb with h|h
   ·exact .inl (by rw [aa4];exact List.mem_append_left _ h)
   ·exact .inr h
  ·exact .inl (by rw [aa4];exact List.mem_append_right _ hb)
theorem bX0 {e:TypeId} {k:Nat} {xs:List (List D)} {v:Value} {s:aa1} (h:RowIs e k xs v s) (hx:∀ y∈xs,∀ d∈y,flA d=true):FlS s:=by
 rcases h.is with ⟨_,_,rfl⟩|⟨b,cap,junk,_,rfl,_,_,_,q6⟩
 ·intro p hp;cases hp
 ·intro p hp
  rw [List.mem_singleton] at hp
  subst hp
  intro d hd
  rcases List.mem_append.1 hd with hd|hd
  ·obtain ⟨y,hy,hdy⟩:=List.mem_flatten.1 hd
   exact hx y hy d hdy
  ·rw [q6 d hd];rfl
section
variable {P:Program} {r:Option Nat} {n:Nat} {df:Nat} {N:Nat} {σ:aa1} {f:Frm} {L:List Oper} {T:TypeId→Option TI}
theorem OtE.apcopy (hT:∀ t i,T t=some i→tiOf P t=some i) {o:Oper} {p x:Operand} {t e e2:TypeId} {i j:TI} {ag:Bool} {k by_:Nat} {xs ys:List (List D)} {v v2:Value} {s s2 τ:aa1} {K:Frm→aa1→Prop}
  (ho:o.op = .call { callee:=.builtin .append,args:=#[p,x],argTypes:=#[t,t] }) (hp:evF f p = .v v) (hx:evF f x = .v v2) (ht:T t=some i) (hi:i.sl=some (e,ag,k,by_)) (he:T e=some j) (hz:j.zero.length=j.size) (hk0:0<k) (hk:j.size=k)
  (hr:RowIs e k xs v s) (hr2:RowIs e2 k ys v2 s2) (hσ:σ.Perm (s ++ (s2 ++ τ))) (hfl:∀ y∈xs ++ ys,∀ d∈y,flA d=true) (h1:∀ y∈ys,y.all oneD=true) (hb:(xs.length+ys.length)*by_≤140737488355328) (hm:xs.length+ys.length≤1000000000)
  (kk:∀ v' s',RowIs e k (xs ++ ys) v' s'→W (putK N o.dst (.v v') f (fun f'=>K f' (s' ++ (s2 ++ τ))))):OtE P r n df L N o f σ K:=by
 refine ⟨fun rest Q a hsp hw hk'=>?_⟩
 refine am2 hσ ?_
 refine ad7 hw (by rw [ho];rfl) fun w X fr hst=>?_
 have hpv:=hsp.le p _ _ _ (hst.fr.eval p)
 rw [hp] at hpv
 have hpv:=hpv.val rfl
 have hxv:=hsp.le x _ _ _ (hst.fr.eval x)
 rw [hx] at hxv
 have hxv:=hxv.val rfl
 have hs1:StOK w X s:=hst.st.sub (List.sublist_append_left _ _)
 have hu:Rd w (Own s X) (.sl k ys) v2:=by
  refine ay3 hr2 ((hst.st.sub (show (s ++ s2).Sublist (s ++ (s2 ++ τ)) from (List.Sublist.refl s).append (List.sublist_append_left _ _))).perm List.perm_append_comm)
 obtain ⟨v',w',s',g1,g2,g3,g4⟩:=aP4 (ty:=o.type) (hT t i ht) hi (hT e j he) hz hk0 hk hr hs1 hu h1 hb (by unfold maxLen;omega)
 have ee:(execOp fr.eval o).run P w = .ok (.value v') w':=by
  simp only [execOp,ho,resolve,invoke,builtin,Sem.run_bind,Sem.run_pure,Result.andThen,List.map_toArray,List.map_cons,List.map_nil,hpv,hxv,g1]
 rw [ee]
 obtain ⟨q1,q2,q3,q4⟩:=bn7 hst.st g3 g4 (bX0 g2 hfl)
 obtain ⟨f',hs',h4⟩:=ac7 (kk v' s' g2).h hsp
 exact ⟨_,_,q2,(⟨hst.fr.keep g4.keep.size q3 q4,q1,hst.df.keep g4.keep.size q3 q4⟩:St w' X df a (s' ++ (s2 ++ τ)) fr).put (.v _) o.dst,hk' _ _ _ h4 hs'⟩
end
theorem ap3 {a:Int} (h:I64n a) (k:Int) (hk:1≤k):I64n (a.tdiv k):=by
 have h1:=Int.natAbs_tdiv_le_natAbs a k
 obtain ⟨h2,h3⟩:=h
 unfold I64n
 have h4:(-a).tdiv k = -(a.tdiv k):=Int.neg_tdiv a k
 by_cases h0:0≤a
 ·have:=Int.tdiv_nonneg h0 (show 0≤k by omega)
  omega
 ·have:=Int.tdiv_nonneg (show 0 ≤ -a by omega) (show 0≤k by omega)
  omega
theorem w_at {o:Wd} {v:Value} {σ:aa1} (h:RW o v σ) {k i:Nat} {l:List (List Int)} {r:List Int} (hl:o[k]?=some l) (hr:l[i]?=some r) :
  ∃ b0 cap0 cs0 b1 cap1 cs1 u2 t2 ρ,v = .slice (some ⟨b0,0,none⟩) o.length cap0∧σ.Perm ((b0,.cells 62 cs0) :: (b1,.cells 22 cs1) :: (t2 ++ ρ))∧cs0[k]?=some (.v (.slice (some ⟨b1,0,none⟩) l.length cap1))∧cs1[i]?=some (.v u2)∧RI r u2 t2 ∧
   ∀ r' u' t' s',RI r' u' t'→s'.Perm ((b0,.cells 62 cs0) :: (b1,.cells 22 (cs1.set i (.v u'))) :: (t' ++ ρ))→RW (o.set k (l.set i r')) v s':=by
 obtain ⟨b0,cap0,cs0,u,t,τ,e0,p0,c0,hu,up0⟩:=RowsOf.at h hl
 obtain ⟨b1,cap1,cs1,u2,t2,τ2,e1,p1,c1,hu2,up1⟩:=RowsOf.at hu hr
 subst e1
 refine ⟨b0,cap0,cs0,b1,cap1,cs1,u2,t2,τ2 ++ τ,e0,?_,c0,c1,hu2,fun r' u' t' s' hr' hp=>?_⟩
 ·refine ac9 fun a=>?_
  have e1:=ai0 p0 a
  have e2:=ai0 p1 a
  simp only [List.append_eq,List.nil_append,ad1,af7,af6] at e1 e2 ⊢
  omega
 ·have hs:cs0.set k (.v (.slice (some ⟨b1,0,none⟩) l.length cap1))=cs0:=by
   obtain ⟨h2,h3⟩:=List.getElem?_eq_some_iff.1 c0
   rw [← h3]
   exact List.set_getElem_self h2
  refine up0 _ (.slice (some ⟨b1,0,none⟩) l.length cap1) ((b1,.cells 22 (cs1.set i (.v u'))) :: (t' ++ τ2)) _ (up1 r' u' t' _ hr' (List.Perm.refl _)) ?_
  rw [hs]
  refine hp.trans (ac9 fun a=>?_)
  simp only [List.append_eq,List.nil_append,ad1,af7,af6]
  omega
theorem bE3 (e:TypeId) (d:D) (m b:Nat) (hm:m≤maxLen):RowIs e 1 (List.replicate m [d]) (.slice (some ⟨b,0,none⟩) m m) [(b,.cells e (List.replicate m d))]:=
 ⟨fun y hy=>by rw [(List.mem_replicate.1 hy).2];rfl,.inr ⟨b,m,[],by simp,by simp,by simp,hm,by simp,fun d hd=>by cases hd⟩⟩
theorem bS1 (bn:Nat) {m:Nat} (hm:m≤1000):RI (List.replicate m 0) (.slice (some ⟨bn,0,none⟩) m m) [(bn,.cells 3 (List.replicate m (.v (zv (ZV.int .i64)))))]:=by
 show RowIs _ 1 ((List.replicate m (0:Int)).map _) _ _
 rw [List.map_replicate]
 exact bE3 _ _ m bn (by unfold maxLen;omega)
theorem mem1 {σ:aa1} {x y:Nat × Blk} {t:aa1} (h:σ.Perm (x :: y :: t)):x∈σ:=h.mem_iff.2 List.mem_cons_self
theorem mem2 {σ:aa1} {x y:Nat × Blk} {t:aa1} (h:σ.Perm (x :: y :: t)):y∈σ:=h.mem_iff.2 (List.mem_cons_of_mem _ List.mem_cons_self)
theorem w_hd {o:Wd} {v:Value} {σ:aa1} (h:RW o v σ) {k:Nat} {l:List (List Int)} (hl:o[k]?=some l) :
  ∃ b0 cap0 cs0 u t τ,v = .slice (some ⟨b0,0,none⟩) o.length cap0∧σ.Perm ((b0,.cells 62 cs0) :: (t ++ τ))∧cs0[k]?=some (.v u)∧RW1 l u t ∧
   ∀ l' u' t' s',RW1 l' u' t'→s'.Perm ((b0,.cells 62 (cs0.set k (.v u'))) :: (t' ++ τ))→RW (o.set k l') v s':=RowsOf.at h hl
theorem aV9 {w:Wd} (hw:WTiny w) (k:Nat) {l':List (List Int)} (h1:l'.length≤20) (h2:∀ r∈l',r.length≤60) (h3:∀ r∈l',∀ v∈r,InR v):WSm (w.set k l'):=by
 have h:=hw.sm
 refine ⟨by rw [List.length_set];exact h.k,fun y hy=>?_,fun y hy=>?_,fun y hy=>?_⟩ <;> rcases List.mem_or_eq_of_mem_set hy with h' | rfl
 ·exact h.n y h'
 ·exact h1
 ·exact h.f y h'
 ·exact h2
 ·exact h.v y h'
 ·exact h3
theorem aW0 {w:Wd} (hw:WTiny w) (k i:Nat) {l:List (List Int)} (hl:l∈w) {r':List Int} (h2:r'.length≤60) (h3:∀ v∈r',InR v):WSm (w.set k (l.set i r')):=by
 have h:=hw.sm
 refine aV9 hw k (by rw [List.length_set];exact h.n l hl) (fun y hy=>?_) (fun y hy=>?_) <;> rcases List.mem_or_eq_of_mem_set hy with h' | rfl
 ·exact h.f l hl y h'
 ·exact h2
 ·exact h.v l hl y h'
 ·exact h3
theorem bD6 {w:Wd} (h:WTiny w) (k i:Nat) {l:List (List Int)} (hl:l∈w) {r':List Int} (h2:r'.length≤50) (h3:∀ v∈r',Tn v):WTiny (w.set k (l.set i r')):=by
 refine ⟨by rw [List.length_set];exact h.k,fun y hy=>?_,fun y hy=>?_,fun y hy=>?_⟩ <;> rcases List.mem_or_eq_of_mem_set hy with h' | rfl
 ·exact h.n y h'
 ·rw [List.length_set];exact h.n l hl
 ·exact h.f y h'
 ·intro z hz
  rcases List.mem_or_eq_of_mem_set hz with h' | rfl
  ·exact h.f l hl z h'
  ·exact h2
 ·exact h.v y h'
 ·intro z hz
  rcases List.mem_or_eq_of_mem_set hz with h' | rfl
  ·exact h.v l hl z h'
  ·exact h3
theorem bO1 {r:List Int} {f:Nat} {z:Int} (h:∀ v∈r,InR v) (hz:InR z):∀ v∈r.set f z,InR v:=fun v hv=>by
 rcases List.mem_or_eq_of_mem_set hv with h' | rfl
 ·exact h v h'
 ·exact hz
theorem bR0 (a:Int) {n:Int} (hn:0<n):-n<a.tmod n∧a.tmod n<n:=by
 refine ⟨?_,Int.tmod_lt_of_pos a hn⟩
 have:=Int.tmod_lt_of_pos (-a) hn
 rw [Int.neg_tmod] at this
 omega
theorem aA3 {α:Type} {l:List α} {i:Nat} {x:α} (h:l[i]?=some x):l.set i x=l:=by
 obtain ⟨h2,h3⟩:=List.getElem?_eq_some_iff.1 h
 rw [← h3]
 exact List.set_getElem_self h2
def cq0:D→aa1→Prop:=fun d _=>∃ w',d=slW w'∧WSm w'
theorem All3.del {α:Type} {R:ORep α} {xs:List α} {vs:List Value} {ts:List aa1} (h:All3 R xs vs ts):∀ {i:Nat},i<xs.length→∃ ts' t,All3 R (xs.take i ++ xs.drop (i+1)) (vs.take i ++ vs.drop (i+1)) ts'∧ts.flatten.Perm (ts'.flatten ++ t):=by
 induction h with
 | nil=>intro i hi;simp at hi
 | @cons x u t xs vs ts h k ih=>
  intro i hi
  cases i with
  | zero=>exact ⟨ts,t,k,by simp [List.perm_append_comm]⟩
  | succ i=>
   obtain ⟨ts',t',g1,g2⟩:=ih (i:=i) (by simpa using hi)
   exact ⟨t :: ts',t',.cons h g1,by rw [List.flatten_cons,List.flatten_cons,List.append_assoc];exact g2.append_left t⟩
theorem All3.one {α:Type} {R:ORep α} (hR:∀ x u t,R x u t→u.oneCell'=true) {xs:List α} {vs:List Value} {ts:List aa1} (h:All3 R xs vs ts):∀ u∈vs,u.oneCell'=true:=by
 induction h with
 | nil=>intro u hu;cases hu
 | cons h k ih=>
  intro u hu
  rcases List.mem_cons.1 hu with rfl|hu
  ·exact hR _ _ _ h
  ·exact ih u hu
theorem sk113 {A B:Prop} (k:B) (h:Hd7 B→A:=by intro hk7q;(first|refine sb0 ?_|refine sb75 ?_|((with_reducible refine' Cp.by ?hc ?_);(case hc=>first|exact HA6|exact HA1|exact HA2|exact HA3|exact HA4|exact HA5))|((with_reducible refine' CE.pure ?hc ?_);(case hc=>first|exact HA6|exact HA1|exact HA2|exact HA3|exact HA4|exact HA5)));exact hk7q.run):A:=h ⟨k⟩
theorem sk114 {A B:Prop} (k:B) (h:Hd7 B→A:=by intro hk7q;(first|refine sb0 ?_|refine sb1 ?_|((with_reducible refine' Cp.by ?hc ?_);(case hc=>first|exact HA6|exact HA1|exact HA2|exact HA3|exact HA4|exact HA5))|((with_reducible refine' CE.pure ?hc ?_);(case hc=>first|exact HA6|exact HA1|exact HA2|exact HA3|exact HA4|exact HA5)));exact hk7q.run):A:=h ⟨k⟩
theorem cl31 {p:Prop} (h:p:=by show D.v (Value.int .i64 ((i:Int)+1))=D.v (Value.int .i64 ((cap1':Nat):Int));rw [show cap1'=i+1 by omega];rfl):p:=h
theorem cl32 {p:Prop} (h:p:=by refine ac9 fun a=>?_;have e1:=ai0 p1 a;have e2:=ai0 g3 a;simp only [List.append_eq,List.nil_append,ad1,af7,af6] at e1 e2 ⊢;omega):p:=h
theorem cl33 {p:Prop} (h:p:=by rw [ix1];exact (List.getElem?_eq_some_iff.1 c0').1):p:=h
theorem cl34 {p:Prop} (h:p:=by rw [ix1];first|done|rfl|(rw [show l.length - (i+1)=0 by omega])):p:=h
theorem cl35 {p:Prop} (h:p:=by refine ac9 fun a=>?_;have e1:=ai0 e4 a;simp only [List.append_eq,List.nil_append,ad1,af7,af6] at e1 ⊢;omega):p:=h
theorem cl36 {p:Prop} (h:p:=by refine ac9 fun a=>?_;have e1:=ai0 p1 a;have e2:=ai0 p2 a;simp only [List.append_eq,List.nil_append,ad1,af7,af6] at e1 e2 ⊢;omega):p:=h
theorem cl37 {p:Prop} (h:p:=by refine ac9 fun a=>?_;have e2:=ai0 g3 a;have e3:=ai0 p2 a;simp only [List.append_eq,List.nil_append,ad1,af7,af6] at e2 e3 ⊢;omega):p:=h
theorem cl38 {p:Prop} (h:p:=by rw [aA3 c1];refine ac9 fun a=>?_;simp only [List.append_eq,List.nil_append,ad1,af7,af6];omega):p:=h
theorem bF1 (w:Wd) (hw:WTiny w) (at_ how by_:Int) (hat:I64n at_) (hhow:I64n how) (hby:I64n by_):ACall Tryz.prog 8 [slW w,iD at_,iD how,iD by_] [] cq0:=by
 have hwk:=hw.k
 have hbi:InR by_:=⟨hby.1,hby.2⟩
 refine eC7 Tryz.func8 Tryz.ntmps8 fun BB=>?_
 repeat' first|refine sk113 ?_|(intro b;conv=>whnf)
 refine CE.own (bu1 w hw) (ai4 _) (fun s'=>s') ao0 ?_
 rintro _ s ⟨v,rfl,hR⟩
 obtain ⟨va,vc,rfl⟩:=RowsOf.slice hR
 by_cases hw0:w.length=0
 ·have hwn:w=[]:=List.length_eq_zero_iff.1 hw0
  subst hwn
  obtain ⟨vs,s0,ts,g1,g2,g3⟩:=hR.ex
  cases g2
  repeat' first|refine sk113 ?_|(intro b;conv=>whnf)
  refine Ap.frz rfl rfl rfl rfl g1 (τ:=[]) (g3.trans (by simp)) rfl (zs:=[[slW1 [[by_]]]]) rfl (by simp) (by simp) ?_
  repeat' first|refine sk113 ?_|(intro b;conv=>whnf)
  exact Rt.same ⟨[[[by_]]],rfl,⟨by simp,by simp,by simp,by simp;exact hbi⟩⟩
 have HA1:=aj0 at_ w.length hat
 obtain ⟨hk1,hk2,_⟩:=aC6 at_ w.length
 have hk3:=hk2 (by omega)
 obtain ⟨k,hk⟩:∃ k:Nat,arE at_ w.length=k:=⟨(arE at_ w.length).toNat,by omega⟩
 rw [hk] at HA1 hk1 hk3
 clear hk hk2
 obtain ⟨l,hl⟩:∃ l,w[k]?=some l:=⟨_,List.getElem?_eq_getElem (by omega)⟩
 have hln:=hw.n l (List.mem_of_getElem? hl)
 by_cases hl0:l.length=0
 ·have hle:l=[]:=List.length_eq_zero_iff.1 hl0
  subst hle
  obtain ⟨b0,cap0,cs0,u,t,τ,e0,p0,c0,hu,up0⟩:=w_hd hR hl
  obtain ⟨ua,uc,rfl⟩:=RowsOf.slice hu
  have m0:=p0.mem_iff.2 List.mem_cons_self
  cases e0
  have HA2:=aj0 by_ 5 hby
  obtain ⟨hi1,hi2,_⟩:=aC6 by_ 5
  have hi3:=hi2 (by decide)
  obtain ⟨m,hm⟩:∃ m:Nat,arE by_ 5=m:=⟨(arE by_ 5).toNat,by omega⟩
  rw [hm] at HA2 hi1 hi3
  clear hm hi2
  obtain ⟨vs,s0,ts,g1,g2,g3⟩:=hu.ex
  cases g2
  repeat' first|((with_reducible refine W.mk ?_);(conv=>whnf))|(refine Ld.cellm (tb:=62) (cs:=cs0) m0 (by rw [ix1];exact c0) ?_)|(refine Ld.cellm (tb:=22) (cs:=cs1) m1 (by rw [ix1];exact c1) ?_)|(refine Ld.cellm (tb:=3) (cs:=cells) m2 (by rw [ix1];exact hcf) ?_)|refine sk113 ?_|(intro b;conv=>whnf)
  refine dr7 ?_
  refine al6 mixed aa0 rfl [0,1,2,3,4,6,7] 6 (inE [5,8,10,12]) (.two 5 (.one 8 (.fst 9 (.one 10 (.fst 11 (.one 12 .done))))) 8 (.fst 9 (.one 5 (.one 10 (.fst 11 (.one 12 .done)))))) (γ:=aa1) (fun _=>[]) (fun g=>g) (fun g=>RW (w.set k [List.replicate m 0]) (.slice (some ⟨b0,0,none⟩) w.length vc) g) (by decide +kernel) ?_ ?_
  ·repeat' first|refine sk114 ?_|(intro b;conv=>whnf)|(refine Ld.cellm (tb:=62) (cs:=cs0) m0 (by rw [ix1];exact c0) ?_)|(refine Ld.cellm (tb:=22) (cs:=cs1) m1 (by rw [ix1];exact c1) ?_)|(refine Ld.cellm (tb:=3) (cs:=cells) m2 (by rw [ix1];exact hcf) ?_)|(refine Ld.cellm (tb:=62) (cs:=cs0) (List.mem_cons_of_mem _ m0) (by rw [ix1];exact c0) ?_)|(refine Mk.go m rfl rfl rfl rfl rfl rfl (by omega) (by omega) (fun bn=>?_))|(refine Ap.go rfl rfl rfl rfl g1 (τ:=(bn,Blk.cells 3 (List.replicate m (.v (zv (ZV.int IntKind.i64))))) :: (b0,.cells 62 cs0) :: τ) (by refine ac9 fun a=>?_;have e1:=ai0 p0 a;have e2:=ai0 g3 a;simp only [List.append_eq,List.nil_append,List.flatten_nil,ad1,af7,af6] at e1 e2 ⊢;omega) rfl (zs:=[[D.v (.slice (some ⟨bn,0,none⟩) m m)]]) rfl (by simp) (by simp) (fun s'=>s' ++ ((bn,Blk.cells 3 (List.replicate m (.v (zv (ZV.int IntKind.i64))))) :: (b0,.cells 62 cs0) :: τ)) (fun s'=>List.Perm.refl _) (fun a6 c6 s6 hr6=>?_))|(refine And.intro ?_ ?_ <;> (conv=>whnf))
   all_goals
    have hz0:=bS1 bn (m:=m) (by omega)
    have hpu:=an9 (xs:=[]) (vs:=[]) (ts:=[]) .nil hr6 (x:=List.replicate m 0) hz0 (s':=s6 ++ [(bn,Blk.cells 3 (List.replicate m (.v (zv (ZV.int IntKind.i64)))))]) (by simp)
    have hfin:=up0 _ _ _ ((b0,.cells 62 (cs0.set k (.v (.slice a6 ([[D.v (.slice (some ⟨bn,0,none⟩) m m)]]:List (List D)).length c6)))) :: ((s6 ++ [(bn,Blk.cells 3 (List.replicate m (.v (zv (ZV.int IntKind.i64)))))]) ++ τ)) hpu (List.Perm.refl _)
    refine Sv.cellm (tb:=62) (cs:=cs0) (cs':=cs0.set k (.v (.slice a6 ([[D.v (.slice (some ⟨bn,0,none⟩) m m)]]:List (List D)).length c6))) (τ:=s6 ++ ((bn,Blk.cells 3 (List.replicate m (.v (zv (ZV.int IntKind.i64))))) :: τ)) cl18 (by rw [ix1];exact (List.getElem?_eq_some_iff.1 c0).1) rfl (by rw [ix1]) ?_
    repeat' first|refine sk114 ?_|(intro b;conv=>whnf)
    exact ⟨_,(aa2 cl7),Sc.perm cl18,hfin⟩
  ·intro g hg
   repeat' first|refine sk114 ?_|(intro b;conv=>whnf)
   exact Rt.by (Vs.frz az1 hg (ai4 _)) ⟨_,rfl,⟨by simp;omega,fun y hy=>by
    rcases List.mem_or_eq_of_mem_set hy with h|rfl
    ·have:=hw.n y h;omega
    ·simp,fun y hy z hz=>by
    rcases List.mem_or_eq_of_mem_set hy with h|rfl
    ·have:=hw.f y h z hz;omega
    ·rw [List.mem_singleton] at hz;subst hz;simp;omega,fun y hy z hz q hq=>by
    rcases List.mem_or_eq_of_mem_set hy with h|rfl
    ·exact hw.sm.v y h z hz q hq
    ·rw [List.mem_singleton] at hz;subst hz;rw [(List.mem_replicate.1 hq).2];exact ⟨by decide,by decide⟩⟩⟩
 have HA2:=aj0 (at_.tdiv 6) l.length (ap3 hat 6 (by decide))
 obtain ⟨hi1,hi2,_⟩:=aC6 (at_.tdiv 6) l.length
 have hi3:=hi2 (by omega)
 obtain ⟨i,hi⟩:∃ i:Nat,arE (at_.tdiv 6) l.length=i:=⟨(arE (at_.tdiv 6) l.length).toNat,by omega⟩
 rw [hi] at HA2 hi1 hi3
 clear hi hi2
 obtain ⟨r,hr⟩:∃ r,l[i]?=some r:=⟨_,List.getElem?_eq_getElem (by omega)⟩
 have hrn:=hw.f l (List.mem_of_getElem? hl) r (List.mem_of_getElem? hr)
 have hlm:=List.mem_of_getElem? hl
 have hrm:=List.mem_of_getElem? hr
 obtain ⟨b0,cap0,cs0,b1,cap1,cs1,u2,t2,ρ,e0,p0,c0,c1,hu2,up⟩:=w_at hR hl hr
 obtain ⟨ra,rc,rfl⟩:=az9 hu2
 have m0:=mem1 p0
 have m1:=mem2 p0
 cases e0
 have HA3:=aj0 (how.tdiv 6) (if (r.length:Int)<1 then 1 else (r.length:Int)) (ap3 hhow 6 (by decide))
 obtain ⟨hf1,hf2,_⟩:=aC6 (how.tdiv 6) (if (r.length:Int)<1 then 1 else (r.length:Int))
 have hf3:=hf2 (by split <;> omega)
 obtain ⟨f,hf⟩:∃ f:Nat,arE (how.tdiv 6) (if (r.length:Int)<1 then 1 else (r.length:Int))=f:=⟨(arE (how.tdiv 6) (if (r.length:Int)<1 then 1 else (r.length:Int))).toNat,by omega⟩
 rw [hf] at HA3 hf1 hf3
 clear hf hf2
 have HA4:=aj0 how 6 hhow
 obtain ⟨hh1,hh2,_⟩:=aC6 how 6
 have hh3:=hh2 (by decide)
 obtain ⟨h,hh⟩:∃ h:Nat,arE how 6=h:=⟨(arE how 6).toNat,by omega⟩
 rw [hh] at HA4 hh1 hh3
 clear hh hh2
 have htd1:InR (at_.tdiv 6):=⟨(ap3 hat 6 (by decide)).1,(ap3 hat 6 (by decide)).2⟩
 have htd2:InR (how.tdiv 6):=⟨(ap3 hhow 6 (by decide)).1,(ap3 hhow 6 (by decide)).2⟩
 repeat' first|((with_reducible refine W.mk ?_);(conv=>whnf))|(refine Ld.cellm (tb:=62) (cs:=cs0) m0 (by rw [ix1];exact c0) ?_)|(refine Ld.cellm (tb:=22) (cs:=cs1) m1 (by rw [ix1];exact c1) ?_)|(refine Ld.cellm (tb:=3) (cs:=cells) m2 (by rw [ix1];exact hcf) ?_)|refine sk113 ?_|(intro b;conv=>whnf)
 by_cases hr0:r.length=0
 ·rcases h with _ | _ | _ | _ | _ | _|h
  ·repeat' first|((with_reducible refine W.mk ?_);(conv=>whnf))|(refine Ld.cellm (tb:=62) (cs:=cs0) m0 (by rw [ix1];exact c0) ?_)|(refine Ld.cellm (tb:=22) (cs:=cs1) m1 (by rw [ix1];exact c1) ?_)|(refine Ld.cellm (tb:=3) (cs:=cells) m2 (by rw [ix1];exact hcf) ?_)|refine sk113 ?_|(intro b;conv=>whnf)
   exact Rt.by (Vs.frz az1 hR (ai4 _)) ⟨_,rfl,hw.sm⟩
  ·repeat' first|((with_reducible refine W.mk ?_);(conv=>whnf))|(refine Ld.cellm (tb:=62) (cs:=cs0) m0 (by rw [ix1];exact c0) ?_)|(refine Ld.cellm (tb:=22) (cs:=cs1) m1 (by rw [ix1];exact c1) ?_)|(refine Ld.cellm (tb:=3) (cs:=cells) m2 (by rw [ix1];exact hcf) ?_)|refine sk113 ?_|(intro b;conv=>whnf)
   exact Rt.by (Vs.frz az1 hR (ai4 _)) ⟨_,rfl,hw.sm⟩
  ·repeat' first|((with_reducible refine W.mk ?_);(conv=>whnf))|(refine Ld.cellm (tb:=62) (cs:=cs0) m0 (by rw [ix1];exact c0) ?_)|(refine Ld.cellm (tb:=22) (cs:=cs1) m1 (by rw [ix1];exact c1) ?_)|(refine Ld.cellm (tb:=3) (cs:=cells) m2 (by rw [ix1];exact hcf) ?_)|refine sk113 ?_|(intro b;conv=>whnf)
   refine dr7 ?_
   obtain ⟨b0',cap0',cs0',u3,t3,τ3,e0',p1,c0',hu3,up3⟩:=w_hd hR hl
   cases e0'
   obtain ⟨vs,s0,ts,g1,g2,g3⟩:=hu3.ex
   have hvl:=g2.len.1
   have hlv:(vs.map fun u=>[D.v u]).length=l.length:=by rw [List.length_map,hvl]
   obtain ⟨b1',cap1',junk,rfl,rfl,-,-,-,-⟩:=g1.block (by intro e;rw [e] at hlv;simp at hlv;omega)
   generalize ((vs.map fun u=>[D.v u]).flatten ++ junk)=cs1' at g1 g3
   obtain ⟨d1,d2,-,d4,d5,cs6,d6,d7⟩:=g1.del (i:=i) (by rw [hlv];omega)
   rw [hlv] at d1 d2 d4 d6 c0'
   have hone:((vs.map fun u=>[D.v u]).drop (i+1)).flatten.all oneD=true:=by
    rw [List.all_eq_true]
    intro d hd
    obtain ⟨y,hy,hdy⟩:=List.mem_flatten.1 hd
    obtain ⟨u,hu,rfl⟩:=List.mem_map.1 (List.mem_of_mem_drop hy)
    rw [List.mem_singleton] at hdy
    subst hdy
    exact All3.one (fun x u t h=>by obtain ⟨a,c,rfl⟩:=az9 h;rfl) g2 u hu
   obtain ⟨ts',tr,e3,e4⟩:=g2.del (i:=i) (by omega)
   have hw1:RW1 (l.take i ++ l.drop (i+1)) (.slice (some ⟨b1',0,none⟩) (i+(l.length - (i+1))) cap1') ((b1',.cells 22 cs6) :: ts'.flatten):=⟨vs.take i ++ vs.drop (i+1),[(b1',.cells 22 cs6)],ts',by simpa [List.map_take,List.map_drop] using d6,e3,by simp⟩
   clear d6 e3 hlv
   generalize ((vs.map fun u=>[D.v u]).drop (i+1)).flatten=new at *
   have m0':=p1.mem_iff.2 List.mem_cons_self
   clear g1 g2 hu3
   refine al6 mixed aa0 rfl [0,1,2,3,4,6,8,9,10,12,13] 7 (inE [5,11,15,17]) (.two 5 (.fst 7 (.one 11 (.fst 14 (.one 15 (.fst 16 (.one 17 .done)))))) 11 (.fst 14 (.one 5 (.fst 7 (.one 15 (.fst 16 (.one 17 .done))))))) (γ:=aa1) (fun _=>[]) (fun g=>g) (fun g=>RW (w.set k (l.take i ++ l.drop (i+1))) (.slice (some ⟨b0,0,none⟩) w.length vc) g) (by decide +kernel) ?_ ?_
   ·by_cases hcap:i+1<cap1'
    ·repeat' first|((with_reducible refine W.mk ?_);(conv=>whnf))|(refine Ld.cellm (tb:=62) (cs:=cs0') m0' (by rw [ix1];exact c0') ?_)|((with_reducible refine' Ot.yd ?hydq1 ?_);(case hydq1=>first|exact aq8 aa0 (l:=0) (h:=i) rfl rfl rfl rfl (.inl ⟨rfl,rfl⟩) (.inr ⟨_,_,rfl,rfl⟩) (by omega) (by omega) (by omega)|exact aq8 aa0 (l:=i+1) (h:=l.length) rfl rfl rfl rfl (.inr ⟨_,_,rfl,rfl⟩) (.inl ⟨rfl,rfl⟩) (by omega) (by omega) (by omega)|exact aG4 aa0 (c:=cap1') (m:=l.length) rfl rfl rfl rfl cl31 (by omega)))|(refine Bx.r ?_;refine OtE.apown aa0 (e:=22) (b:=b1') (n0:=i) (cap:=cap1') (o2:=0+(i+1)*1) (m:=l.length - (i+1)) (cs:=cs1') (new:=new) (τ:=(b0,.cells 62 cs0') :: (ts.flatten ++ τ3)) rfl rfl rfl rfl rfl rfl rfl cl32 (by rw [Nat.zero_add];exact d1.symm) d2 (by omega) (by omega) hone ?_)|refine sk113 ?_|(intro b;conv=>whnf)|(refine And.intro ?_ ?_ <;> (conv=>whnf))
     all_goals
      repeat' first|((with_reducible refine W.mk ?_);(conv=>whnf))|(refine Ld.cellm (tb:=62) (cs:=cs0) m0 (by rw [ix1];exact c0) ?_)|(refine Ld.cellm (tb:=22) (cs:=cs1) m1 (by rw [ix1];exact c1) ?_)|(refine Ld.cellm (tb:=3) (cs:=cells) m2 (by rw [ix1];exact hcf) ?_)|refine sk113 ?_|(intro b;conv=>whnf)
      refine Sv.cellm (tb:=62) (cs:=cs0') (cs':=cs0'.set k (.v (.slice (some ⟨b1',0,none⟩) (i+(l.length - (i+1))) cap1'))) (τ:=(b1',.cells 22 (spl cs1' (i*1) new)) :: (ts.flatten ++ τ3)) cl18 cl33 rfl cl34 ?_
      repeat' first|((with_reducible refine W.mk ?_);(conv=>whnf))|(refine Ld.cellm (tb:=62) (cs:=cs0) m0 (by rw [ix1];exact c0) ?_)|(refine Ld.cellm (tb:=22) (cs:=cs1) m1 (by rw [ix1];exact c1) ?_)|(refine Ld.cellm (tb:=3) (cs:=cells) m2 (by rw [ix1];exact hcf) ?_)|refine sk113 ?_|(intro b;conv=>whnf)
      have hfin:=up3 _ _ _ ((b0,.cells 62 (cs0'.set k (.v (.slice (some ⟨b1',0,none⟩) (i+(l.length - (i+1))) cap1')))) :: (((b1',.cells 22 cs6) :: ts'.flatten) ++ τ3)) hw1 (List.Perm.refl _)
      exact ⟨_,(aa2 cl7),((Sc.perm cl35).trans (d7 ((b0,.cells 62 (cs0'.set k (.v (.slice (some ⟨b1',0,none⟩) (i+(l.length - (i+1))) cap1')))) :: (ts'.flatten ++ (τ3 ++ tr))))).trans (Sc.drop (ρ:=tr) cl18),hfin⟩
    ·have hm0:l.length - (i+1)=0:=by omega
     rw [hm0] at d1 d2
     repeat' first|((with_reducible refine W.mk ?_);(conv=>whnf))|(refine Ld.cellm (tb:=62) (cs:=cs0') m0' (by rw [ix1];exact c0') ?_)|((with_reducible refine' Ot.yd ?hydq1 ?_);(case hydq1=>first|exact aq8 aa0 (l:=0) (h:=i) rfl rfl rfl rfl (.inl ⟨rfl,rfl⟩) (.inr ⟨_,_,rfl,rfl⟩) (by omega) (by omega) (by omega)|exact aq8 aa0 (l:=i+1) (h:=l.length) rfl rfl rfl rfl (.inr ⟨_,_,rfl,rfl⟩) (.inl ⟨rfl,rfl⟩) (by omega) (by omega) (by omega)|exact aG4 aa0 (c:=cap1') (m:=l.length) rfl rfl rfl rfl cl31 (by omega)))|(refine Bx.r ?_;refine OtE.apown aa0 (e:=22) (b:=b1') (n0:=i) (cap:=cap1') (o2:=0) (m:=0) (c2:=0) (cs:=cs1') (new:=new) (τ:=(b0,.cells 62 cs0') :: (ts.flatten ++ τ3)) rfl rfl rfl rfl rfl rfl rfl cl32 (by rw [List.eq_nil_of_length_eq_zero (by omega:new.length=0)];try simp) (by rw [d2]) (by omega) (by omega) hone ?_)|refine sk113 ?_|(intro b;conv=>whnf)|(refine And.intro ?_ ?_ <;> (conv=>whnf))
     all_goals
      repeat' first|((with_reducible refine W.mk ?_);(conv=>whnf))|(refine Ld.cellm (tb:=62) (cs:=cs0) m0 (by rw [ix1];exact c0) ?_)|(refine Ld.cellm (tb:=22) (cs:=cs1) m1 (by rw [ix1];exact c1) ?_)|(refine Ld.cellm (tb:=3) (cs:=cells) m2 (by rw [ix1];exact hcf) ?_)|refine sk113 ?_|(intro b;conv=>whnf)
      refine Sv.cellm (tb:=62) (cs:=cs0') (cs':=cs0'.set k (.v (.slice (some ⟨b1',0,none⟩) (i+(l.length - (i+1))) cap1'))) (τ:=(b1',.cells 22 (spl cs1' (i*1) new)) :: (ts.flatten ++ τ3)) cl18 cl33 rfl cl34 ?_
      repeat' first|((with_reducible refine W.mk ?_);(conv=>whnf))|(refine Ld.cellm (tb:=62) (cs:=cs0) m0 (by rw [ix1];exact c0) ?_)|(refine Ld.cellm (tb:=22) (cs:=cs1) m1 (by rw [ix1];exact c1) ?_)|(refine Ld.cellm (tb:=3) (cs:=cells) m2 (by rw [ix1];exact hcf) ?_)|refine sk113 ?_|(intro b;conv=>whnf)
      have hfin:=up3 _ _ _ ((b0,.cells 62 (cs0'.set k (.v (.slice (some ⟨b1',0,none⟩) (i+(l.length - (i+1))) cap1')))) :: (((b1',.cells 22 cs6) :: ts'.flatten) ++ τ3)) hw1 (List.Perm.refl _)
      exact ⟨_,(aa2 cl7),((Sc.perm cl35).trans (d7 ((b0,.cells 62 (cs0'.set k (.v (.slice (some ⟨b1',0,none⟩) (i+(l.length - (i+1))) cap1')))) :: (ts'.flatten ++ (τ3 ++ tr))))).trans (Sc.drop (ρ:=tr) cl18),hfin⟩
   ·intro g hg
    repeat' first|((with_reducible refine W.mk ?_);(conv=>whnf))|(refine Ld.cellm (tb:=62) (cs:=cs0) m0 (by rw [ix1];exact c0) ?_)|(refine Ld.cellm (tb:=22) (cs:=cs1) m1 (by rw [ix1];exact c1) ?_)|(refine Ld.cellm (tb:=3) (cs:=cells) m2 (by rw [ix1];exact hcf) ?_)|refine sk113 ?_|(intro b;conv=>whnf)
    exact Rt.by (Vs.frz az1 hg (ai4 _)) ⟨_,rfl,aV9 hw k (by simp;omega) (fun y hy=>(List.mem_append.1 hy).elim (fun h=>by have:=hw.f l hlm y (List.mem_of_mem_take h);omega) (fun h=>by have:=hw.f l hlm y (List.mem_of_mem_drop h);omega)) (fun y hy=>(List.mem_append.1 hy).elim (fun h=>hw.sm.v l hlm y (List.mem_of_mem_take h)) (fun h=>hw.sm.v l hlm y (List.mem_of_mem_drop h)))⟩
  ·repeat' first|((with_reducible refine W.mk ?_);(conv=>whnf))|(refine Ld.cellm (tb:=62) (cs:=cs0) m0 (by rw [ix1];exact c0) ?_)|(refine Ld.cellm (tb:=22) (cs:=cs1) m1 (by rw [ix1];exact c1) ?_)|(refine Ld.cellm (tb:=3) (cs:=cells) m2 (by rw [ix1];exact hcf) ?_)|refine sk113 ?_|(intro b;conv=>whnf)
   refine dr7 ?_
   obtain ⟨b0',cap0',cs0',u3,t3,τ3,e0',p1,c0',hu3,up3⟩:=w_hd hR hl
   cases e0'
   obtain ⟨vs,s0,ts,g1,g2,g3⟩:=hu3.ex
   have hvl:=g2.len.1
   obtain ⟨b1',cap1',cs1',u2',t2',τ2,e1',p2,c1',hu2',_⟩:=RowsOf.at hu3 hr
   subst e1'
   have m0':=p1.mem_iff.2 List.mem_cons_self
   have m1':(b1',Blk.cells 22 cs1')∈s:=p1.mem_iff.2 (List.mem_cons_of_mem _ (List.mem_append_left _ (p2.mem_iff.2 List.mem_cons_self)))
   obtain ⟨ra',rc',rfl⟩:=az9 hu2'
   refine al6 mixed aa0 rfl [0,1,2,3,4,7,8,9,11] 10 (inE [5,6,10,13,14,16,18]) (.three 5 (.two 6 (.one 10 (.fst 12 (.one 13 (.one 14 (.fst 15 (.one 16 (.fst 17 (.one 18 .done)))))))) 10 (.fst 12 (.two 6 (.one 13 (.one 14 (.fst 15 (.one 16 (.fst 17 (.one 18 .done)))))) 13 (.one 6 (.one 14 (.fst 15 (.one 16 (.fst 17 (.one 18 .done))))))))) 6 (.two 5 (.one 10 (.fst 12 (.one 13 (.one 14 (.fst 15 (.one 16 (.fst 17 (.one 18 .done)))))))) 10 (.fst 12 (.two 5 (.one 13 (.one 14 (.fst 15 (.one 16 (.fst 17 (.one 18 .done)))))) 13 (.two 5 (.one 14 (.fst 15 (.one 16 (.fst 17 (.one 18 .done))))) 14 (.fst 15 (.one 5 (.one 16 (.fst 17 (.one 18 .done))))))))) 10 (.fst 12 (.three 5 (.two 6 (.one 13 (.one 14 (.fst 15 (.one 16 (.fst 17 (.one 18 .done)))))) 13 (.one 6 (.one 14 (.fst 15 (.one 16 (.fst 17 (.one 18 .done))))))) 6 (.two 5 (.one 13 (.one 14 (.fst 15 (.one 16 (.fst 17 (.one 18 .done)))))) 13 (.two 5 (.one 14 (.fst 15 (.one 16 (.fst 17 (.one 18 .done))))) 14 (.fst 15 (.one 5 (.one 16 (.fst 17 (.one 18 .done))))))) 13 (.two 5 (.one 6 (.one 14 (.fst 15 (.one 16 (.fst 17 (.one 18 .done)))))) 6 (.two 5 (.one 14 (.fst 15 (.one 16 (.fst 17 (.one 18 .done))))) 14 (.fst 15 (.one 5 (.one 16 (.fst 17 (.one 18 .done)))))))))) (γ:=aa1) (fun _=>[]) (fun g=>g) (fun g=>RW (w.set k (l ++ [r])) (.slice (some ⟨b0,0,none⟩) w.length vc) g) (by decide +kernel) ?_ ?_
   ·repeat' first|((with_reducible refine W.mk ?_);(conv=>whnf))|(refine Ld.cellm (tb:=62) (cs:=cs0') m0' (by rw [ix1];exact c0') ?_)|(refine Ld.cellm (tb:=22) (cs:=cs1') m1' (by rw [ix1];exact c1') ?_)|(refine Ld.cellm (tb:=62) (cs:=cs0') (List.mem_append_right _ (List.mem_append_right _ (List.Mem.head _))) (by rw [ix1];exact c0') ?_)|(refine Bx.r ?_;refine OtE.apcopy (e:=3) aa0 rfl rfl rfl rfl rfl rfl rfl (by decide) rfl (RowIs.e0 _ _ (some ⟨b,0,none⟩)) hu2' (τ:=((b0,Blk.cells 62 cs0') :: (b1',Blk.cells 22 cs1') :: (τ2 ++ τ3))) cl36 (fun y hy d hd=>by rw [List.nil_append] at hy;obtain ⟨z,_,rfl⟩:=List.mem_map.1 hy;rw [List.mem_singleton] at hd;rw [hd];rfl) (fun y hy=>by obtain ⟨z,_,rfl⟩:=List.mem_map.1 hy;rfl) (by simp;omega) (by simp;omega) (fun v5 s5 hr5=>?_);rw [List.nil_append] at hr5;obtain ⟨a5,c5,rfl⟩:=az9 hr5)|(refine Bx.l ?_;(((with_reducible refine W.mk ?_);(conv=>whnf)));refine Ap.go rfl rfl rfl rfl g1 (τ:=(ts.flatten ++ ((b0,Blk.cells 62 cs0') :: (τ3 ++ s5)))) cl37 rfl (zs:=vs.map (fun u=>[D.v u]) ++ [[D.v (.slice a5 r.length c5)]]) rfl (sz_2 (c:=50) (by omega) (by decide)) (by simp;omega) (fun s'=>s' ++ (ts.flatten ++ ((b0,Blk.cells 62 cs0') :: (τ3 ++ s5)))) (fun s'=>List.Perm.refl _) (fun a6 c6 s6 hr6=>?_))|refine sk113 ?_|(intro b;conv=>whnf)|(refine And.intro ?_ ?_ <;> (conv=>whnf))
    all_goals
     have hpu:=an9 g2 hr6 (x:=r) hr5 (s':=s6 ++ (ts.flatten ++ s5)) (List.Perm.refl _)
     have hfin:=up3 _ _ _ ((b0,.cells 62 (cs0'.set k (.v (.slice a6 (vs.map (fun u=>[D.v u]) ++ [[D.v (.slice a5 r.length c5)]]).length c6)))) :: ((s6 ++ (ts.flatten ++ s5)) ++ τ3)) hpu (List.Perm.refl _)
     refine Sv.cellm (tb:=62) (cs:=cs0') (cs':=cs0'.set k (.v (.slice a6 (vs.map (fun u=>[D.v u]) ++ [[D.v (.slice a5 r.length c5)]]).length c6))) (τ:=s6 ++ (ts.flatten ++ (τ3 ++ s5))) cl18 cl33 rfl (by rw [ix1]) ?_
     repeat' first|((with_reducible refine W.mk ?_);(conv=>whnf))|(refine Ld.cellm (tb:=62) (cs:=cs0) m0 (by rw [ix1];exact c0) ?_)|(refine Ld.cellm (tb:=22) (cs:=cs1) m1 (by rw [ix1];exact c1) ?_)|(refine Ld.cellm (tb:=3) (cs:=cells) m2 (by rw [ix1];exact hcf) ?_)|refine sk113 ?_|(intro b;conv=>whnf)
     exact ⟨_,(aa2 cl7),Sc.perm cl18,hfin⟩
   ·intro g hg
    repeat' first|((with_reducible refine W.mk ?_);(conv=>whnf))|(refine Ld.cellm (tb:=62) (cs:=cs0) m0 (by rw [ix1];exact c0) ?_)|(refine Ld.cellm (tb:=22) (cs:=cs1) m1 (by rw [ix1];exact c1) ?_)|(refine Ld.cellm (tb:=3) (cs:=cells) m2 (by rw [ix1];exact hcf) ?_)|refine sk113 ?_|(intro b;conv=>whnf)
    exact Rt.by (Vs.frz az1 hg (ai4 _)) ⟨_,rfl,aV9 hw k (by simp;omega) (fun y hy=>(List.mem_append.1 hy).elim (fun h=>by have:=hw.f l hlm y h;omega) (fun h=>by rw [List.mem_singleton] at h;rw [h];omega)) (fun y hy=>(List.mem_append.1 hy).elim (hw.sm.v l hlm y) (fun h=>by rw [List.mem_singleton] at h;rw [h];exact hw.sm.v l hlm r hrm))⟩
  ·repeat' first|((with_reducible refine W.mk ?_);(conv=>whnf))|(refine Ld.cellm (tb:=62) (cs:=cs0) m0 (by rw [ix1];exact c0) ?_)|(refine Ld.cellm (tb:=22) (cs:=cs1) m1 (by rw [ix1];exact c1) ?_)|(refine Ld.cellm (tb:=3) (cs:=cells) m2 (by rw [ix1];exact hcf) ?_)|refine sk113 ?_|(intro b;conv=>whnf)
   refine dr7 ?_
   refine al6 mixed aa0 rfl [0,1,2,4,5,6,7,9,12,13] 7 (inE [3,8,11,14,16]) (.two 3 (.one 8 (.fst 10 (.one 11 (.one 14 (.fst 15 (.one 16 .done)))))) 8 (.fst 10 (.two 3 (.one 11 (.one 14 (.fst 15 (.one 16 .done)))) 11 (.two 3 (.one 14 (.fst 15 (.one 16 .done))) 14 (.one 3 (.fst 15 (.one 16 .done))))))) (γ:=aa1) (fun _=>[]) (fun g=>g) (fun g=>RW (w.set k (l.set i (r ++ [by_]))) (.slice (some ⟨b0,0,none⟩) w.length vc) g) (by decide +kernel) ?_ ?_
   ·repeat' first|((with_reducible refine W.mk ?_);(conv=>whnf))|(refine Ld.cellm (tb:=62) (cs:=cs0) m0 (by rw [ix1];exact c0) ?_)|(refine Ld.cellm (tb:=22) (cs:=cs1) m1 (by rw [ix1];exact c1) ?_)|(refine Ld.cellm (tb:=3) (cs:=cells) m2 (by rw [ix1];exact hcf) ?_)|refine sk113 ?_|(intro b;conv=>whnf)|(refine Ld.cellm (tb:=62) (cs:=cs0) (List.mem_append_right _ (List.Mem.head _)) (by rw [ix1];exact c0) ?_)|(refine Ap.go rfl rfl rfl rfl hu2 (τ:=((b0,Blk.cells 62 cs0) :: (b1,Blk.cells 22 cs1) :: ρ)) cl17 rfl (zs:=(r ++ [by_]).map fun n=>[iD n]) (by rw [List.map_append];rfl) (sz_i (c:=100) (by simp;omega) (by decide)) (by simp;omega) (fun s'=>s' ++ ((b0,Blk.cells 62 cs0) :: (b1,Blk.cells 22 cs1) :: ρ)) (fun s'=>List.Perm.refl _) (fun a6 c6 s6 hr6=>?_))|(refine And.intro ?_ ?_ <;> (conv=>whnf))
    all_goals
     have hfin:=up (r ++ [by_]) _ s6 ((b0,.cells 62 cs0) :: (b1,.cells 22 (cs1.set i (.v (.slice a6 ((r ++ [by_]).map fun n=>[iD n]).length c6)))) :: (s6 ++ ρ)) hr6 (List.Perm.refl _)
     refine Sv.cellm (tb:=22) (cs:=cs1) (cs':=cs1.set i (.v (.slice a6 ((r ++ [by_]).map fun n=>[iD n]).length c6))) (τ:=(b0,.cells 62 cs0) :: (s6 ++ ρ)) cl18 (by rw [ix1];exact (List.getElem?_eq_some_iff.1 c1).1) rfl (by rw [ix1]) ?_
     repeat' first|((with_reducible refine W.mk ?_);(conv=>whnf))|(refine Ld.cellm (tb:=62) (cs:=cs0) m0 (by rw [ix1];exact c0) ?_)|(refine Ld.cellm (tb:=22) (cs:=cs1) m1 (by rw [ix1];exact c1) ?_)|(refine Ld.cellm (tb:=3) (cs:=cells) m2 (by rw [ix1];exact hcf) ?_)|refine sk113 ?_|(intro b;conv=>whnf)
     exact ⟨_,(aa2 cl7),Sc.perm cl18,hfin⟩
   ·intro g hg
    repeat' first|((with_reducible refine W.mk ?_);(conv=>whnf))|(refine Ld.cellm (tb:=62) (cs:=cs0) m0 (by rw [ix1];exact c0) ?_)|(refine Ld.cellm (tb:=22) (cs:=cs1) m1 (by rw [ix1];exact c1) ?_)|(refine Ld.cellm (tb:=3) (cs:=cells) m2 (by rw [ix1];exact hcf) ?_)|refine sk113 ?_|(intro b;conv=>whnf)
    exact Rt.by (Vs.frz az1 hg (ai4 _)) ⟨_,rfl,aW0 hw k i hlm (by simp;omega) (fun v hv=>(List.mem_append.1 hv).elim (hw.sm.v l hlm r hrm v) (fun h=>by rw [List.mem_singleton] at h;rw [h];exact hbi))⟩
  ·repeat' first|((with_reducible refine W.mk ?_);(conv=>whnf))|(refine Ld.cellm (tb:=62) (cs:=cs0) m0 (by rw [ix1];exact c0) ?_)|(refine Ld.cellm (tb:=22) (cs:=cs1) m1 (by rw [ix1];exact c1) ?_)|(refine Ld.cellm (tb:=3) (cs:=cells) m2 (by rw [ix1];exact hcf) ?_)|refine sk113 ?_|(intro b;conv=>whnf)
   exact Rt.by (Vs.frz az1 hR (ai4 _)) ⟨_,rfl,hw.sm⟩
  ·omega
 ·obtain ⟨c,hc⟩:∃ c,r[f]?=some c:=⟨_,List.getElem?_eq_getElem (by split at hf3 <;> omega)⟩
  have hfl:f<r.length:=(List.getElem?_eq_some_iff.1 hc).1
  clear hf3 hf1
  have hct:=hw.v l hlm r hrm c (List.mem_of_getElem? hc)
  have hcl:=hct.lo
  have hch:=hct.hi
  obtain ⟨b2,cap2,cells,e2,rfl,hrd,hset⟩:=aW4 hu2 (by intro e;subst e;exact hr0 rfl)
  cases e2
  have m2:(b2,Blk.cells 3 cells)∈s:=p0.mem_iff.2 (by simp)
  have hcf:=hrd _ _ hc
  have HA5:=aj0 by_ 7 hby
  obtain ⟨hq1,hq2,_⟩:=aC6 by_ 7
  have hq3:=hq2 (by decide)
  obtain ⟨q,hq⟩:∃ q:Nat,arE by_ 7=q:=⟨(arE by_ 7).toNat,by omega⟩
  rw [hq] at HA5 hq1 hq3
  clear hq hq2
  have hbt:=bR0 by_ (n:=100) (by decide)
  rcases h with _ | _ | _ | _ | _ | _|h
  ·repeat' first|((with_reducible refine W.mk ?_);(conv=>whnf))|(refine Ld.cellm (tb:=62) (cs:=cs0) m0 (by rw [ix1];exact c0) ?_)|(refine Ld.cellm (tb:=22) (cs:=cs1) m1 (by rw [ix1];exact c1) ?_)|(refine Ld.cellm (tb:=3) (cs:=cells) m2 (by rw [ix1];exact hcf) ?_)|refine sk113 ?_|(intro b;conv=>whnf)
   refine Dr.l (by kernel_rfl) ?_
   repeat' first|((with_reducible refine W.mk ?_);(conv=>whnf))|(refine Ld.cellm (tb:=62) (cs:=cs0) m0 (by rw [ix1];exact c0) ?_)|(refine Ld.cellm (tb:=22) (cs:=cs1) m1 (by rw [ix1];exact c1) ?_)|(refine Ld.cellm (tb:=3) (cs:=cells) m2 (by rw [ix1];exact hcf) ?_)|refine sk113 ?_|(intro b;conv=>whnf)
   have hzq:∃ z,([[iD (c+1)],[iD (c - 1)],[iD 0],[iD 1],[iD (by_.tmod 100)],[iD 1099511627777],[iD (-1099511627776)]]:List (List D))[((q:Nat):Int).toNat]?=some [iD z]∧InR z:=by
    rcases q with _ | _ | _ | _ | _ | _ | _|q
    ·exact ⟨_,rfl,by omega,by omega⟩
    ·exact ⟨_,rfl,by omega,by omega⟩
    ·exact ⟨_,rfl,by decide,by decide⟩
    ·exact ⟨_,rfl,by decide,by decide⟩
    ·exact ⟨_,rfl,by omega,by omega⟩
    ·exact ⟨_,rfl,by decide,by decide⟩
    ·exact ⟨_,rfl,by decide,by decide⟩
    ·omega
   obtain ⟨z,hzq,hzi⟩:=hzq
   refine Ix.at hzq (by omega) ?_
   repeat' first|((with_reducible refine W.mk ?_);(conv=>whnf))|(refine Ld.cellm (tb:=62) (cs:=cs0) m0 (by rw [ix1];exact c0) ?_)|(refine Ld.cellm (tb:=22) (cs:=cs1) m1 (by rw [ix1];exact c1) ?_)|(refine Ld.cellm (tb:=3) (cs:=cells) m2 (by rw [ix1];exact hcf) ?_)|refine sk113 ?_|(intro b;conv=>whnf)
   have hcx:=(List.getElem?_eq_some_iff.1 hcf).1
   refine Sv.cellm (tb:=3) (cs:=cells) (cs':=cells.set f (iD z)) (τ:=(b0,.cells 62 cs0) :: (b1,.cells 22 cs1) :: ρ) cl17 (by rw [ix1];exact hcx) rfl (by rw [ix1]) ?_
   have hR2:=up (r.set f z) _ [(b2,.cells 3 (cells.set f (iD z)))] ((b2,.cells 3 (cells.set f (iD z))) :: (b0,.cells 62 cs0) :: (b1,.cells 22 cs1) :: ρ) (hset f z hfl) cl38
   repeat' first|((with_reducible refine W.mk ?_);(conv=>whnf))|(refine Ld.cellm (tb:=62) (cs:=cs0) m0 (by rw [ix1];exact c0) ?_)|(refine Ld.cellm (tb:=22) (cs:=cs1) m1 (by rw [ix1];exact c1) ?_)|(refine Ld.cellm (tb:=3) (cs:=cells) m2 (by rw [ix1];exact hcf) ?_)|refine sk113 ?_|(intro b;conv=>whnf)
   exact Rt.by (Vs.frz az1 hR2 (ai4 _)) ⟨_,rfl,aW0 hw k i hlm (by rw [List.length_set];omega) (bO1 (hw.sm.v l hlm r hrm) hzi)⟩
  ·repeat' first|((with_reducible refine W.mk ?_);(conv=>whnf))|(refine Ld.cellm (tb:=62) (cs:=cs0) m0 (by rw [ix1];exact c0) ?_)|(refine Ld.cellm (tb:=22) (cs:=cs1) m1 (by rw [ix1];exact c1) ?_)|(refine Ld.cellm (tb:=3) (cs:=cells) m2 (by rw [ix1];exact hcf) ?_)|refine sk113 ?_|(intro b;conv=>whnf)
   refine Dr.l (by kernel_rfl) ?_
   repeat' first|((with_reducible refine W.mk ?_);(conv=>whnf))|(refine Ld.cellm (tb:=62) (cs:=cs0) m0 (by rw [ix1];exact c0) ?_)|(refine Ld.cellm (tb:=22) (cs:=cs1) m1 (by rw [ix1];exact c1) ?_)|(refine Ld.cellm (tb:=3) (cs:=cells) m2 (by rw [ix1];exact hcf) ?_)|refine sk113 ?_|(intro b;conv=>whnf)
   have hzq:∃ z,([[iD (c+1)],[iD (c - 1)],[iD 0],[iD 1],[iD (by_.tmod 100)],[iD 1099511627777],[iD (-1099511627776)]]:List (List D))[((q:Nat):Int).toNat]?=some [iD z]∧InR z:=by
    rcases q with _ | _ | _ | _ | _ | _ | _|q
    ·exact ⟨_,rfl,by omega,by omega⟩
    ·exact ⟨_,rfl,by omega,by omega⟩
    ·exact ⟨_,rfl,by decide,by decide⟩
    ·exact ⟨_,rfl,by decide,by decide⟩
    ·exact ⟨_,rfl,by omega,by omega⟩
    ·exact ⟨_,rfl,by decide,by decide⟩
    ·exact ⟨_,rfl,by decide,by decide⟩
    ·omega
   obtain ⟨z,hzq,hzi⟩:=hzq
   refine Ix.at hzq (by omega) ?_
   repeat' first|((with_reducible refine W.mk ?_);(conv=>whnf))|(refine Ld.cellm (tb:=62) (cs:=cs0) m0 (by rw [ix1];exact c0) ?_)|(refine Ld.cellm (tb:=22) (cs:=cs1) m1 (by rw [ix1];exact c1) ?_)|(refine Ld.cellm (tb:=3) (cs:=cells) m2 (by rw [ix1];exact hcf) ?_)|refine sk113 ?_|(intro b;conv=>whnf)
   have hcx:=(List.getElem?_eq_some_iff.1 hcf).1
   refine Sv.cellm (tb:=3) (cs:=cells) (cs':=cells.set f (iD z)) (τ:=(b0,.cells 62 cs0) :: (b1,.cells 22 cs1) :: ρ) cl17 (by rw [ix1];exact hcx) rfl (by rw [ix1]) ?_
   have hR2:=up (r.set f z) _ [(b2,.cells 3 (cells.set f (iD z)))] ((b2,.cells 3 (cells.set f (iD z))) :: (b0,.cells 62 cs0) :: (b1,.cells 22 cs1) :: ρ) (hset f z hfl) cl38
   repeat' first|((with_reducible refine W.mk ?_);(conv=>whnf))|(refine Ld.cellm (tb:=62) (cs:=cs0) m0 (by rw [ix1];exact c0) ?_)|(refine Ld.cellm (tb:=22) (cs:=cs1) m1 (by rw [ix1];exact c1) ?_)|(refine Ld.cellm (tb:=3) (cs:=cells) m2 (by rw [ix1];exact hcf) ?_)|refine sk113 ?_|(intro b;conv=>whnf)
   exact Rt.by (Vs.frz az1 hR2 (ai4 _)) ⟨_,rfl,aW0 hw k i hlm (by rw [List.length_set];omega) (bO1 (hw.sm.v l hlm r hrm) hzi)⟩
  ·repeat' first|((with_reducible refine W.mk ?_);(conv=>whnf))|(refine Ld.cellm (tb:=62) (cs:=cs0) m0 (by rw [ix1];exact c0) ?_)|(refine Ld.cellm (tb:=22) (cs:=cs1) m1 (by rw [ix1];exact c1) ?_)|(refine Ld.cellm (tb:=3) (cs:=cells) m2 (by rw [ix1];exact hcf) ?_)|refine sk113 ?_|(intro b;conv=>whnf)
   refine dr7 ?_
   obtain ⟨b0',cap0',cs0',u3,t3,τ3,e0',p1,c0',hu3,up3⟩:=w_hd hR hl
   cases e0'
   obtain ⟨vs,s0,ts,g1,g2,g3⟩:=hu3.ex
   have hvl:=g2.len.1
   have hlv:(vs.map fun u=>[D.v u]).length=l.length:=by rw [List.length_map,hvl]
   obtain ⟨b1',cap1',junk,rfl,rfl,-,-,-,-⟩:=g1.block (by intro e;rw [e] at hlv;simp at hlv;omega)
   generalize ((vs.map fun u=>[D.v u]).flatten ++ junk)=cs1' at g1 g3
   obtain ⟨d1,d2,-,d4,d5,cs6,d6,d7⟩:=g1.del (i:=i) (by rw [hlv];omega)
   rw [hlv] at d1 d2 d4 d6 c0'
   have hone:((vs.map fun u=>[D.v u]).drop (i+1)).flatten.all oneD=true:=by
    rw [List.all_eq_true]
    intro d hd
    obtain ⟨y,hy,hdy⟩:=List.mem_flatten.1 hd
    obtain ⟨u,hu,rfl⟩:=List.mem_map.1 (List.mem_of_mem_drop hy)
    rw [List.mem_singleton] at hdy
    subst hdy
    exact All3.one (fun x u t h=>by obtain ⟨a,c,rfl⟩:=az9 h;rfl) g2 u hu
   obtain ⟨ts',tr,e3,e4⟩:=g2.del (i:=i) (by omega)
   have hw1:RW1 (l.take i ++ l.drop (i+1)) (.slice (some ⟨b1',0,none⟩) (i+(l.length - (i+1))) cap1') ((b1',.cells 22 cs6) :: ts'.flatten):=⟨vs.take i ++ vs.drop (i+1),[(b1',.cells 22 cs6)],ts',by simpa [List.map_take,List.map_drop] using d6,e3,by simp⟩
   clear d6 e3 hlv
   generalize ((vs.map fun u=>[D.v u]).drop (i+1)).flatten=new at *
   have m0':=p1.mem_iff.2 List.mem_cons_self
   clear g1 g2 hu3
   refine al6 mixed aa0 rfl [0,1,2,3,4,6,8,9,10,12,13] 7 (inE [5,11,15,17]) (.two 5 (.fst 7 (.one 11 (.fst 14 (.one 15 (.fst 16 (.one 17 .done)))))) 11 (.fst 14 (.one 5 (.fst 7 (.one 15 (.fst 16 (.one 17 .done))))))) (γ:=aa1) (fun _=>[]) (fun g=>g) (fun g=>RW (w.set k (l.take i ++ l.drop (i+1))) (.slice (some ⟨b0,0,none⟩) w.length vc) g) (by decide +kernel) ?_ ?_
   ·by_cases hcap:i+1<cap1'
    ·repeat' first|((with_reducible refine W.mk ?_);(conv=>whnf))|(refine Ld.cellm (tb:=62) (cs:=cs0') m0' (by rw [ix1];exact c0') ?_)|((with_reducible refine' Ot.yd ?hydq1 ?_);(case hydq1=>first|exact aq8 aa0 (l:=0) (h:=i) rfl rfl rfl rfl (.inl ⟨rfl,rfl⟩) (.inr ⟨_,_,rfl,rfl⟩) (by omega) (by omega) (by omega)|exact aq8 aa0 (l:=i+1) (h:=l.length) rfl rfl rfl rfl (.inr ⟨_,_,rfl,rfl⟩) (.inl ⟨rfl,rfl⟩) (by omega) (by omega) (by omega)|exact aG4 aa0 (c:=cap1') (m:=l.length) rfl rfl rfl rfl cl31 (by omega)))|(refine Bx.r ?_;refine OtE.apown aa0 (e:=22) (b:=b1') (n0:=i) (cap:=cap1') (o2:=0+(i+1)*1) (m:=l.length - (i+1)) (cs:=cs1') (new:=new) (τ:=(b0,.cells 62 cs0') :: (ts.flatten ++ τ3)) rfl rfl rfl rfl rfl rfl rfl cl32 (by rw [Nat.zero_add];exact d1.symm) d2 (by omega) (by omega) hone ?_)|refine sk113 ?_|(intro b;conv=>whnf)|(refine And.intro ?_ ?_ <;> (conv=>whnf))
     all_goals
      repeat' first|((with_reducible refine W.mk ?_);(conv=>whnf))|(refine Ld.cellm (tb:=62) (cs:=cs0) m0 (by rw [ix1];exact c0) ?_)|(refine Ld.cellm (tb:=22) (cs:=cs1) m1 (by rw [ix1];exact c1) ?_)|(refine Ld.cellm (tb:=3) (cs:=cells) m2 (by rw [ix1];exact hcf) ?_)|refine sk113 ?_|(intro b;conv=>whnf)
      refine Sv.cellm (tb:=62) (cs:=cs0') (cs':=cs0'.set k (.v (.slice (some ⟨b1',0,none⟩) (i+(l.length - (i+1))) cap1'))) (τ:=(b1',.cells 22 (spl cs1' (i*1) new)) :: (ts.flatten ++ τ3)) cl18 cl33 rfl cl34 ?_
      repeat' first|((with_reducible refine W.mk ?_);(conv=>whnf))|(refine Ld.cellm (tb:=62) (cs:=cs0) m0 (by rw [ix1];exact c0) ?_)|(refine Ld.cellm (tb:=22) (cs:=cs1) m1 (by rw [ix1];exact c1) ?_)|(refine Ld.cellm (tb:=3) (cs:=cells) m2 (by rw [ix1];exact hcf) ?_)|refine sk113 ?_|(intro b;conv=>whnf)
      have hfin:=up3 _ _ _ ((b0,.cells 62 (cs0'.set k (.v (.slice (some ⟨b1',0,none⟩) (i+(l.length - (i+1))) cap1')))) :: (((b1',.cells 22 cs6) :: ts'.flatten) ++ τ3)) hw1 (List.Perm.refl _)
      exact ⟨_,(aa2 cl7),((Sc.perm cl35).trans (d7 ((b0,.cells 62 (cs0'.set k (.v (.slice (some ⟨b1',0,none⟩) (i+(l.length - (i+1))) cap1')))) :: (ts'.flatten ++ (τ3 ++ tr))))).trans (Sc.drop (ρ:=tr) cl18),hfin⟩
    ·have hm0:l.length - (i+1)=0:=by omega
     rw [hm0] at d1 d2
     repeat' first|((with_reducible refine W.mk ?_);(conv=>whnf))|(refine Ld.cellm (tb:=62) (cs:=cs0') m0' (by rw [ix1];exact c0') ?_)|((with_reducible refine' Ot.yd ?hydq1 ?_);(case hydq1=>first|exact aq8 aa0 (l:=0) (h:=i) rfl rfl rfl rfl (.inl ⟨rfl,rfl⟩) (.inr ⟨_,_,rfl,rfl⟩) (by omega) (by omega) (by omega)|exact aq8 aa0 (l:=i+1) (h:=l.length) rfl rfl rfl rfl (.inr ⟨_,_,rfl,rfl⟩) (.inl ⟨rfl,rfl⟩) (by omega) (by omega) (by omega)|exact aG4 aa0 (c:=cap1') (m:=l.length) rfl rfl rfl rfl cl31 (by omega)))|(refine Bx.r ?_;refine OtE.apown aa0 (e:=22) (b:=b1') (n0:=i) (cap:=cap1') (o2:=0) (m:=0) (c2:=0) (cs:=cs1') (new:=new) (τ:=(b0,.cells 62 cs0') :: (ts.flatten ++ τ3)) rfl rfl rfl rfl rfl rfl rfl cl32 (by rw [List.eq_nil_of_length_eq_zero (by omega:new.length=0)];try simp) (by rw [d2]) (by omega) (by omega) hone ?_)|refine sk113 ?_|(intro b;conv=>whnf)|(refine And.intro ?_ ?_ <;> (conv=>whnf))
     all_goals
      repeat' first|((with_reducible refine W.mk ?_);(conv=>whnf))|(refine Ld.cellm (tb:=62) (cs:=cs0) m0 (by rw [ix1];exact c0) ?_)|(refine Ld.cellm (tb:=22) (cs:=cs1) m1 (by rw [ix1];exact c1) ?_)|(refine Ld.cellm (tb:=3) (cs:=cells) m2 (by rw [ix1];exact hcf) ?_)|refine sk113 ?_|(intro b;conv=>whnf)
      refine Sv.cellm (tb:=62) (cs:=cs0') (cs':=cs0'.set k (.v (.slice (some ⟨b1',0,none⟩) (i+(l.length - (i+1))) cap1'))) (τ:=(b1',.cells 22 (spl cs1' (i*1) new)) :: (ts.flatten ++ τ3)) cl18 cl33 rfl cl34 ?_
      repeat' first|((with_reducible refine W.mk ?_);(conv=>whnf))|(refine Ld.cellm (tb:=62) (cs:=cs0) m0 (by rw [ix1];exact c0) ?_)|(refine Ld.cellm (tb:=22) (cs:=cs1) m1 (by rw [ix1];exact c1) ?_)|(refine Ld.cellm (tb:=3) (cs:=cells) m2 (by rw [ix1];exact hcf) ?_)|refine sk113 ?_|(intro b;conv=>whnf)
      have hfin:=up3 _ _ _ ((b0,.cells 62 (cs0'.set k (.v (.slice (some ⟨b1',0,none⟩) (i+(l.length - (i+1))) cap1')))) :: (((b1',.cells 22 cs6) :: ts'.flatten) ++ τ3)) hw1 (List.Perm.refl _)
      exact ⟨_,(aa2 cl7),((Sc.perm cl35).trans (d7 ((b0,.cells 62 (cs0'.set k (.v (.slice (some ⟨b1',0,none⟩) (i+(l.length - (i+1))) cap1')))) :: (ts'.flatten ++ (τ3 ++ tr))))).trans (Sc.drop (ρ:=tr) cl18),hfin⟩
   ·intro g hg
    repeat' first|((with_reducible refine W.mk ?_);(conv=>whnf))|(refine Ld.cellm (tb:=62) (cs:=cs0) m0 (by rw [ix1];exact c0) ?_)|(refine Ld.cellm (tb:=22) (cs:=cs1) m1 (by rw [ix1];exact c1) ?_)|(refine Ld.cellm (tb:=3) (cs:=cells) m2 (by rw [ix1];exact hcf) ?_)|refine sk113 ?_|(intro b;conv=>whnf)
    exact Rt.by (Vs.frz az1 hg (ai4 _)) ⟨_,rfl,aV9 hw k (by simp;omega) (fun y hy=>(List.mem_append.1 hy).elim (fun h=>by have:=hw.f l hlm y (List.mem_of_mem_take h);omega) (fun h=>by have:=hw.f l hlm y (List.mem_of_mem_drop h);omega)) (fun y hy=>(List.mem_append.1 hy).elim (fun h=>hw.sm.v l hlm y (List.mem_of_mem_take h)) (fun h=>hw.sm.v l hlm y (List.mem_of_mem_drop h)))⟩
  ·repeat' first|((with_reducible refine W.mk ?_);(conv=>whnf))|(refine Ld.cellm (tb:=62) (cs:=cs0) m0 (by rw [ix1];exact c0) ?_)|(refine Ld.cellm (tb:=22) (cs:=cs1) m1 (by rw [ix1];exact c1) ?_)|(refine Ld.cellm (tb:=3) (cs:=cells) m2 (by rw [ix1];exact hcf) ?_)|refine sk113 ?_|(intro b;conv=>whnf)
   refine dr7 ?_
   obtain ⟨b0',cap0',cs0',u3,t3,τ3,e0',p1,c0',hu3,up3⟩:=w_hd hR hl
   cases e0'
   obtain ⟨vs,s0,ts,g1,g2,g3⟩:=hu3.ex
   have hvl:=g2.len.1
   obtain ⟨b1',cap1',cs1',u2',t2',τ2,e1',p2,c1',hu2',_⟩:=RowsOf.at hu3 hr
   subst e1'
   have m0':=p1.mem_iff.2 List.mem_cons_self
   have m1':(b1',Blk.cells 22 cs1')∈s:=p1.mem_iff.2 (List.mem_cons_of_mem _ (List.mem_append_left _ (p2.mem_iff.2 List.mem_cons_self)))
   obtain ⟨ra',rc',rfl⟩:=az9 hu2'
   refine al6 mixed aa0 rfl [0,1,2,3,4,7,8,9,11] 10 (inE [5,6,10,13,14,16,18]) (.three 5 (.two 6 (.one 10 (.fst 12 (.one 13 (.one 14 (.fst 15 (.one 16 (.fst 17 (.one 18 .done)))))))) 10 (.fst 12 (.two 6 (.one 13 (.one 14 (.fst 15 (.one 16 (.fst 17 (.one 18 .done)))))) 13 (.one 6 (.one 14 (.fst 15 (.one 16 (.fst 17 (.one 18 .done))))))))) 6 (.two 5 (.one 10 (.fst 12 (.one 13 (.one 14 (.fst 15 (.one 16 (.fst 17 (.one 18 .done)))))))) 10 (.fst 12 (.two 5 (.one 13 (.one 14 (.fst 15 (.one 16 (.fst 17 (.one 18 .done)))))) 13 (.two 5 (.one 14 (.fst 15 (.one 16 (.fst 17 (.one 18 .done))))) 14 (.fst 15 (.one 5 (.one 16 (.fst 17 (.one 18 .done))))))))) 10 (.fst 12 (.three 5 (.two 6 (.one 13 (.one 14 (.fst 15 (.one 16 (.fst 17 (.one 18 .done)))))) 13 (.one 6 (.one 14 (.fst 15 (.one 16 (.fst 17 (.one 18 .done))))))) 6 (.two 5 (.one 13 (.one 14 (.fst 15 (.one 16 (.fst 17 (.one 18 .done)))))) 13 (.two 5 (.one 14 (.fst 15 (.one 16 (.fst 17 (.one 18 .done))))) 14 (.fst 15 (.one 5 (.one 16 (.fst 17 (.one 18 .done))))))) 13 (.two 5 (.one 6 (.one 14 (.fst 15 (.one 16 (.fst 17 (.one 18 .done)))))) 6 (.two 5 (.one 14 (.fst 15 (.one 16 (.fst 17 (.one 18 .done))))) 14 (.fst 15 (.one 5 (.one 16 (.fst 17 (.one 18 .done)))))))))) (γ:=aa1) (fun _=>[]) (fun g=>g) (fun g=>RW (w.set k (l ++ [r])) (.slice (some ⟨b0,0,none⟩) w.length vc) g) (by decide +kernel) ?_ ?_
   ·repeat' first|((with_reducible refine W.mk ?_);(conv=>whnf))|(refine Ld.cellm (tb:=62) (cs:=cs0') m0' (by rw [ix1];exact c0') ?_)|(refine Ld.cellm (tb:=22) (cs:=cs1') m1' (by rw [ix1];exact c1') ?_)|(refine Ld.cellm (tb:=62) (cs:=cs0') (List.mem_append_right _ (List.mem_append_right _ (List.Mem.head _))) (by rw [ix1];exact c0') ?_)|(refine Bx.r ?_;refine OtE.apcopy (e:=3) aa0 rfl rfl rfl rfl rfl rfl rfl (by decide) rfl (RowIs.e0 _ _ (some ⟨b,0,none⟩)) hu2' (τ:=((b0,Blk.cells 62 cs0') :: (b1',Blk.cells 22 cs1') :: (τ2 ++ τ3))) cl36 (fun y hy d hd=>by rw [List.nil_append] at hy;obtain ⟨z,_,rfl⟩:=List.mem_map.1 hy;rw [List.mem_singleton] at hd;rw [hd];rfl) (fun y hy=>by obtain ⟨z,_,rfl⟩:=List.mem_map.1 hy;rfl) (by simp;omega) (by simp;omega) (fun v5 s5 hr5=>?_);rw [List.nil_append] at hr5;obtain ⟨a5,c5,rfl⟩:=az9 hr5)|(refine Bx.l ?_;(((with_reducible refine W.mk ?_);(conv=>whnf)));refine Ap.go rfl rfl rfl rfl g1 (τ:=(ts.flatten ++ ((b0,Blk.cells 62 cs0') :: (τ3 ++ s5)))) cl37 rfl (zs:=vs.map (fun u=>[D.v u]) ++ [[D.v (.slice a5 r.length c5)]]) rfl (sz_2 (c:=50) (by omega) (by decide)) (by simp;omega) (fun s'=>s' ++ (ts.flatten ++ ((b0,Blk.cells 62 cs0') :: (τ3 ++ s5)))) (fun s'=>List.Perm.refl _) (fun a6 c6 s6 hr6=>?_))|refine sk113 ?_|(intro b;conv=>whnf)|(refine And.intro ?_ ?_ <;> (conv=>whnf))
    all_goals
     have hpu:=an9 g2 hr6 (x:=r) hr5 (s':=s6 ++ (ts.flatten ++ s5)) (List.Perm.refl _)
     have hfin:=up3 _ _ _ ((b0,.cells 62 (cs0'.set k (.v (.slice a6 (vs.map (fun u=>[D.v u]) ++ [[D.v (.slice a5 r.length c5)]]).length c6)))) :: ((s6 ++ (ts.flatten ++ s5)) ++ τ3)) hpu (List.Perm.refl _)
     refine Sv.cellm (tb:=62) (cs:=cs0') (cs':=cs0'.set k (.v (.slice a6 (vs.map (fun u=>[D.v u]) ++ [[D.v (.slice a5 r.length c5)]]).length c6))) (τ:=s6 ++ (ts.flatten ++ (τ3 ++ s5))) cl18 cl33 rfl (by rw [ix1]) ?_
     repeat' first|((with_reducible refine W.mk ?_);(conv=>whnf))|(refine Ld.cellm (tb:=62) (cs:=cs0) m0 (by rw [ix1];exact c0) ?_)|(refine Ld.cellm (tb:=22) (cs:=cs1) m1 (by rw [ix1];exact c1) ?_)|(refine Ld.cellm (tb:=3) (cs:=cells) m2 (by rw [ix1];exact hcf) ?_)|refine sk113 ?_|(intro b;conv=>whnf)
     exact ⟨_,(aa2 cl7),Sc.perm cl18,hfin⟩
   ·intro g hg
    repeat' first|((with_reducible refine W.mk ?_);(conv=>whnf))|(refine Ld.cellm (tb:=62) (cs:=cs0) m0 (by rw [ix1];exact c0) ?_)|(refine Ld.cellm (tb:=22) (cs:=cs1) m1 (by rw [ix1];exact c1) ?_)|(refine Ld.cellm (tb:=3) (cs:=cells) m2 (by rw [ix1];exact hcf) ?_)|refine sk113 ?_|(intro b;conv=>whnf)
    exact Rt.by (Vs.frz az1 hg (ai4 _)) ⟨_,rfl,aV9 hw k (by simp;omega) (fun y hy=>(List.mem_append.1 hy).elim (fun h=>by have:=hw.f l hlm y h;omega) (fun h=>by rw [List.mem_singleton] at h;rw [h];omega)) (fun y hy=>(List.mem_append.1 hy).elim (hw.sm.v l hlm y) (fun h=>by rw [List.mem_singleton] at h;rw [h];exact hw.sm.v l hlm r hrm))⟩
  ·repeat' first|((with_reducible refine W.mk ?_);(conv=>whnf))|(refine Ld.cellm (tb:=62) (cs:=cs0) m0 (by rw [ix1];exact c0) ?_)|(refine Ld.cellm (tb:=22) (cs:=cs1) m1 (by rw [ix1];exact c1) ?_)|(refine Ld.cellm (tb:=3) (cs:=cells) m2 (by rw [ix1];exact hcf) ?_)|refine sk113 ?_|(intro b;conv=>whnf)
   refine dr7 ?_
   refine al6 mixed aa0 rfl [0,1,2,4,5,6,7,9,12,13] 7 (inE [3,8,11,14,16]) (.two 3 (.one 8 (.fst 10 (.one 11 (.one 14 (.fst 15 (.one 16 .done)))))) 8 (.fst 10 (.two 3 (.one 11 (.one 14 (.fst 15 (.one 16 .done)))) 11 (.two 3 (.one 14 (.fst 15 (.one 16 .done))) 14 (.one 3 (.fst 15 (.one 16 .done))))))) (γ:=aa1) (fun _=>[]) (fun g=>g) (fun g=>RW (w.set k (l.set i (r ++ [by_]))) (.slice (some ⟨b0,0,none⟩) w.length vc) g) (by decide +kernel) ?_ ?_
   ·repeat' first|((with_reducible refine W.mk ?_);(conv=>whnf))|(refine Ld.cellm (tb:=62) (cs:=cs0) m0 (by rw [ix1];exact c0) ?_)|(refine Ld.cellm (tb:=22) (cs:=cs1) m1 (by rw [ix1];exact c1) ?_)|(refine Ld.cellm (tb:=3) (cs:=cells) m2 (by rw [ix1];exact hcf) ?_)|refine sk113 ?_|(intro b;conv=>whnf)|(refine Ld.cellm (tb:=62) (cs:=cs0) (List.mem_append_right _ (List.Mem.head _)) (by rw [ix1];exact c0) ?_)|(refine Ap.go rfl rfl rfl rfl hu2 (τ:=((b0,Blk.cells 62 cs0) :: (b1,Blk.cells 22 cs1) :: ρ)) cl17 rfl (zs:=(r ++ [by_]).map fun n=>[iD n]) (by rw [List.map_append];rfl) (sz_i (c:=100) (by simp;omega) (by decide)) (by simp;omega) (fun s'=>s' ++ ((b0,Blk.cells 62 cs0) :: (b1,Blk.cells 22 cs1) :: ρ)) (fun s'=>List.Perm.refl _) (fun a6 c6 s6 hr6=>?_))|(refine And.intro ?_ ?_ <;> (conv=>whnf))
    all_goals
     have hfin:=up (r ++ [by_]) _ s6 ((b0,.cells 62 cs0) :: (b1,.cells 22 (cs1.set i (.v (.slice a6 ((r ++ [by_]).map fun n=>[iD n]).length c6)))) :: (s6 ++ ρ)) hr6 (List.Perm.refl _)
     refine Sv.cellm (tb:=22) (cs:=cs1) (cs':=cs1.set i (.v (.slice a6 ((r ++ [by_]).map fun n=>[iD n]).length c6))) (τ:=(b0,.cells 62 cs0) :: (s6 ++ ρ)) cl18 (by rw [ix1];exact (List.getElem?_eq_some_iff.1 c1).1) rfl (by rw [ix1]) ?_
     repeat' first|((with_reducible refine W.mk ?_);(conv=>whnf))|(refine Ld.cellm (tb:=62) (cs:=cs0) m0 (by rw [ix1];exact c0) ?_)|(refine Ld.cellm (tb:=22) (cs:=cs1) m1 (by rw [ix1];exact c1) ?_)|(refine Ld.cellm (tb:=3) (cs:=cells) m2 (by rw [ix1];exact hcf) ?_)|refine sk113 ?_|(intro b;conv=>whnf)
     exact ⟨_,(aa2 cl7),Sc.perm cl18,hfin⟩
   ·intro g hg
    repeat' first|((with_reducible refine W.mk ?_);(conv=>whnf))|(refine Ld.cellm (tb:=62) (cs:=cs0) m0 (by rw [ix1];exact c0) ?_)|(refine Ld.cellm (tb:=22) (cs:=cs1) m1 (by rw [ix1];exact c1) ?_)|(refine Ld.cellm (tb:=3) (cs:=cells) m2 (by rw [ix1];exact hcf) ?_)|refine sk113 ?_|(intro b;conv=>whnf)
    exact Rt.by (Vs.frz az1 hg (ai4 _)) ⟨_,rfl,aW0 hw k i hlm (by simp;omega) (fun v hv=>(List.mem_append.1 hv).elim (hw.sm.v l hlm r hrm v) (fun h=>by rw [List.mem_singleton] at h;rw [h];exact hbi))⟩
  ·clear HA5 hbt
   have htd3:InR (at_.tdiv 30):=⟨(ap3 hat 30 (by decide)).1,(ap3 hat 30 (by decide)).2⟩
   have HA6:=aj0 (at_.tdiv 30) l.length (ap3 hat 30 (by decide))
   obtain ⟨hj1,hj2,_⟩:=aC6 (at_.tdiv 30) l.length
   have hj3:=hj2 (by omega)
   obtain ⟨j,hj⟩:∃ j:Nat,arE (at_.tdiv 30) l.length=j:=⟨(arE (at_.tdiv 30) l.length).toNat,by omega⟩
   rw [hj] at HA6 hj1 hj3
   clear hj hj2
   obtain ⟨rj,hrj⟩:∃ r,l[j]?=some r:=⟨_,List.getElem?_eq_getElem (by omega)⟩
   obtain ⟨b0',cap0',cs0',u3,t3,τ3,e0',p1,c0',hu3,up3⟩:=w_hd hR hl
   cases e0'
   obtain ⟨b1',cap1',cs1',u2',t2',τ2,e1',p2,c1',hu2',up2⟩:=RowsOf.at hu3 hr
   obtain ⟨b1'',cap1'',cs1'',u2'',t2'',τ2'',e1'',p2'',c1'',hu2'',_⟩:=RowsOf.at hu3 hrj
   subst e1'
   cases e1''
   have m0':=p1.mem_iff.2 List.mem_cons_self
   have m1':(b1',Blk.cells 22 cs1')∈s:=p1.mem_iff.2 (List.mem_cons_of_mem _ (List.mem_append_left _ (p2.mem_iff.2 List.mem_cons_self)))
   have m1'':(b1',Blk.cells 22 cs1'')∈s:=p1.mem_iff.2 (List.mem_cons_of_mem _ (List.mem_append_left _ (p2''.mem_iff.2 List.mem_cons_self)))
   obtain ⟨b2',cap2',cells',e2',rfl,hrd',hset'⟩:=aW4 hu2' (by intro e;subst e;exact hr0 rfl)
   subst e2'
   have m2':(b2',Blk.cells 3 cells')∈s:=p1.mem_iff.2 (List.mem_cons_of_mem _ (List.mem_append_left _ (p2.mem_iff.2 (List.mem_cons_of_mem _ (by simp)))))
   have hcf':=hrd' _ _ hc
   by_cases hfj:f<rj.length
   ·obtain ⟨cj,hcj⟩:∃ c,rj[f]?=some c:=⟨_,List.getElem?_eq_getElem hfj⟩
    obtain ⟨b2'',cap2'',cells'',e2'',rfl,hrd'',hset''⟩:=aW4 hu2'' (by intro e;subst e;simp at hfj)
    subst e2''
    have m2'':(b2'',Blk.cells 3 cells'')∈s:=p1.mem_iff.2 (List.mem_cons_of_mem _ (List.mem_append_left _ (p2''.mem_iff.2 (List.mem_cons_of_mem _ (by simp)))))
    have hcf'':=hrd'' _ _ hcj
    repeat' first|((with_reducible refine W.mk ?_);(conv=>whnf))|((refine' Ld.cellm (tb:=62) (cs:=cs0') m0' ?hq7 ?_);(case hq7=>(rw [ix1];exact c0')))|((refine' Ld.cellm (tb:=22) (cs:=cs1') m1' ?hq7 ?_);(case hq7=>(rw [ix1];exact c1')))|((refine' Ld.cellm (tb:=22) (cs:=cs1'') m1'' ?hq7 ?_);(case hq7=>(rw [ix1];exact c1'')))|((refine' Ld.cellm (tb:=3) (cs:=cells') m2' ?hq7 ?_);(case hq7=>(rw [ix1];exact hcf')))|((refine' Ld.cellm (tb:=3) (cs:=cells'') m2'' ?hq7 ?_);(case hq7=>(rw [ix1];exact hcf'')))|refine sk113 ?_|(intro b;conv=>whnf)
    refine Dr.l (by kernel_rfl) ?_
    repeat' first|((with_reducible refine W.mk ?_);(conv=>whnf))|((refine' Ld.cellm (tb:=62) (cs:=cs0') m0' ?hq7 ?_);(case hq7=>(rw [ix1];exact c0')))|((refine' Ld.cellm (tb:=22) (cs:=cs1') m1' ?hq7 ?_);(case hq7=>(rw [ix1];exact c1')))|((refine' Ld.cellm (tb:=22) (cs:=cs1'') m1'' ?hq7 ?_);(case hq7=>(rw [ix1];exact c1'')))|((refine' Ld.cellm (tb:=3) (cs:=cells') m2' ?hq7 ?_);(case hq7=>(rw [ix1];exact hcf')))|((refine' Ld.cellm (tb:=3) (cs:=cells'') m2'' ?hq7 ?_);(case hq7=>(rw [ix1];exact hcf'')))|refine sk113 ?_|(intro b;conv=>whnf)
    refine Sv.cellm (tb:=3) (cs:=cells') (cs':=cells'.set f (iD cj)) (τ:=(b0,.cells 62 cs0') :: (b1',.cells 22 cs1') :: (τ2 ++ τ3)) cl36 (by rw [ix1];exact (List.getElem?_eq_some_iff.1 hcf').1) rfl (by rw [ix1]) ?_
    have hu4:=up2 (r.set f cj) _ [(b2',.cells 3 (cells'.set f (iD cj)))] ((b1',.cells 22 cs1') :: ([(b2',.cells 3 (cells'.set f (iD cj)))] ++ τ2)) (hset' f cj hfl) (by rw [aA3 c1'])
    have hR1:=up3 _ _ _ ((b2',.cells 3 (cells'.set f (iD cj))) :: (b0,.cells 62 cs0') :: (b1',.cells 22 cs1') :: (τ2 ++ τ3)) hu4 (by rw [aA3 c0'];refine ac9 fun a=>?_;simp only [List.append_eq,List.nil_append,ad1,af7,af6];omega)
    have hrjm:=List.mem_of_getElem? hrj
    have hcjt:=hw.v l hlm rj hrjm cj (List.mem_of_getElem? hcj)
    have hw1:=bD6 hw k i hlm (r':=r.set f cj) (by rw [List.length_set];exact hrn) (fun v hv=>(List.mem_or_eq_of_mem_set hv).elim (hw.v l hlm r hrm v) (fun h=>by rw [h];exact hcjt))
    have hl1:(w.set k (l.set i (r.set f cj)))[k]?=some (l.set i (r.set f cj)):=List.getElem?_set_self (by omega)
    generalize hl1e:l.set i (r.set f cj)=l1 at *
    have hl1n:l1.length=l.length:=by rw [← hl1e,List.length_set]
    obtain ⟨rj1,hrj1⟩:∃ r,l1[j]?=some r:=⟨_,List.getElem?_eq_getElem (by omega)⟩
    have hfj1:f<rj1.length:=by
     rw [← hl1e,List.getElem?_set] at hrj1
     split at hrj1
     ·split at hrj1
      ·cases hrj1;rw [List.length_set];exact hfl
      ·cases hrj1
     ·rw [hrj] at hrj1;cases hrj1;exact hfj
    generalize w.set k l1=w1 at *
    clear m0' m1' m1'' m2' m2'' hR p0 p1 p2 p2'' up up2 up3
    generalize (b2',Blk.cells 3 (cells'.set f (iD cj))) :: (b0,Blk.cells 62 cs0') :: (b1',Blk.cells 22 cs1') :: (τ2 ++ τ3)=s1 at *
    obtain ⟨b0x,cap0x,cs0x,b1x,cap1x,cs1x,u2x,t2x,ρx,e0x,p0x,c0x,c1x,hu2x,upx⟩:=w_at hR1 hl1 hrj1
    obtain ⟨ea,_,_⟩:=Value.slice.inj e0x
    cases ea
    obtain ⟨b2x,cap2x,cellsx,e2x,rfl,hrdx,hsetx⟩:=aW4 hu2x (by intro e;subst e;simp at hfj1)
    subst e2x
    have m0x:=mem1 p0x
    have m1x:=mem2 p0x
    have hcx:=(List.getElem?_eq_some_iff.1 (hrdx f _ (List.getElem?_eq_getElem hfj1))).1
    repeat' first|((with_reducible refine W.mk ?_);(conv=>whnf))|((refine' Ld.cellm (tb:=62) (cs:=cs0x) m0x ?hq7 ?_);(case hq7=>(rw [ix1];exact c0x)))|((refine' Ld.cellm (tb:=22) (cs:=cs1x) m1x ?hq7 ?_);(case hq7=>(rw [ix1];exact c1x)))|refine sk113 ?_|(intro b;conv=>whnf)
    refine Sv.cellm (tb:=3) (cs:=cellsx) (cs':=cellsx.set f (iD c)) (τ:=(b0,.cells 62 cs0x) :: (b1x,.cells 22 cs1x) :: ρx) (by refine ac9 fun a=>?_;have e1:=ai0 p0x a;simp only [List.append_eq,List.nil_append,ad1,af7,af6] at e1 ⊢;omega) (by rw [ix1];exact hcx) rfl (by rw [ix1]) ?_
    have hR2:=upx (rj1.set f c) _ [(b2x,.cells 3 (cellsx.set f (iD c)))] ((b2x,.cells 3 (cellsx.set f (iD c))) :: (b0,.cells 62 cs0x) :: (b1x,.cells 22 cs1x) :: ρx) (hsetx f c hfj1) (by rw [aA3 c1x];refine ac9 fun a=>?_;simp only [List.append_eq,List.nil_append,ad1,af7,af6];omega)
    have hl1m:=List.mem_of_getElem? hl1
    have hrj1m:=List.mem_of_getElem? hrj1
    repeat' first|((with_reducible refine W.mk ?_);(conv=>whnf))|((refine' Ld.cellm (tb:=62) (cs:=cs0x) m0x ?hq7 ?_);(case hq7=>(rw [ix1];exact c0x)))|((refine' Ld.cellm (tb:=22) (cs:=cs1x) m1x ?hq7 ?_);(case hq7=>(rw [ix1];exact c1x)))|refine sk113 ?_|(intro b;conv=>whnf)
    exact Rt.by (Vs.frz az1 hR2 (ai4 _)) ⟨_,rfl,aW0 hw1 k j hl1m (by rw [List.length_set];have:=hw1.f l1 hl1m rj1 hrj1m;omega) (fun v hv=>(List.mem_or_eq_of_mem_set hv).elim (hw1.sm.v l1 hl1m rj1 hrj1m v) (fun h=>by rw [h];exact ⟨by omega,by omega⟩))⟩
   ·obtain ⟨ra'',rc'',rfl⟩:=az9 hu2''
    repeat' first|((with_reducible refine W.mk ?_);(conv=>whnf))|((refine' Ld.cellm (tb:=62) (cs:=cs0') m0' ?hq7 ?_);(case hq7=>(rw [ix1];exact c0')))|((refine' Ld.cellm (tb:=22) (cs:=cs1') m1' ?hq7 ?_);(case hq7=>(rw [ix1];exact c1')))|((refine' Ld.cellm (tb:=22) (cs:=cs1'') m1'' ?hq7 ?_);(case hq7=>(rw [ix1];exact c1'')))|((refine' Ld.cellm (tb:=3) (cs:=cells') m2' ?hq7 ?_);(case hq7=>(rw [ix1];exact hcf')))|((refine' Ld.cellm (tb:=3) (cs:=cells'') m2'' ?hq7 ?_);(case hq7=>(rw [ix1];exact hcf'')))|refine sk113 ?_|(intro b;conv=>whnf)
    exact Rt.by (Vs.frz az1 hR (ai4 _)) ⟨_,rfl,hw.sm⟩
  ·omega
end
end Go.Proofs.YtlcfiilejnnlnaaGreatDoor
