/- A part of the proof: Vd Ve Vf Vg Bld SrcA. -/
import Derived.Test.YtjbbmjjildhfbaaGreatDoorP17
import Derived.Test.YtjbbmjjildhfbaaGreatDoorProg
import Derived.Shelf.Abstract
import Derived.Lib.Builder
import Derived.Lib.AppendStr
import Derived.Lib.UnsafeStr
import Derived.Laws.Externs
import Derived.Maps.AppendAt
import Derived.Lib.ItoaLen
import Derived.Lib.LaidTab
set_option maxRecDepth 100000
set_option maxHeartbeats 4000000
set_option linter.unusedVariables false
set_option linter.unusedSimpArgs false
namespace Go.Proofs.YtjbbmjjildhfbaaGreatDoor
section
open Go Go.Maps Go.MapKept
theorem CS.rs {x:Sch} {w:Wd} {s:Sb} {v:Value} {bl:Nat} {σ:aa1} (h:CS x w s v bl σ):∃ σs ρ,RS s v σs∧σ.Perm (σs ++ ρ):=by
 obtain ⟨σs,R,J,h1,_,h3⟩:=h
 exact ⟨σs,R ++ J,h1,h3⟩
theorem CS.perm {x:Sch} {w:Wd} {s:Sb} {v:Value} {bl:Nat} {σ σ':aa1} (h:CS x w s v bl σ) (hp:σ'.Perm σ):CS x w s v bl σ':=by
 obtain ⟨σs,R,J,h1,h2,h3⟩:=h
 exact ⟨σs,R,J,h1,h2,hp.trans h3⟩
theorem CS.junk {x:Sch} {w:Wd} {s:Sb} {v:Value} {bl:Nat} {σ:aa1} (h:CS x w s v bl σ) (ρ:aa1):CS x w s v bl (σ ++ ρ):=by
 obtain ⟨σs,R,J,h1,h2,h3⟩:=h
 exact ⟨σs,R,J ++ ρ,h1,h2,by (refine ac3 fun a=>?_;have e1:=aj8 h3 a;simp only [List.append_eq,List.nil_append,ac4,ae4,ae6,rfC,atC,iD,bD] at e1 ⊢;omega)⟩
theorem cl_copied_o (s:Sb) (hs:Ss s) {v:Value} {σ σs ρ:aa1} (h:RS s v σs) (hp:σ.Perm (σs ++ ρ)):ACall Tryz.prog 67 [.v v] σ (fun d σ'=>d=slS2 s∧σ'=σ):=
 (ACall.peek (.cons (Pk.frz frz_s h hp) .nil) (bh2 s hs) (fun d s' ⟨v,e,h⟩=>by subst e;exact ⟨rfl,fl_s _ _ _ h⟩)).vs2 fun d s' ⟨s'',e,v',e2,h'⟩=>by
  subst e e2
  exact ⟨_,σ,Vs.frz frz_s h' (List.Perm.refl _),rfl,rfl⟩
theorem aI6 (x:Sch) (w:Wd) (s:Sb) (hF:Fit x w s) (a:Option Addr) (c bl:Nat) (σ:aa1) (hC:CS x w s (.slice a s.length c) bl σ) :
  ACall Tryz.prog 42 [.ro (stC x w (.slice a s.length c) bl)] σ (fun d σ'=>d = .v (.slice a s.length c)∧CS x w (ah0 x w s) (.slice a s.length c) bl σ'):=by
 have hsl:=hF.ss.nk
 refine aa4 mixed aa0 Tryz.func42 (by kernel_rfl) rfl Tryz.ntmps42 rfl ?_;intro BB
 repeat' (first|refine sk75 ?_|(intro b;conv=>whnf))
 refine aa9 mixed aa0 (γ:=Nat × Bool × Sb × aa1) (fun g=>[(3,.v (.pointer (some ⟨g.1,0,none⟩)))]) (fun g=>(g.1,.cells 4 [bD g.2.1]) :: g.2.2.2) (fun g=>shI x w s g.2.1 g.2.2.1∧CS x w g.2.2.1 (.slice a s.length c) bl g.2.2.2) (fun g=>if g.2.1=true then al8 g.2.2.1+1 else 0) (b,true,s,σ) (aa2 cl2) cl3 ⟨⟨rfl,rfl⟩,hC⟩ ?_
 rintro ⟨b3,ag,t,σ1⟩ ⟨⟨hlen,hsh⟩,hC1⟩
 simp only at hlen hsh hC1 ⊢
 cases ag with
 | false=>
  simp only [Bool.false_eq_true,if_false] at hsh
  rw [hsh] at hC1
  repeat' (first|refine sk75 ?_|(intro b;conv=>whnf))
  exact Rt.by (Vs.drop (List.sublist_cons_self _ _)) ⟨rfl,hC1⟩
 | true=>
  simp only [if_true] at hsh
  have htl:t.length=s.length:=by have:=congrArg List.length hlen;simpa using this
  have hFt:=hF.lens hlen
  have hkl:=aE5 hFt.ss
  obtain ⟨σs,ρ,hR,hp⟩:=hC1.rs
  repeat' (first|refine sk75 ?_|(intro b;conv=>whnf))
  refine CE.own (cl_copied_o t hFt.ss hR (σ:=(b3,.cells 4 [bD false]) :: σ1) (ρ:=(b3,.cells 4 [bD false]) :: ρ) (by (refine ac3 fun a=>?_;have e1:=aj8 hp a;simp only [List.append_eq,List.nil_append,ac4,ae4,ae6,rfC,atC,iD,bD] at e1 ⊢;omega))) (aM8 _) (fun s'=>s') aS4 ?_
  rintro _ _ ⟨rfl,rfl⟩
  repeat' (first|refine sk75 ?_|(intro b;conv=>whnf))
  refine aE0 mixed aa0 rfl (ax8 t hFt.ss) (fun x hx=>aO2 hx) rfl (γ:=aa1) (fun k g=>(b3,.cells 4 [bD (swK x w t k).2]) :: g) (fun k g=>CS x w (swK x w t k).1 (.slice a s.length c) bl g) σ1 cl3 hC1 ?_ ?_
  ·rintro lb k g y hy hCg
   obtain ⟨p,hpk,rfl⟩:=aO3 hy
   have hkb:=swK_kept (x:=x) (w:=w) hpk
   have hsu:=swK_succ (x:=x) (w:=w) hpk
   have hUf:Fit x w (swK x w t k).1:=hFt.lens (swK_lens t k)
   have hUl:(swK x w t k).1.length=s.length:=by have:=congrArg List.length (swK_lens (x:=x) (w:=w) t k);simp at this;omega
   obtain ⟨k',i',l,e1,e2,hl,hb⟩:=au9 (show ao6 (swK x w t k).1 p.1 p.2=true by unfold ao6;simp [hkb])
   obtain rfl:p.1=k':=by omega
   obtain rfl:p.2=i':=by omega
   obtain ⟨wl,hwl,hwll⟩:=ah8 hUf.shp.symm hl
   obtain ⟨wy,hwy⟩:∃ y,wl[p.2]?=some y:=⟨_,List.getElem?_eq_getElem (by have:=(List.getElem?_eq_some_iff.1 hb).1;omega)⟩
   have HW:=cl_wrong x w (swK x w t k).1 hUf p.1 p.2 wl wy hwl hwy a c bl g (by rw [hUl];exact hCg)
   have HD:=cl_drop x w (swK x w t k).1 hUf p.1 p.2 hkb a c bl g (by rw [hUl];exact hCg)
   rw [hUl] at HW HD
   generalize swK x w t k=U at *
   repeat' (first|refine sk75 ?_|(intro b;conv=>whnf))
   refine CE.own HW (show List.Perm _ (g ++ [(b,.cells 33 (atC p.1 p.2)),(b3,.cells 4 [bD U.2])]) by (refine ac3 fun a=>?_;simp only [List.append_eq,List.nil_append,ac4,ae4,ae6,rfC,atC,iD,bD];omega)) (fun s'=>(b,.cells 33 (atC p.1 p.2)) :: (b3,.cells 4 [bD U.2]) :: s') (fun s'=>cl6) ?_
   rintro _ s2 ⟨rfl,e⟩
   rw [e]
   clear e
   repeat' (first|refine sk75 ?_|(intro b;conv=>whnf)|(with_reducible refine Br.d (fun hc=>?_) (fun hc=>?_))|(with_reducible refine Br.b (fun hc=>?_) (fun hc=>?_)))
   ·have hs1:ad8 x w U p=(ah6 U.1 p.1 p.2,true):=by unfold ad8;rw [hkb,hc];rfl
    rw [hs1] at hsu
    refine CE.own HD (show List.Perm _ (g ++ [(b,.cells 33 (atC p.1 p.2)),(b3,.cells 4 [bD U.2])]) by (refine ac3 fun a=>?_;simp only [List.append_eq,List.nil_append,ac4,ae4,ae6,rfC,atC,iD,bD];omega)) (fun s'=>(b,.cells 33 (atC p.1 p.2)) :: (b3,.cells 4 [bD U.2]) :: s') (fun s'=>cl6) ?_
    rintro _ s' ⟨rfl,hs'⟩
    repeat' (first|refine sk75 ?_|(intro b;conv=>whnf))
    refine ⟨s',?_,?_⟩
    ·simp only [hsu];exact cl3
    ·simp only [hsu];exact hs'
   ·have hs1:ad8 x w U p=U:=by unfold ad8;rw [hkb,hc];rfl
    rw [hs1] at hsu
    refine ⟨g,?_,?_⟩
    ·simp only [hsu];exact cl3
    ·simp only [hsu];exact hCg
  ·rintro g hCg
   have hL:((ae5 t).map fun p=>[atD p.1 p.2]).length=(ae5 t).length:=List.length_map _
   rw [hL,swK_all] at hCg
   have hst:=aL5 (x:=x) (w:=w) t
   cases hag:(al4 x w t).2 with
   | true=>
    rw [hag] at hst
    have hlt:=aJ5 hag
    rw [hL,swK_all,hag]
    repeat' (first|refine sk75 ?_|(intro b;conv=>whnf))
    exact ⟨(b,true,(al4 x w t).1,g),(aa2 cl2),List.Sublist.cons_cons _ (List.sublist_cons_self _ _),⟨⟨(ay1 _ _).trans hlen,by simp only [if_true];rw [← hsh,hst];rfl⟩,hCg⟩,by simp only [if_true];omega⟩
   | false=>
    rw [hag] at hst
    have hno:=sweep_no hag
    rw [hL,swK_all,hag]
    repeat' (first|refine sk75 ?_|(intro b;conv=>whnf))
    exact ⟨(b,false,(al4 x w t).1,g),(aa2 cl2),List.Sublist.cons_cons _ (List.sublist_cons_self _ _),⟨⟨(ay1 _ _).trans hlen,by simp only [Bool.false_eq_true,if_false];rw [hno,← hsh,hst];rfl⟩,hCg⟩,by simp⟩
end
section
open Go Go.Maps Go.MapKept
theorem sk90 {A B:Prop} (k:B) (h:Hd7 B→A:=by intro hk7q;(first|refine sb0 ?_|refine sb1 ?_|((with_reducible refine' Cp.by ?hc ?_);(case hc=>exact HC))|((with_reducible refine' CE.pure ?hc ?_);(case hc=>exact HC)));exact hk7q.run):A:=h ⟨k⟩
theorem cl_greatest (x:Sch) (w:Wd) (s:Sb) (hw:Ws w) (hs:Ss s) (HV:APure Tryz.prog 81 [schD x] (iD (af9 x))):ACall Tryz.prog 19 [schD x,slW w,slS2 s] [] (fun d σ=>∃ v σ1 σ2,d = .tup [.v v,iD (aI1 x w s).2]∧σ=σ1 ++ σ2∧RS (aI1 x w s).1 v σ1):=by
 have HC:=aA1 x w s hw HV
 by_cases h0:ab8 x w s=0
 ·rw [aO6 h0]
  have hF:=aA2 hw hs h0
  refine aa4 mixed aa0 Tryz.func19 (by kernel_rfl) rfl Tryz.ntmps19 rfl ?_;intro BB
  repeat' (first|refine sk90 ?_|(intro b;conv=>whnf))
  refine CE.own (aZ9 x w s hF) (List.Perm.refl []) (fun s'=>s') (fun s'=>by simp) ?_
  rintro _ σ ⟨a,c,bl,rfl,hC⟩
  repeat' (first|refine sk90 ?_|(intro b;conv=>whnf))
  refine CE.own (aI6 x w s hF a c bl σ hC) (aM8 _) (fun s'=>s') aS4 ?_
  rintro _ σ' ⟨rfl,hC'⟩
  obtain ⟨σs,ρ,hR,hp⟩:=hC'.rs
  repeat' (first|refine sk90 ?_|(intro b;conv=>whnf))
  exact Rt.by (Vs.perm hp) ⟨_,σs,ρ,rfl,rfl,hR⟩
 ·rw [great_no h0]
  refine aa4 mixed aa0 Tryz.func19 (by kernel_rfl) rfl Tryz.ntmps19 rfl ?_;intro BB
  repeat' (first|refine sk90 ?_|(intro b;conv=>whnf))
  exact Rt.same ⟨_,[],_,rfl,rfl,aM1⟩
theorem sk91 {A B:Prop} (k:B) (h:Hd7 B→A:=by intro hk7q;(first|refine sb0 ?_|refine sb1 ?_|((with_reducible refine' Cp.by ?hc ?_);(case hc=>first|exact HC|exact ay4 _))|((with_reducible refine' CE.pure ?hc ?_);(case hc=>first|exact HC|exact ay4 _)));exact hk7q.run):A:=h ⟨k⟩
theorem cl_valid (x:Sch) (w:Wd) (s:Sb) (hw:Ws w) (hs:Ss s) (HV:APure Tryz.prog 81 [schD x] (iD (af9 x))):APure Tryz.prog 21 [schD x,slW w,slS2 s] (bD (ai0 x w s)):=by
 have HC:=aA1 x w s hw HV
 have hkl:=aE5 hs
 by_cases h0:ab8 x w s=0
 ·have hF:=aA2 hw hs h0
  refine APure.of_call (aa4 mixed aa0 Tryz.func21 (by kernel_rfl) rfl Tryz.ntmps21 rfl ?_);intro BB
  repeat' (first|refine sk91 ?_|(intro b;conv=>whnf))
  generalize b=b6
  refine CE.own (aZ9 x w s hF) (List.Perm.refl ([] ++ [(b6,Blk.cells 4 [bD false])])) (fun s'=>(b6,.cells 4 [bD false]) :: s') (fun s'=>cl6) ?_
  rintro _ σ ⟨a,c,bl,rfl,hC⟩
  repeat' (first|refine sk91 ?_|(intro b;conv=>whnf))
  generalize b=b7
  refine aE0 mixed aa0 rfl (ax8 s hs) (fun x hx=>aO2 hx) rfl (γ:=Unit) (fun _ _=>(b7,.cells 78 [.ro (stC x w (.slice a s.length c) bl)]) :: (b6,.cells 4 [bD false]) :: σ) (fun k _=>∀ j p,j<k→(ae5 s)[j]?=some p→aw3 x w s p.1 p.2=false) () (List.Sublist.refl _) (fun j p h=>by omega) ?_ ?_
  ·rintro lb k - y hy hI
   obtain ⟨p,hpk,rfl⟩:=aO3 hy
   have hkb:keptB s p.1 p.2=true:=aq6.1 (List.mem_of_getElem? hpk)
   obtain ⟨k',i',l,e1,e2,hl,hb⟩:=au9 (show ao6 s p.1 p.2=true by unfold ao6;simp [hkb])
   obtain rfl:p.1=k':=by omega
   obtain rfl:p.2=i':=by omega
   obtain ⟨wl,hwl,hwll⟩:=ah8 hF.shp.symm hl
   obtain ⟨wy,hwy⟩:∃ y,wl[p.2]?=some y:=⟨_,List.getElem?_eq_getElem (by have:=(List.getElem?_eq_some_iff.1 hb).1;omega)⟩
   have HW:=cl_wrong x w s hF p.1 p.2 wl wy hwl hwy a c bl σ hC
   repeat' (first|refine sk91 ?_|(intro b;conv=>whnf))
   refine CE.own HW (show List.Perm _ (σ ++ [(b,.cells 33 (atC p.1 p.2)),(b7,.cells 78 [.ro (stC x w (.slice a s.length c) bl)]),(b6,.cells 4 [bD false])]) by (refine ac3 fun a=>?_;simp only [List.append_eq,List.nil_append,ac4,ae4,ae6,rfC,atC,iD,bD];omega)) (fun s'=>(b,.cells 33 (atC p.1 p.2)) :: (b7,.cells 78 [.ro (stC x w (.slice a s.length c) bl)]) :: (b6,.cells 4 [bD false]) :: s') (fun s'=>cl6) ?_
   rintro _ s2 ⟨rfl,e⟩
   rw [e]
   clear e
   repeat' (first|refine sk91 ?_|(intro b;conv=>whnf)|(with_reducible refine Br.d (fun hc=>?_) (fun hc=>?_))|(with_reducible refine Br.b (fun hc=>?_) (fun hc=>?_)))
   ·refine Rs.c1 aa0 rfl rfl (List.mem_cons_of_mem _ (List.mem_cons_of_mem _ List.mem_cons_self)) rfl rfl ?_
    repeat' (first|refine sk91 ?_|(intro b;conv=>whnf))
    refine Rt.pure (congrArg bD ?_)
    unfold ai0
    rw [Eq.comm,Bool.and_eq_false_iff]
    refine .inr (List.all_eq_false.2 ⟨p,ax9 hkb,?_⟩)
    rw [hkb,hc];simp
   ·refine ⟨(),List.sublist_cons_self _ _,fun j p' hj hp'=>?_⟩
    by_cases ej:j=k
    ·subst ej;cases hpk.symm.trans hp';exact hc
    ·exact hI j p' (by omega) hp'
  ·rintro - hI
   have hL:((ae5 s).map fun p=>[atD p.1 p.2]).length=(ae5 s).length:=List.length_map _
   rw [hL] at hI
   repeat' (first|refine sk91 ?_|(intro b;conv=>whnf))
   refine Rs.c1 aa0 rfl rfl (List.mem_cons_of_mem _ List.mem_cons_self) rfl rfl ?_
   repeat' (first|refine sk91 ?_|(intro b;conv=>whnf))
   refine Rt.pure (congrArg bD ?_)
   unfold ai0
   rw [decide_eq_true h0,Bool.true_and,Eq.comm,List.all_eq_true]
   intro p hp
   cases hkp:keptB s p.1 p.2 with
   | false=>rfl
   | true=>
    obtain ⟨j,hj⟩:=List.getElem?_of_mem (aq6.2 hkp)
    rw [hI j p (List.getElem?_eq_some_iff.1 hj).1 hj];rfl
 ·rw [valid_no h0]
  refine APure.of_call (aa4 mixed aa0 Tryz.func21 (by kernel_rfl) rfl Tryz.ntmps21 rfl ?_);intro BB
  repeat' (first|refine sk91 ?_|(intro b;conv=>whnf))
  refine Rs.c1 aa0 rfl rfl (List.mem_singleton.2 rfl) rfl rfl ?_
  repeat' (first|refine sk91 ?_|(intro b;conv=>whnf))
  refine Rt.pure (congrArg bD ?_)
  rfl
end
section
open Go Go.Maps Go.MapKept
theorem cl_without (x:Sch) (w:Wd) (s:Sb) (hw:Ws w) (hs:Ss s) (k i:Int) (HV:APure Tryz.prog 81 [schD x] (iD (af9 x))):ACall Tryz.prog 12 [schD x,slW w,slS2 s,atD k i] [] (fun d σ=>∃ v σ1 σ2,d = .tup [.v v,iD (ad1 x w s k i).2]∧σ=σ1 ++ σ2∧RS (ad1 x w s k i).1 v σ1):=by
 have HC:=aA1 x w s hw HV
 have hsl:=hs.nk
 by_cases h0:ab8 x w s=0
 ·have hF:=aA2 hw hs h0
  by_cases h1:ao6 s k i=true
  ·rw [wout_yes h0 h1]
   obtain ⟨k,i,l,rfl,rfl,hl,hb⟩:=au9 h1
   have hkb:=av8 hl hb
   have hl':s[((k:Nat):Int).toNat]?=some l:=hl
   have hb':l[((i:Nat):Int).toNat]?=some true:=hb
   have hkl:=(List.getElem?_eq_some_iff.1 hl).1
   have hil:=(List.getElem?_eq_some_iff.1 hb).1
   have hll:=hs.nr l (List.mem_of_getElem? hl)
   refine aa4 mixed aa0 Tryz.func12 (by kernel_rfl) rfl Tryz.ntmps12 rfl ?_;intro BB
   repeat' (first|refine sk90 ?_|(intro b;conv=>whnf))
   refine CE.own (aZ9 x w s hF) (List.Perm.refl []) (fun s'=>s') (fun s'=>by simp) ?_
   rintro _ σ ⟨a,c,bl,rfl,hC⟩
   repeat' (first|refine sk90 ?_|(intro b;conv=>whnf))
   refine CE.own (cl_drop x w s hF k i hkb a c bl σ hC) (aM8 _) (fun s'=>s') aS4 ?_
   rintro _ σ' ⟨rfl,hC'⟩
   have hF2:=hF.lens (aC0 s k i)
   repeat' (first|refine sk90 ?_|(intro b;conv=>whnf))
   have HG:=aI6 x w (ah6 s k i) hF2 a c bl σ' (by rw [aw2];exact hC')
   rw [aw2] at HG
   refine CE.own HG (aM8 _) (fun s'=>s') aS4 ?_
   rintro _ σ2 ⟨rfl,hC2⟩
   obtain ⟨σs,ρ,hR,hp⟩:=hC2.rs
   repeat' (first|refine sk90 ?_|(intro b;conv=>whnf))
   exact Rt.by (Vs.perm hp) ⟨_,σs,ρ,rfl,rfl,hR⟩
  ·rw [wout_6 h0 (by simpa using h1)]
   rw [Bool.not_eq_true] at h1
   by_cases g1:k<0
   ·refine aa4 mixed aa0 Tryz.func12 (by kernel_rfl) rfl Tryz.ntmps12 rfl ?_;intro BB
    repeat' (first|refine sk90 ?_|(intro b;conv=>whnf))
    exact Rt.same ⟨_,[],_,rfl,rfl,aM1⟩
   ·by_cases g2:k.toNat<s.length
    ·obtain ⟨l,hl⟩:∃ l,s[k.toNat]?=some l:=⟨_,List.getElem?_eq_getElem g2⟩
     by_cases g3:i<0
     ·refine aa4 mixed aa0 Tryz.func12 (by kernel_rfl) rfl Tryz.ntmps12 rfl ?_;intro BB
      repeat' (first|refine sk90 ?_|(intro b;conv=>whnf))
      exact Rt.same ⟨_,[],_,rfl,rfl,aM1⟩
     ·by_cases g4:i.toNat<l.length
      ·obtain ⟨b,hb⟩:∃ b,l[i.toNat]?=some b:=⟨_,List.getElem?_eq_getElem g4⟩
       have hbf:b=false:=by
        unfold ao6 at h1
        rw [av8 hl hb,decide_eq_true (by omega),decide_eq_true (by omega)] at h1
        simpa using h1
       subst hbf
       refine aa4 mixed aa0 Tryz.func12 (by kernel_rfl) rfl Tryz.ntmps12 rfl ?_;intro BB
       repeat' (first|refine sk90 ?_|(intro b;conv=>whnf))
       exact Rt.same ⟨_,[],_,rfl,rfl,aM1⟩
      ·refine aa4 mixed aa0 Tryz.func12 (by kernel_rfl) rfl Tryz.ntmps12 rfl ?_;intro BB
       repeat' (first|refine sk90 ?_|(intro b;conv=>whnf))
       exact Rt.same ⟨_,[],_,rfl,rfl,aM1⟩
    ·refine aa4 mixed aa0 Tryz.func12 (by kernel_rfl) rfl Tryz.ntmps12 rfl ?_;intro BB
     repeat' (first|refine sk90 ?_|(intro b;conv=>whnf))
     exact Rt.same ⟨_,[],_,rfl,rfl,aM1⟩
 ·rw [wout_no h0]
  refine aa4 mixed aa0 Tryz.func12 (by kernel_rfl) rfl Tryz.ntmps12 rfl ?_;intro BB
  repeat' (first|refine sk90 ?_|(intro b;conv=>whnf))
  exact Rt.same ⟨_,[],_,rfl,rfl,aM1⟩
end
section
open Go Go.Maps Go.MapKept
def aZ0 (s T:Sb) (m:Nat):List (Nat × Nat):=((ae5 s).take m).filter fun p=>!keptB T p.1 p.2
theorem goneK_succ {s T:Sb} {m:Nat} {p:Nat × Nat} (h:(ae5 s)[m]?=some p):aZ0 s T (m+1)=aZ0 s T m ++ (if keptB T p.1 p.2 then [] else [p]):=by
 unfold aZ0
 rw [af4 h,List.filter_append]
 cases h2:keptB T p.1 p.2 <;> simp [h2]
theorem goneK_all (s T:Sb):aZ0 s T (ae5 s).length=(ae5 s).filter fun p=>!keptB T p.1 p.2:=by unfold aZ0;rw [List.take_length]
theorem goneK_le (s T:Sb) (hs:Ss s) (m:Nat):(aZ0 s T m).length≤1000000:=by
 unfold aZ0
 refine Nat.le_trans (List.length_filter_le _ _) ?_
 rw [List.length_take]
 have:=aE5 hs
 omega
theorem aC1 (x:Sch) (w:Wd) (s:Sb) (hw:Ws w) (hs:Ss s) (k i:Int) (HV:APure Tryz.prog 81 [schD x] (iD (af9 x))):APure Tryz.prog 14 [schD x,slW w,slS2 s,atD k i] (.tup [slAt (am2 x w s k i).1,iD (am2 x w s k i).2]):=by
 have HW:=cl_without x w s hw hs k i HV
 have hkl:=aE5 hs
 by_cases h0:(ad1 x w s k i).2=0
 ·rw [tog_yes h0]
  have hF:=wout_fit hw hs h0
  have hTl:=wout_lens h0
  have hsl:=hs.nk
  generalize hT:(ad1 x w s k i).1=T at *
  have hTs:T.length=s.length:=by have:=congrArg List.length hTl;simpa using this
  generalize (ad1 x w s k i).2=c0 at *
  refine APure.of_call (aa4 mixed aa0 Tryz.func14 (by kernel_rfl) rfl Tryz.ntmps14 rfl ?_);intro BB
  repeat' (first|refine sk75 ?_|(intro b;conv=>whnf))
  refine CE.own HW (List.Perm.refl []) (fun s'=>s') (fun s'=>by simp) ?_
  rintro _ _ ⟨v,σ1,σ2,rfl,rfl,hR⟩
  obtain ⟨a0,cp0,rfl⟩:=hR.slice
  repeat' (first|refine sk75 ?_|(intro b;conv=>whnf))
  generalize b=b12
  rename_i b10
  refine aE0 mixed aa0 rfl (ax8 s hs) (fun x hx=>aO2 hx) rfl (γ:=Value × aa1) (fun _ g=>(b12,.cells 46 [.v g.1]) :: (b10,.cells 35 [.v (.slice a0 T.length cp0)]) :: (g.2 ++ (σ1 ++ σ2))) (fun m g=>RA (aZ0 s T m) g.1 g.2) (.slice none 0 0,[]) (List.Sublist.refl _) (RowIs.nil _ _) ?_ ?_
  ·rintro lb m ⟨v,τ⟩ y hy hA
   obtain ⟨p,hpk,rfl⟩:=aO3 hy
   have hkb:keptB s p.1 p.2=true:=aq6.1 (List.mem_of_getElem? hpk)
   obtain ⟨k',i',l,e1,e2,hl,hb⟩:=au9 (show ao6 s p.1 p.2=true by unfold ao6;simp [hkb])
   obtain rfl:p.1=k':=by omega
   obtain rfl:p.2=i':=by omega
   have hll:=hs.nr l (List.mem_of_getElem? hl)
   have hil:=(List.getElem?_eq_some_iff.1 hb).1
   have hkl':=(List.getElem?_eq_some_iff.1 hl).1
   obtain ⟨m',hm,hml⟩:=ah8 hTl.symm hl
   obtain ⟨c,hc⟩:∃ c,m'[p.2]?=some c:=⟨_,List.getElem?_eq_getElem (by omega)⟩
   obtain ⟨b0,cap0,cs0,b1,cap1,cs1,ρ,e1,h2,h3,h4,h5⟩:=au3 hR hm hc
   cases e1
   have m0:(b0,Blk.cells 62 cs0)∈τ ++ (σ1 ++ σ2):=List.mem_append_right _ (List.mem_append_left _ (h2.mem_iff.2 (by simp)))
   have m1:(b1,Blk.cells 4 cs1)∈τ ++ (σ1 ++ σ2):=List.mem_append_right _ (List.mem_append_left _ (h2.mem_iff.2 (by simp)))
   have hkc:=av8 hm hc
   have hgs:=goneK_succ (T:=T) hpk
   rw [hkc] at hgs
   have hgl:=goneK_le s T hs (m+1)
   simp only at hA
   repeat' (first|refine sk75 ?_|(intro b;conv=>whnf))
   refine Ld.cellm (cs:=cs0) (List.mem_cons_of_mem _ (List.mem_cons_of_mem _ (List.mem_cons_of_mem _ m0))) (by rw [ix1];exact h3) ?_
   repeat' (first|refine sk75 ?_|(intro b;conv=>whnf))
   refine Ld.cellm (cs:=cs1) (List.mem_cons_of_mem _ (List.mem_cons_of_mem _ (List.mem_cons_of_mem _ m1))) (by rw [ix1];exact h4) ?_
   cases c with
   | true=>
    repeat' (first|refine sk75 ?_|(intro b;conv=>whnf))
    simp only [if_true,List.append_nil] at hgs
    exact ⟨(v,τ),List.sublist_cons_self _ _,by rw [hgs];exact hA⟩
   | false=>
    simp only [Bool.false_eq_true,if_false] at hgs
    repeat' (first|refine sk75 ?_|(intro b;conv=>whnf))
    refine Ap.go rfl rfl rfl rfl hA (τ:=(b,.cells 33 (atC p.1 p.2)) :: (b12,.cells 46 [.v v]) :: (b10,.cells 35 [.v (.slice (some ⟨b0,0,none⟩) T.length cp0)]) :: (σ1 ++ σ2)) cl5 rfl (zs:=(aZ0 s T (m+1)).map fun p=>atC p.1 p.2) (by rw [hgs,List.map_append];rfl) (by rw [List.length_map];omega) (by rw [List.length_map];omega) (fun s'=>(b,.cells 33 (atC p.1 p.2)) :: (b12,.cells 46 [.v v]) :: (b10,.cells 35 [.v (.slice (some ⟨b0,0,none⟩) T.length cp0)]) :: (s' ++ (σ1 ++ σ2))) (fun s'=>cl6) (fun a2 c2 s2 hr2=>?_)
    repeat' (first|refine sk75 ?_|(intro b;conv=>whnf))
    exact ⟨(_,s2),List.sublist_cons_self _ _,hr2⟩
  ·rintro ⟨v,τ⟩ hA
   have hL:((ae5 s).map fun p=>[atD p.1 p.2]).length=(ae5 s).length:=List.length_map _
   rw [hL,goneK_all] at hA
   simp only at hA
   repeat' (first|refine sk75 ?_|(intro b;conv=>whnf))
   refine Rt.vs (Vs.tup (.cons (Vs.row (τ:=(b12,.cells 46 [.v v]) :: (b10,.cells 35 [.v (.slice a0 T.length cp0)]) :: (σ1 ++ σ2)) hA cl5) (.cons (Vs.refl _ _) (.nil _))))
 ·rw [tog_no h0]
  generalize (ad1 x w s k i).2=c0 at *
  refine APure.of_call (aa4 mixed aa0 Tryz.func14 (by kernel_rfl) rfl Tryz.ntmps14 rfl ?_);intro BB
  repeat' (first|refine sk75 ?_|(intro b;conv=>whnf))
  refine CE.own HW (List.Perm.refl []) (fun s'=>s') (fun s'=>by simp) ?_
  rintro _ _ ⟨v,σ1,σ2,rfl,rfl,hR⟩
  obtain ⟨a0,cp0,rfl⟩:=hR.slice
  repeat' (first|refine sk75 ?_|(intro b;conv=>whnf))
  exact Rt.vs (Vs.tup (.cons (Vs.row (RowIs.nil 33 2) (aM8 _)) (.cons (Vs.refl _ _) (.nil _))))
end
section
open Go.RowKit Go.Shelf
def Bld (w:World) (B b n:Nat) (O:Option Nat):Prop:=
 ∃ (l:List UInt8) (p v:Value),l.length=n∧(p = .pointer none∨p = .pointer (some ⟨b,0,none⟩))∧B≤b∧w.heap[b]?=some (.cells #[p,v] 206 (0,0)) ∧
  w.ownsRow B 5 1 v l.length (Lib.byteCells l)∧v.ownBlock=O∧O≠some b
theorem Ex.grownBy {w w':World} (h:Ex w w'):w.grownBy w' none:=⟨Keep.os h,Keep.tape h,Keep.output h,Keep.size h,fun k hk _=>Ex.block h k hk⟩
theorem Bld.lt {w:World} {B b n:Nat} {O:Option Nat} (h:Bld w B b n O):b<w.heap.size:=by
 obtain ⟨l,p,v,_,_,_,hb,_⟩:=h
 rcases Nat.lt_or_ge b w.heap.size with h' | h'
 ·exact h'
 ·simp [Array.getElem?_eq_none h'] at hb
theorem Bld.le {w:World} {B b n:Nat} {O:Option Nat} (h:Bld w B b n O):B≤w.heap.size:=by
 have:=h.lt
 obtain ⟨l,p,v,_,_,hB,_⟩:=h
 omega
theorem Bld.ex {w w':World} {B b n:Nat} {O:Option Nat} (h:Bld w B b n O) (he:Ex w w'):Bld w' B b n O:=by
 have hlt:=h.lt
 obtain ⟨l,p,v,h1,h2,h3,h4,h5,h6,h7⟩:=h
 exact ⟨l,p,v,h1,h2,h3,by rw [he.block b hlt];exact h4,h5.kept he.grownBy (by cases h:v.ownBlock <;> simp),h6,h7⟩
theorem Bld.fresh (w:World) (B:Nat) (hB:B≤w.heap.size):Bld (w.alloc (.cells #[.pointer none,.slice none 0 0] 206)) B w.heap.size 0 none:=
 ⟨[],.pointer none,.slice none 0 0,rfl,.inl rfl,hB,by show (w.heap.push _)[w.heap.size]?=_;simp,World.ownsRow_nil _ _ _ _,rfl,by simp⟩
theorem infoByte:(Tryz.prog.info? 5).map (fun i=>(i.zero,i.size,i.bytes))=some (some (.int .u8 0),1,1):=by kernel_rfl
theorem sizeBuilder:(Tryz.prog.info? 206).map (fun i=>i.size)=some 2:=by kernel_rfl
theorem aQ8 (b:Nat) (w:World) (h0:w.cell? ⟨b,0,none⟩=some (.pointer (some ⟨b,0,none⟩))) :
  Calls Tryz.prog 165 #[.pointer (some ⟨b,0,none⟩)] w fun e w'=>e = .returned (.tuple #[])∧w=w':=by
 obtain ⟨j,hj,_⟩:=Option.map_eq_some_iff.1 sizeBuilder
 go_enter Tryz.func165,Tryz.ntmps165
 go_wp2
 rw [Lib.run_neq_ptr_same w _ Tryz.underlying203 hj]
 go_wp2
 go_end0
 exact ⟨rfl,rfl⟩
theorem aP2 (b:Nat) (w:World) (h0:w.cell? ⟨b,0,none⟩=some (.pointer none)) (hsh:w.shape? b=some (206,2)) (hfz:w.frozen? ⟨b,0,none⟩=false) :
  Calls Tryz.prog 165 #[.pointer (some ⟨b,0,none⟩)] w fun e w'=>e = .returned (.tuple #[])∧w'=w.setCell ⟨b,0,none⟩ (.pointer (some ⟨b,0,none⟩)):=by
 obtain ⟨j,hj,hjs⟩:=Option.map_eq_some_iff.1 sizeBuilder
 go_enter Tryz.func165,Tryz.ntmps165
 go_wp2
 rw [Lib.run_to_unsafe w ⟨b,0,none⟩ Tryz.underlying203 Tryz.underlying238 hj (by rw [hjs];decide) hsh (Nat.zero_lt_succ 1)]
 simp only [Result.andThen]
 rw [Oper.upon_value]
 go_wp2
 rw [run_callFunc_extern Tryz.func180 (by kernel_rfl) (by kernel_rfl) (by kernel_rfl) (e:=Extern.AbiNoEscape.same) (by kernel_rfl)]
 rw [Lib.run_noEscape]
 simp only [Result.andThen]
 rw [Oper.upon_value]
 go_wp2
 rw [Lib.run_from_unsafe w ⟨b,0,none⟩ Tryz.underlying238 Tryz.underlying203 hj hsh (by kernel_rfl)]
 simp only [Result.andThen]
 rw [Oper.upon_value]
 go_wp2
 go_end0
 exact ⟨rfl,rfl⟩
theorem aF0 {w:World} {B b n:Nat} {O:Option Nat} (h:Bld w B b n O) :
  Calls Tryz.prog 165 #[.pointer (some ⟨b,0,none⟩)] w fun e w'=>e = .returned (.tuple #[])∧(Keep (fun x=>x=b) w w' ∧
   ∃ (l:List UInt8) (v:Value),l.length=n∧B≤b∧w'.heap[b]?=some (.cells #[.pointer (some ⟨b,0,none⟩),v] 206 (0,0))∧w'.ownsRow B 5 1 v l.length (Lib.byteCells l)∧v.ownBlock=O∧O≠some b):=by
 have hlt:=h.lt
 obtain ⟨l,p,v,h1,h2,h3,h4,h5,h6,h7⟩:=h
 rcases h2 with rfl|rfl
 ·refine (aP2 b w (by simp [World.cell?,h4]) (by simp [World.shape?,h4]) (by simp [World.frozen?,h4])).mono ?_
  rintro e w' ⟨rfl,rfl⟩
  refine ⟨rfl,(Keep.refl (fun x=>x=b) w).setCell (p:=⟨b,0,none⟩) (.inr rfl) _,l,v,h1,h3,?_,ownsRow_setCell_other h5 (by rw [h6];exact h7) _,h6,h7⟩
  simp only [World.setCell,Array.getElem?_modify,if_true,h4]
  rfl
 ·refine (aQ8 b w (by simp [World.cell?,h4])).mono ?_
  rintro e w' ⟨rfl,rfl⟩
  exact ⟨rfl,Keep.refl _ _,l,v,h1,h3,h4,h5,h6,h7⟩
def Wrote (w w':World) (B b n:Nat) (O:Option Nat):Prop:=Keep (fun x=>x=b∨some x=O) w w'∧∃ O',Bld w' B b n O'∧(O'=O∨∃ g,O'=some g∧w.heap.size≤g)
theorem aJ2 {w:World} {base:Nat} {v v':Value} {n:Nat} {xs:List Value} (hown:w.ownsRow base 5 1 v n xs) (s:ByteArray) (hbytes:n+s.size≤140737488355328) {w':World} {ty:TypeId}
  (hrun:(Builtin.append_ #[204,9] ty #[v,.string s]).run Tryz.prog w = .ok v' w'):v'.ownBlock=v.ownBlock∨v'.ownBlock=some w.heap.size:=by
 obtain ⟨i,hi,hz0,hz1,hz2⟩:=info_parts infoByte
 rcases hown.2 with ⟨rfl,rfl⟩|⟨g,cap,cur,rfl,hbg,hg,hnc,hcm,hcs,htake⟩
 ·by_cases hm:s.size=0
  ·have hf:=Lib.run_firstCells_string (P:=Tryz.prog) w 1 s
   rw [hm] at hf
   simp [Builtin.append_,run_underlying Tryz.underlying204,run_underlying Tryz.underlying9,sizeOf,typeInfo,hi,hz1,Builtin.lenOf,hm,hf] at hrun
   obtain ⟨rfl,rfl⟩:=hrun
   exact .inl rfl
  ·have hr:=run_append_nil_string (P:=Tryz.prog) w 204 9 ty 5 i (.int .u8 0) Tryz.underlying204 Tryz.underlying9 hi hz0 s (by omega) (by omega) (by rw [hz2];omega)
   rw [hr] at hrun
   cases hrun
   exact .inr rfl
 ·by_cases hroom:n+s.size≤cap
  ·have hcs':cur.size=cap:=by simpa using hcs
   have hr:=Lib.run_append_room_string (P:=Tryz.prog) w 204 9 ty 5 i Tryz.underlying204 Tryz.underlying9 hi hz1 g n cap cur hg s hroom (by omega)
   rw [hr] at hrun
   cases hrun
   exact .inl rfl
  ·have holds:∀ j u,xs[j]?=some u→w.cell? ((⟨g,0,none⟩:Addr).add j)=some u:=hown.cells (g:=g) rfl
   have hr:=Lib.run_append_grow_string (P:=Tryz.prog) w 204 9 ty 5 i (.int .u8 0) Tryz.underlying204 Tryz.underlying9 hi hz0 ⟨g,0,none⟩ n cap xs (by rw [hz1];simpa using hown.1) holds s (by omega) (by omega) (by rw [hz2];exact growslice_fits (by omega) (by omega))
   rw [hr] at hrun
   cases hrun
   exact .inr rfl
theorem aF4 {w:World} {ops:Array Oper} {rest:List Oper} {o:Oper} {a:Act} {Q:Exit→Act→World→Prop} (hgd:o.guard=none) (sl x:Operand)
  (ho:o.op = .call { callee:=.builtin .append,args:=#[sl,x],argTypes:=#[204,9] })
  (base:Nat) (v:Value) (n:Nat) (xs:List Value) (hs:a.eval sl=v) (hown:w.ownsRow base 5 1 v n xs) (s:ByteArray) (hx:a.eval x = .string s)
  (hbytes:n+s.size≤140737488355328) (hbase:base≤w.heap.size)
  (h:∀ v' w',w'.ownsRow base 5 1 v' (n+s.size) (xs ++ Lib.strCells s)→w.grownBy w' v.ownBlock→(v'.ownBlock=v.ownBlock∨v'.ownBlock=some w.heap.size)→wpList Tryz.prog ops Q rest (a.put o.dst v') w'):wpList Tryz.prog ops Q (o :: rest) a w:=by
 obtain ⟨i,hi,hz0,hz1,hz2⟩:=info_parts infoByte
 refine wpList_plain hgd fun K hK=>?_
 obtain ⟨v',w',hr,h2,h3,h4⟩:=Lib.run_append_own_string (P:=Tryz.prog) w base 204 9 o.type 5 i Tryz.underlying204 Tryz.underlying9 hi hz0 hz1 hz2 v n xs hown s (by unfold maxLen;omega) hbytes hbase
 have h5:=aJ2 hown s hbytes hr
 unfold Oper.wp execOp
 simp only [ho,resolve,invoke,builtin,Sem.run_bind,Sem.run_pure,Result.andThen_ok,List.map_toArray,List.map_cons,List.map_nil,hs,hx,hr]
 exact hK _ _ (h v' w' h2 h3 h5)
theorem aQ1 (s:ByteArray):Lib.strCells s=Lib.byteCells s.data.toList:=by
 simp [Lib.strCells,Lib.byteCells]
theorem aw5 (l m:List UInt8):Lib.byteCells l ++ Lib.byteCells m=Lib.byteCells (l ++ m):=by simp [Lib.byteCells]
theorem ak4 (l:List UInt8):(Lib.byteCells l).length=l.length:=by simp [Lib.byteCells]
theorem wrote_of {w w1 w2:World} {B b n m:Nat} {O:Option Nat} {v v':Value} {l:List UInt8} (hk:Keep (fun x=>x=b) w w1) (hl:l.length=n+m) (hB:B≤b) (hb1:w1.heap[b]?=some (.cells #[.pointer (some ⟨b,0,none⟩),v] 206 (0,0)))
  (hO:v.ownBlock=O) (hne:O≠some b) (hown:w2.ownsRow B 5 1 v' (n+m) (Lib.byteCells l)) (hgrow:w1.grownBy w2 v.ownBlock) (hat:v'.ownBlock=v.ownBlock∨∃ g,v'.ownBlock=some g∧w1.heap.size≤g) :
  Wrote w (w2.setCell ⟨b,1,none⟩ v') B b (n+m) O:=by
 have hlt:b<w1.heap.size:=by
  rcases Nat.lt_or_ge b w1.heap.size with h' | h'
  ·exact h'
  ·simp [Array.getElem?_eq_none h'] at hb1
 have hb2:w2.heap[b]?=some (.cells #[.pointer (some ⟨b,0,none⟩),v] 206 (0,0)):=by
  rw [hgrow.block b hlt (fun e=>hne (hO ▸ e.symm))];exact hb1
 have hne':v'.ownBlock≠some b:=by
  rcases hat with h|⟨g,h,hg⟩
  ·rw [h,hO];exact hne
  ·rw [h];intro e;cases e;omega
 refine ⟨?_,v'.ownBlock,⟨l,_,v',hl,.inr rfl,hB,?_,?_,rfl,hne'⟩,?_⟩
 ·have h1:Keep (fun x=>x=b∨some x=O) w w1:=hk.mono (fun x _ h=>.inl h)
  have h2:Keep (fun x=>x=b∨some x=O) w w2:=h1.grown hgrow (fun k e=>.inr (.inr (by rw [← hO,e])))
  exact h2.setCell (p:=⟨b,1,none⟩) (.inr (.inl rfl)) _
 ·simp only [World.setCell,Array.getElem?_modify,if_true,hb2]
  rfl
 ·rw [hl];exact ownsRow_setCell_other hown hne' _
 ·rcases hat with h|⟨g,h,hg⟩
  ·exact .inl (h.trans hO)
  ·exact .inr ⟨g,h,Nat.le_trans hk.size hg⟩
theorem av6 {w:World} {b:Nat} {o:Obj} (h:w.heap[b]?=some o):b<w.heap.size:=by
 rcases Nat.lt_or_ge b w.heap.size with h' | h'
 ·exact h'
 ·simp [Array.getElem?_eq_none h'] at h
theorem ai7 {w:World} {B b n:Nat} {O:Option Nat} (h:Bld w B b n O) (s:ByteArray) (hn:n+s.size≤140737488355328) :
  Calls Tryz.prog 138 #[.pointer (some ⟨b,0,none⟩),.string s] w fun e w'=>e = .returned (.tuple #[.int .i64 s.size,.nilIface])∧Wrote w w' B b (n+s.size) O:=by
 have HC:=Lib.hid (aF0 h)
 have hBw:=h.le
 go_enter Tryz.func138,Tryz.ntmps138
 go_wp2_with (go_at_call 165;refine HC.out.mono ?_)
 rintro e w1 ⟨rfl,hk,l,v,hl,hB,hb1,hown,hO,hne⟩
 have HB:=Lib.hid hb1
 have HL:=Lib.hid hl
 have HO:=Lib.hid hO
 have c0:w1.cell? ⟨b,0,none⟩=some (.pointer (some ⟨b,0,none⟩)):=by simp [World.cell?,hb1]
 have c1:w1.cell? ⟨b,1,none⟩=some v:=by simp [World.cell?,hb1]
 clear hb1 hl hO
 have hsz:=hk.size
 go_wp2_with (at_builtin;refine aF4 rfl _ _ rfl B v _ _ rfl hown s rfl (by rw [HL.out];exact hn) (by omega) ?_)
 intro v' w2 hown' hgrow hat
 have hb2:w2.heap[b]?=some (.cells #[.pointer (some ⟨b,0,none⟩),v] 206 (0,0)):=by
  rw [hgrow.block b (av6 HB.out) (fun e=>hne (HO.out ▸ e.symm))];exact HB.out
 have d1:w2.cell? ⟨b,1,none⟩=some v:=by simp [World.cell?,hb2]
 have d0:w2.cell? ⟨b,0,none⟩=some (.pointer (some ⟨b,0,none⟩)):=by simp [World.cell?,hb2]
 have f1:w2.frozen? ⟨b,1,none⟩=false:=by simp [World.frozen?,hb2]
 clear hb2
 have HW:Hid (Wrote w (w2.setCell ⟨b,1,none⟩ v') B b (n+s.size) O):=by
  refine wrote_of (l:=l ++ s.data.toList) hk ?_ hB HB.out HO.out hne ?_ hgrow ?_
  ·rw [List.length_append,HL.out];rfl
  ·rw [← aw5,← aQ1,← HL.out];exact hown'
  ·rcases hat with h|h
   ·exact .inl h
   ·exact .inr ⟨_,h,Nat.le_refl _⟩
 obtain ⟨ao,n',cap,rfl⟩:∃ ao n' cap,v' = .slice ao n' cap:=by
  rcases hown'.2 with ⟨hv,h0⟩|⟨g,cap,cur,hv,_⟩
  ·exact ⟨_,_,_,hv⟩
  ·exact ⟨_,_,_,hv⟩
 clear hown hown' hgrow hat
 go_wp2
 go_ret2
 exact ⟨rfl,HW.out⟩
theorem aU8 {w:World} {B b n:Nat} {O:Option Nat} (h:Bld w B b n O) (c:UInt8) (hn:n+1≤140737488355328) :
  Calls Tryz.prog 166 #[.pointer (some ⟨b,0,none⟩),.int .u8 c.toNat] w fun e w'=>e = .returned .nilIface∧Wrote w w' B b (n+1) O:=by
 have HC:=Lib.hid (aF0 h)
 have hBw:=h.le
 obtain ⟨i0,hi,hz0,hz1,hz2⟩:=info_parts infoByte
 go_enter Tryz.func166,Tryz.ntmps166
 go_wp2_with (go_at_call 165;refine HC.out.mono ?_)
 rintro e w1 ⟨rfl,hk,l,v,hl,hB,hb1,hown,hO,hne⟩
 have HB:=Lib.hid hb1
 have HL:=Lib.hid hl
 have HO:=Lib.hid hO
 have c0:w1.cell? ⟨b,0,none⟩=some (.pointer (some ⟨b,0,none⟩)):=by simp [World.cell?,hb1]
 have c1:w1.cell? ⟨b,1,none⟩=some v:=by simp [World.cell?,hb1]
 have hlt:=av6 hb1
 clear hb1 hl hO
 have hsz:=hk.size
 go_wp2_with (at_builtin;refine wpList_append_own_at _ rfl _ _ 204 rfl B 5 i0 (.int .u8 0) 1 1 Tryz.underlying204 hi hz0 hz1 hz2 rfl (by decide) v _ _ rfl (hown.alloc _) ⟨w1.heap.size,0,none⟩ 1 1 [.int .u8 c.toNat] rfl rfl ?c1 ?c2 ?c3 ?c4 ?c5 ?_)
 case c1=>exact cell_one_new _ _ _
 case c2=>simp [Value.oneCell']
 case c3=>unfold maxLen;rw [HL.out];omega
 case c4=>rw [HL.out];omega
 case c5=>simp;omega
 intro v' w2 hown' hgrow _ hat
 have hb1':(w1.alloc (.cells #[.int .u8 c.toNat] 5)).heap[b]?=some (.cells #[.pointer (some ⟨b,0,none⟩),v] 206 (0,0)):=by
  rw [Below.heap_alloc _ _ _ hlt];exact HB.out
 have hb2:w2.heap[b]?=some (.cells #[.pointer (some ⟨b,0,none⟩),v] 206 (0,0)):=by
  rw [hgrow.block b (av6 hb1') (fun e=>hne (HO.out ▸ e.symm))];exact hb1'
 have d1:w2.cell? ⟨b,1,none⟩=some v:=by simp [World.cell?,hb2]
 have d0:w2.cell? ⟨b,0,none⟩=some (.pointer (some ⟨b,0,none⟩)):=by simp [World.cell?,hb2]
 have f1:w2.frozen? ⟨b,1,none⟩=false:=by simp [World.frozen?,hb2]
 clear hb2
 have HW:Hid (Wrote w (w2.setCell ⟨b,1,none⟩ v') B b (n+1) O):=by
  refine wrote_of (l:=l ++ [c]) (hk.alloc _) ?_ hB hb1' HO.out hne ?_ hgrow ?_
  ·rw [List.length_append,HL.out];rfl
  ·rw [← aw5,← HL.out];exact hown'
  ·rcases hat with h|h
   ·exact .inl h
   ·exact .inr ⟨_,h,by simp⟩
 clear hb1'
 obtain ⟨ao,n',cap,rfl⟩:∃ ao n' cap,v' = .slice ao n' cap:=by
  rcases hown'.2 with ⟨hv,h0⟩|⟨g,cap,cur,hv,_⟩
  ·exact ⟨_,_,_,hv⟩
  ·exact ⟨_,_,_,hv⟩
 clear hown hown' hgrow hat
 go_wp2
 go_ret
 exact ⟨rfl,HW.out⟩
theorem aK7 {w:World} {B b n:Nat} {O:Option Nat} (h:Bld w B b n O) (hn:n+1≤140737488355328) :
  Calls Tryz.prog 166 #[.pointer (some ⟨b,0,none⟩),.int .u8 32] w fun e w'=>e = .returned .nilIface∧Wrote w w' B b (n+1) O:=aU8 h 32 hn
end
section
open Go.RowKit Go.Shelf Go.Sort
theorem var_ex {w w':World} (he:Ex w w') {P:Program} {n:String} {cs:Array Value} (h:w.var? P n=some cs):w'.var? P n=some cs:=by
 unfold World.var? at h ⊢
 cases hg:P.globalNamed n with
 | none=>simp [hg] at h
 | some g=>
  simp only [hg,Option.bind_some] at h ⊢
  have hlt:g<w.heap.size:=by
   rcases Nat.lt_or_ge g w.heap.size with h' | h'
   ·exact h'
   ·simp [Array.getElem?_eq_none h'] at h
  rw [he.block g hlt]
  exact h
theorem Pow10.ex {w w':World} (h:Pow10 w) (he:Ex w w'):Pow10 w':=var_ex he h
theorem grow_ex (w:World) (k:Nat) (os:Array Obj):Ex w (grow (w.drewN k) os):=
 ⟨rfl,rfl,rfl,by simp [grow,Array.size_append],fun b hb _=>by
  show (w.heap ++ os)[b]?=_
  rw [Array.getElem?_append_left hb]⟩
theorem itoa_intB (n:Int) (hn:I64 n):(Lib.itoa n).length≤intB n:=by
 unfold intB
 split
 ·by_cases hneg:n<0
  ·obtain ⟨u,rfl⟩:∃ u:Nat,n = -(u:Int):=⟨n.natAbs,by omega⟩
   rw [Lib.itoa_neg u (by omega),List.length_cons,Lib.decDigits_length]
   have:=aN5 u (by omega)
   omega
  ·obtain ⟨u,rfl⟩:∃ u:Nat,n=u:=⟨n.toNat,by omega⟩
   rw [Lib.itoa_nonneg,Lib.decDigits_length]
   have:=aN5 u (by omega)
   omega
 ·exact Lib.itoa_length_le n hn.1 hn.2
theorem itoa_any (n:Int) (hn:I64 n) (w:World) (hp:Pow10 w) :
  Calls Tryz.prog 167 #[.int .i64 n] w fun e w'=>∃ s:ByteArray,e = .returned (.string s)∧s.size≤intB n∧Ex w w':=by
 refine (Tryz.strconv_Itoa n hn.1 hn.2 w hp).mono ?_
 rintro e w' ⟨rfl,k,os,rfl⟩
 refine ⟨_,rfl,?_,grow_ex w k os⟩
 have:=itoa_intB n hn
 simpa [ByteArray.size] using this
def RAny (x:Int ⊕ ByteArray) (vs:List Value):Prop:=
 match x with
 | .inl n=>vs=[.iface 3 (.int .i64 n)]∧I64 n
 | .inr s=>vs=[.iface 9 (.string s)]
def ar7:Int ⊕ ByteArray→Nat
 | .inl n=>1+intB n
 | .inr s=>1+s.size
def ab9 (l:List (Int ⊕ ByteArray)):Nat:=(l.map ar7).sum
theorem itemsB_take (l:List (Int ⊕ ByteArray)) (j:Nat) (x:Int ⊕ ByteArray) (h:l[j]?=some x):ab9 (l.take (j+1))=ab9 (l.take j)+ar7 x:=by
 simp [ab9,List.take_add_one,h,List.sum_append]
theorem bf2 (l:List (Int ⊕ ByteArray)):∀ j,ab9 (l.take j)≤ab9 l:=by
 induction l with
 | nil=>intro j;simp [ab9]
 | cons x l ih=>
  intro j
  cases j with
  | zero=>simp [ab9]
  | succ j=>have:=ih j;simp only [ab9,List.take_succ_cons,List.map_cons,List.sum_cons] at *;omega
theorem Wrote.ex {w wr w':World} {b n n':Nat} {O:Option Nat} (he:Ex w wr) (hb:Bld wr w.heap.size b n O) (hw:Wrote wr w' w.heap.size b n' O):Ex w w':=by
 obtain ⟨hk,_⟩:=hw
 obtain ⟨l,p,v,_,_,hB,_,hown,hO,_⟩:=hb
 refine ⟨hk.os.trans (Keep.os he),hk.tape.trans (Keep.tape he),hk.output.trans (Keep.output he),Nat.le_trans he.size hk.size,fun x hx _=>?_⟩
 rw [hk.block x (Nat.lt_of_lt_of_le hx he.size) ?_]
 ·exact he.block x hx
 ·rintro (rfl|h)
  ·omega
  ·have:=(hown.lt x (by rw [hO,h])).1;omega
theorem Wrote.bld {w w':World} {B b n:Nat} {O:Option Nat} (hw:Wrote w w' B b n O):∃ O',Bld w' B b n O':=by obtain ⟨_,O',h,_⟩:=hw;exact ⟨O',h⟩
theorem any_cells {w w':World} {F:Nat→Prop} {xs:List (Int ⊕ ByteArray)} {a:Option Addr} {cap:Nat} (h:Row 1 RAny w F xs a cap) (hex:Same F w w') {i:Nat} (hi:i<xs.length) :
  ∃ x b off v,Hid (xs[i]?=some x)∧a=some ⟨b,off,none⟩∧F b∧w'.cell? ⟨b,off+i,none⟩=some v∧Hid (RAny x [v]):=by
 obtain ⟨b,off,ha,hb,vs,hl,hr,hc⟩:=h.at_ i xs[i] (List.getElem?_eq_getElem hi)
 obtain ⟨v,rfl⟩:∃ v,vs=[v]:=by
  match vs,hl with
  | [v],_=>exact ⟨v,rfl⟩
 exact ⟨xs[i],b,off,v,Lib.hid (List.getElem?_eq_getElem hi),ha,hb,hex.cell (p:=⟨b,off+i,none⟩) (by have:=hc 0 _ rfl;simpa using this) hb,hr⟩
theorem ta_ii (q:Int) (w:World):(Instr.typeAssert (.iface 3 (.int .i64 q)) 20 3 true).run Tryz.prog w = .ok (.tuple #[.int .i64 q,.bool true]) w:=by kernel_rfl
theorem ta_si (q:ByteArray) (w:World):(Instr.typeAssert (.iface 9 (.string q)) 20 3 true).run Tryz.prog w = .ok (.tuple #[.int .i64 0,.bool false]) w:=by kernel_rfl
theorem ta_ss (q:ByteArray) (w:World):(Instr.typeAssert (.iface 9 (.string q)) 20 9 true).run Tryz.prog w = .ok (.tuple #[.string q,.bool true]) w:=by kernel_rfl
theorem aY6 (word:ByteArray) (items:List (Int ⊕ ByteArray)) (w:World) {F:Nat→Prop} {a:Option Addr} {cap:Nat} (h:Row 1 RAny w F items a cap) (hp:Pow10 w) (hl:items.length≤1000000) (hm:word.size+ab9 items≤1000000000) :
  Calls Tryz.prog 139 #[.string word,.slice a items.length cap] w fun e w'=>∃ s:ByteArray,e = .returned (.string s)∧s.size≤word.size+ab9 items+1∧Ex w w':=by
 have t1:=ta_ii
 have t2:=ta_si
 have t3:=ta_ss
 have hbd:=Bld.fresh w w.heap.size (Nat.le_refl _)
 go_enter Tryz.func139,Tryz.ntmps139
 go_wp2_with (go_at_call 138;refine (ai7 hbd _ (by omega)).mono ?_;rintro e w1 ⟨rfl,hwr⟩)
 have hex:=Wrote.ex (Ex.refl w).alloc hbd hwr
 obtain ⟨O,hbd1⟩:=hwr.bld
 clear hwr hbd
 rw [Nat.zero_add] at hbd1
 go_wp2
 go_loopw [14] (fun i wr=>∃ (j n:Nat) (O:Option Nat),j≤items.length∧i = .int .i64 j∧Ex w wr∧Bld wr w.heap.size w.heap.size n O∧n≤word.size+ab9 (items.take j)) (fun i _=>items.length - (intOf i).toNat)
 case atStart=>exact ⟨0,_,O,by omega,rfl,hex,hbd1,by simp [ab9]⟩
 case round=>
  obtain ⟨j,n,O',hj,rfl,hex',hbd,hn⟩:=hrel
  clear hex hbd1
  have hle:=bf2 items j
  by_cases hlt:j<items.length
  ·obtain ⟨x,b,off,v,hx,rfl,_,c0,hr⟩:=any_cells h hex'.same hlt
   have Ht:=Lib.hid (itemsB_take items j x hx.out)
   have hle1:=bf2 items (j+1)
   have Hle1:=Lib.hid hle1
   clear hle1
   cases x with
   | inl q=>
    obtain ⟨hv,hq⟩:=hr.out
    cases hv
    clear hr
    have hsum:n+1+intB q≤1000000000:=by have h1:=Ht.out;have h2:=Hle1.out;simp only [ar7] at h1;omega
    go_wp2_with fail
    refine (aK7 hbd (by omega)).mono ?_
    rintro e w1 ⟨rfl,hwr⟩
    have hex1:=Wrote.ex hex' hbd hwr
    obtain ⟨O1,hbd1⟩:=hwr.bld
    clear hwr c0
    go_wp2_with fail
    refine (itoa_any q hq _ (hp.ex hex1)).mono ?_
    rintro e w2 ⟨s,rfl,hs,he2⟩
    have hbd2:=hbd1.ex he2
    have hex2:=hex1.trans he2
    clear hbd1 he2
    go_wp2_with fail
    refine (ai7 hbd2 s (by omega)).mono ?_
    rintro e w3 ⟨rfl,hwr⟩
    have hex3:=Wrote.ex hex2 hbd2 hwr
    obtain ⟨O3,hbd3⟩:=hwr.bld
    clear hwr hbd2
    go_wp2
    go_roundw
    case rel=>exact ⟨j+1,_,O3,by omega,by go_num,hex3,hbd3,by have h1:=Ht.out;simp only [ar7] at h1;omega⟩
    case measure=>simp [intOf];omega
   | inr q=>
    have hv:=hr.out
    cases hv
    clear hr
    have hsum:n+1+q.size≤1000000000:=by have h1:=Ht.out;have h2:=Hle1.out;simp only [ar7] at h1;omega
    go_wp2_with fail
    refine (aK7 hbd (by omega)).mono ?_
    rintro e w1 ⟨rfl,hwr⟩
    have hex1:=Wrote.ex hex' hbd hwr
    obtain ⟨O1,hbd1⟩:=hwr.bld
    clear hwr c0
    go_wp2_with fail
    refine (ai7 hbd1 q (by omega)).mono ?_
    rintro e w3 ⟨rfl,hwr⟩
    have hex3:=Wrote.ex hex1 hbd1 hwr
    obtain ⟨O3,hbd3⟩:=hwr.bld
    clear hwr hbd1
    go_wp2
    go_roundw
    case rel=>exact ⟨j+1,_,O3,by omega,by go_num,hex3,hbd3,by have h1:=Ht.out;simp only [ar7] at h1;omega⟩
    case measure=>simp [intOf];omega
  ·have hj':items.take j=items:=List.take_of_length_le (by omega)
   rw [hj'] at hn
   clear hj'
   obtain ⟨l,p,v,hl',hpp,hB,hbk,hown,hO,hne⟩:=hbd
   have hib:Lib.IsBuilder 206 5 w.heap.size w.heap.size (Lib.byteCells l) wr:=by
    rcases hpp with rfl|rfl
    ·exact .inl ⟨hB,v,hbk,by rw [ak4];exact hown,by rw [hO];exact hne⟩
    ·exact .inr ⟨hB,v,hbk,by rw [ak4];exact hown,by rw [hO];exact hne⟩
   have HSt:=Lib.hid (Tryz.Builder_String_any w.heap.size w.heap.size l wr hib (by have:=hex'.size;omega))
   have HL:=Lib.hid hl'
   clear hbk hown hO hib hpp hl'
   have hsz:l.length≤1000000000:=by have:=HL.out;omega
   go_wp2_with fail
   refine HSt.out.mono ?_
   rintro e w2 ⟨rfl,hb2⟩
   have hex2:Ex w w2:=Ex.of_below ⟨hb2.os.trans (Keep.os hex'),hb2.tape.trans (Keep.tape hex'),hb2.output.trans (Keep.output hex'),Nat.le_trans hex'.size hb2.size,fun k hk=>(hb2.block k hk).trans (hex'.block k hk)⟩
   have hss:(⟨l.toArray⟩:ByteArray).size=l.length:=by simp [ByteArray.size]
   generalize (⟨l.toArray⟩:ByteArray)=st at hss ⊢
   have HSS:=Lib.hid hss
   have hst:st.size≤1000000000:=by omega
   clear hss
   go_wp2
   go_ret
   refine ⟨_,rfl,?_,hex2⟩
   rw [ByteArray.size_append,HSS.out]
   have:=HL.out
   show l.length+1≤_
   omega
end
end Go.Proofs.YtjbbmjjildhfbaaGreatDoor
