/- A part of the proof: Wt Ld Lc. -/
import Derived.Test.YtjbbmjjildhfbaaGreatDoorP24
import Derived.Test.YtjbbmjjildhfbaaGreatDoorRows
import Derived.LaidMore
import Derived.OpenShut
import Derived.LaidHandle
import Derived.LaidSub
import Derived.Lib.LaidU8
import Derived.WideKeyElems2
import Derived.Maps.RangeWalk
import Derived.Maps.Keyed
import Derived.WalkKit
import Derived.ProofKit
import Derived.ChangeSlices
import Derived.ChangeCalls
import Derived.Deep.Onto
import Derived.Stop.Joined
set_option maxRecDepth 100000
set_option maxHeartbeats 4000000
set_option linter.unusedVariables false
set_option linter.unusedSimpArgs false
namespace Go.Proofs.YtjbbmjjildhfbaaGreatDoor
section
open Go Go.RowKit Go.Shelf
theorem aV0 {x:Sch} {w:Wd} {s t:Sb} (hF:Fit x w s) (hv:ai0 x w s=true) (ht:t.map List.length=(ac1 x w s).map List.length):ab8 x (ac1 x w s) t=0:=by
 unfold ab8
 rw [if_neg (by rw [hF.snd.no];simp),if_neg (by rw [aF5 hF hv];simp),if_neg (by simp [ap2,ht])]
theorem sk117 {A B:Prop} (k:B) (h:Hd7 B→A:=by intro hk7q;(first|refine sb0 ?_|refine sb109 ?_|((with_reducible refine' Cp.by ?hc ?_);(case hc=>exact ai2))|((with_reducible refine' CE.pure ?hc ?_);(case hc=>exact ai2)));exact hk7q.run):A:=h ⟨k⟩
theorem sk118 {A B:Prop} (k:B) (h:Hd7 B→A:=by intro hk7q;(first|refine sb0 ?_|refine sb109 ?_|((with_reducible refine' Cp.by ?hc ?_);(case hc=>exact HC1))|((with_reducible refine' CE.pure ?hc ?_);(case hc=>exact HC1)));exact hk7q.run):A:=h ⟨k⟩
theorem sk119 {A B:Prop} (k:B) (h:Hd7 B→A:=by intro hk7q;(first|refine sb0 ?_|refine sb109 ?_|((with_reducible refine' Cp.by ?hc ?_);(case hc=>first|exact HW1|exact HA|exact HFi))|((with_reducible refine' CE.pure ?hc ?_);(case hc=>first|exact HW1|exact HA|exact HFi)));exact hk7q.run):A:=h ⟨k⟩
theorem sk120 {A B:Prop} (k:B) (h:Hd7 B→A:=by intro hk7q;(first|refine sb0 ?_|refine sb109 ?_|((with_reducible refine' Cp.by ?hc ?_);(case hc=>exact HC2))|((with_reducible refine' CE.pure ?hc ?_);(case hc=>exact HC2)));exact hk7q.run):A:=h ⟨k⟩
theorem sk121 {A B:Prop} (k:B) (h:Hd7 B→A:=by intro hk7q;(first|refine sb0 ?_|refine sb1 ?_|((with_reducible refine' Cp.by ?hc ?_);(case hc=>first|exact HW2|exact HA2))|((with_reducible refine' CE.pure ?hc ?_);(case hc=>first|exact HW2|exact HA2)));exact hk7q.run):A:=h ⟨k⟩
theorem sk122 {A B:Prop} (k:B) (h:Hd7 B→A:=by intro hk7q;(first|refine sb0 ?_|refine sb1 ?_|((with_reducible refine' Cp.by ?hc ?_);(case hc=>first|exact HSW|exact ai2))|((with_reducible refine' CE.pure ?hc ?_);(case hc=>first|exact HSW|exact ai2)));exact hk7q.run):A:=h ⟨k⟩
theorem l31_parts (l m p q:List Int) (hl:I64s l) (hm:I64s m) (hp:I64s p) (hq:I64s q) :
  APure Tryz.prog 8 [slI l,slI m,slI p,slI q] (bD true):=by
 refine APure.of_call (aa4 mixed aa0 Tryz.func8 (by kernel_rfl) rfl Tryz.ntmps8 rfl ?_);intro BB
 repeat' (first|refine sk96 ?_|(intro b;conv=>whnf))
 refine CE.some (bd2 l hl) ?_
 rintro _ ⟨x,rfl,hgx⟩
 have hcx:=hgx.cls
 have HV:=bc0 x hcx.good
 repeat' (first|refine sk96 ?_|(intro b;conv=>whnf))
 refine CE.some (r31_made_p x (by have:=hcx.nk;omega) (fun k hk=>by have:=(hcx.ks k hk).nf;omega) m hm) ?_
 rintro _ ⟨w,rfl,hmw⟩
 have hwo:=hmw.ok' hcx
 have hws:=hwo.ws
 repeat' (first|refine sk117 ?_|(intro b;conv=>whnf))
 (refine Dr.r ?_;refine W.mk ?_)
 generalize b=bx
 refine aE1 mixed aa0 rfl [1,2,3] 8 (inE [0,4,5]) (.two 0 (.one 4 (.one 5 (.fst 6 (.fst 7 (.fst 8 (.fst 9 (.fst 10 .done))))))) 4 (.one 0 (.one 5 (.fst 6 (.fst 7 (.fst 8 (.fst 9 (.fst 10 .done)))))))) (γ:=Sb) (fun s0=>[(11,slS2 (ah0 x w s0)),(12,iD 0)]) (fun _=>[(bx,.cells 43 (schC x))]) (fun s0=>s0.map List.length=w.map List.length) (by decide +kernel) ?_ ?_
 ·repeat' (first|refine sk117 ?_|(intro b;conv=>whnf)|(refine And.intro ?_ ?_ <;> (conv=>whnf)))
  all_goals
   refine CE.some (aR8 w hws p hp) ?_
   rintro _ ⟨s0,rfl,hs0⟩
   have HC1:=aU3 x w s0 hws (ss_w hws hs0) HV
   rw [aO6 (av9 hgx hmw hs0)] at HC1
   repeat' (first|refine sk118 ?_|(intro b;conv=>whnf))
   exact ⟨s0,(aa2 cl2),Sc.perm (List.Perm.refl _),hs0⟩
 rintro s0 hs0
 have hss0:Ss s0:=ss_w hws hs0
 have hc0:=av9 hgx hmw hs0
 obtain ⟨s,hs⟩:∃ a,a=ah0 x w s0:=⟨_,rfl⟩
 have hsl:s.map List.length=w.map List.length:=by rw [hs,aB4];exact hs0
 have hvs:ai0 x w s=true:=by rw [hs];exact aG9 hc0
 have hss:Ss s:=ss_w hws hsl
 have hcs:=av9 hgx hmw hsl
 have hF:=aA2 hws hss hcs
 rw [← hs]
 have HW1:=aG6 x w s hws hss HV
 rw [aC4 hcs hvs] at HW1
 change APure _ _ _ (.tup [slW (ac1 x w s),iD 0]) at HW1
 have HA:=az1 w s (by have:=hws.nk;omega)
 rw [show ap2 w s=true from by simp [ap2,hsl]] at HA
 have hvws:=aU9 hF hvs
 have hvf:=aF5 hF hvs
 have HFi:=r31_fits x hF.snd (ac1 x w s) hvws
 rw [hvf] at HFi
 have hchk:=fun t=>aV0 (t:=t) hF hvs
 have hlaw:=fun {t u:Sb}=>both_world (t:=t) (u:=u) hF hvs
 have hright:=fun {t u:Sb}=>both_right (t:=t) (u:=u) hF hvs
 have hwl:=fun {k:Nat}=>ay8 (x:=x) (w:=w) (s:=s) (k:=k)
 have hvl:=aC5 (x:=x) (w:=w) (s:=s)
 have hfit:=fun {t:Sb}=>ba7 (t:=t) hF hvs
 generalize ac1 x w s=v at HW1 HFi hvws hvf hchk hlaw hright hwl hvl hfit
 repeat' (first|refine sk119 ?_|(intro b;conv=>whnf)|(with_reducible refine Br.t (beq_self_eq_true _) ?_)|(with_reducible refine Br.f Bool.not_true ?_)|(with_reducible refine Br.t (decide_eq_true trivial) ?_))
 (refine Dr.r ?_;refine W.mk ?_)
 refine aE1 mixed aa0 rfl [1,2,3] 8 (inE [0,4,5]) (.two 0 (.one 4 (.one 5 (.fst 6 (.fst 7 (.fst 8 (.fst 9 (.fst 10 .done))))))) 4 (.one 0 (.one 5 (.fst 6 (.fst 7 (.fst 8 (.fst 9 (.fst 10 .done)))))))) (γ:=Sb) (fun s0=>[(15,slS2 (ah0 x v s0)),(16,iD 0)]) (fun _=>[(bx,.cells 43 (schC x))]) (fun s0=>s0.map List.length=v.map List.length) (by decide +kernel) ?_ ?_
 ·repeat' (first|refine sk119 ?_|(intro b;conv=>whnf)|(refine And.intro ?_ ?_ <;> (conv=>whnf)))
  all_goals
   refine CE.some (aR8 v hvws q hq) ?_
   rintro _ ⟨t0,rfl,ht0⟩
   have HC2:=aU3 x v t0 hvws (ss_w hvws ht0) HV
   rw [aO6 (hchk t0 ht0)] at HC2
   repeat' (first|refine sk120 ?_|(intro b;conv=>whnf))
   exact ⟨t0,(aa2 cl2),Sc.perm (List.Perm.refl _),ht0⟩
 rintro t0 ht0
 obtain ⟨t,ht⟩:∃ a,a=ah0 x v t0:=⟨_,rfl⟩
 have htl:t.map List.length=v.map List.length:=by rw [ht,aB4];exact ht0
 have hvt:ai0 x v t=true:=by rw [ht];exact aG9 (hchk t0 ht0)
 have hts:Ss t:=ss_w hvws htl
 have HW2:=aG6 x v t hvws hts HV
 rw [aC4 (hchk t htl) hvt] at HW2
 change APure _ _ _ (.tup [slW (ac1 x v t),iD 0]) at HW2
 have hzws:=aU9 (hfit htl) hvt
 rw [← ht]
 have HA2:=az1 v t (by have:=hvws.nk;omega)
 rw [show ap2 v t=true from by simp [ap2,htl]] at HA2
 have HSW:=r31_sameW_p (ac1 x v t) hzws
 have hlaw2:=fun {u:Sb} (h:IsBoth s t u)=>hlaw h htl hvt
 generalize ac1 x v t=z at HW2 HSW hlaw2 hzws
 repeat' (first|refine sk121 ?_|(intro b;conv=>whnf)|(with_reducible refine Br.t (beq_self_eq_true _) ?_)|(with_reducible refine Br.f Bool.not_true ?_)|(with_reducible refine Br.t (decide_eq_true trivial) ?_))
 refine CE.own (r31_copied s hss) (List.Perm.refl ([] ++ _)) (fun s'=>s' ++ _) (fun s'=>List.Perm.refl _) ?_
 rintro _ σ1 ⟨v1,rfl,hR1⟩
 obtain ⟨a1,c1,rfl⟩:=hR1.slice
 repeat' (first|refine sk121 ?_|(intro b;conv=>whnf)|(with_reducible refine Br.t (beq_self_eq_true _) ?_)|(with_reducible refine Br.f Bool.not_true ?_)|(with_reducible refine Br.t (decide_eq_true trivial) ?_))
 have hsk:=hss.nk
 have htsl:t.length=s.length:=by
  have h1:=congrArg List.length htl
  have h2:=congrArg List.length hsl
  simp only [List.length_map] at h1 h2
  omega
 refine aa9 mixed aa0 (γ:=Nat × Sb × aa1) (fun g=>[(20,iD g.1)]) (fun g=>g.2.2 ++ [(bx,.cells 43 (schC x))]) (fun g=>g.1≤s.length∧BothTo s t g.1 0 g.2.1∧RS g.2.1 (.slice a1 s.length c1) g.2.2) (fun g=>s.length - g.1) (0,s,σ1) (aa2 cl2) cl3 ⟨Nat.zero_le _,BothTo.zero _ _,hR1⟩ ?_
 rintro ⟨j,u,σu⟩ ⟨hj,hOu,hRu⟩
 simp only at hj hOu hRu ⊢
 have hul:u.length=s.length:=by have:=congrArg List.length hOu.1;simpa using this
 by_cases hjl:j<s.length
 ·obtain ⟨ls,hls⟩:∃ l,s[j]?=some l:=⟨_,List.getElem?_eq_getElem hjl⟩
  have hll:ls.length≤1000:=hss.nr ls (List.mem_of_getElem? hls)
  obtain ⟨lt,hlt⟩:∃ l,t[j]?=some l:=⟨_,List.getElem?_eq_getElem (by omega)⟩
  have hlt':t[((j:Nat):Int).toNat]?=some lt:=hlt
  have hjw:j<w.length:=by have:=congrArg List.length hsl;simp only [List.length_map] at this;omega
  have hltl:lt.length=nowN s j ls.length:=by
   obtain ⟨lv,hlv,hlvl⟩:=ah8 htl hlt
   obtain ⟨lw,hlw,hlwl⟩:=ah8 hsl hls
   have:=hwl hjw
   unfold wlen at this
   rw [aa3 hlv,aa3 hlw] at this
   rw [← hlvl,this,hlwl]
  have hltk:lt.length≤1000:=hts.nr lt (List.mem_of_getElem? hlt)
  repeat' (first|refine sk121 ?_|(intro b;conv=>whnf)|(with_reducible refine Br.t (beq_self_eq_true _) ?_)|(with_reducible refine Br.f Bool.not_true ?_)|(with_reducible refine Br.t (decide_eq_true trivial) ?_))
  refine aa9 mixed aa0 (γ:=Nat × Nat × Sb × aa1) (fun g=>[(22,iD g.1),(21,iD g.2.1)]) (fun g=>g.2.2.2 ++ [(bx,.cells 43 (schC x))]) (fun g=>g.1≤ls.length∧g.2.1=nowN s j g.1∧BothTo s t j g.1 g.2.2.1∧RS g.2.2.1 (.slice a1 s.length c1) g.2.2.2) (fun g=>ls.length - g.1) (0,0,u,σu) (aa2 cl2) cl3 ⟨Nat.zero_le _,rfl,hOu,hRu⟩ ?_
  clear hRu hul hOu
  rintro ⟨i,n,u2,σ2⟩ ⟨hi,hn,hO2,hRu⟩
  simp only at hi hn hO2 hRu ⊢
  obtain ⟨lu,hlu,hlul⟩:=ah8 hO2.1.symm hls
  have hul:u2.length=s.length:=by have:=congrArg List.length hO2.1;simpa using this
  by_cases hil:i<ls.length
  ·obtain ⟨bu,hbu⟩:∃ b,lu[i]?=some b:=⟨_,List.getElem?_eq_getElem (by omega)⟩
   have hsi:keptB s j i=bu:=by
    have:=hO2.2 j i
    rw [if_neg (by omega),av8 hlu hbu] at this
    exact this.symm
   obtain ⟨b0,cap0,cs0,b1,cap1,cs1,ρ1,e1,h2,h3,h4,h5⟩:=au3 hRu hlu hbu
   rw [hul] at e1
   cases e1
   have m0:(b0,Blk.cells 62 cs0)∈σ2 ++ [(bx,.cells 43 (schC x))]:=List.mem_append_left _ (h2.mem_iff.2 (by simp))
   have m1:(b1,Blk.cells 4 cs1)∈σ2 ++ [(bx,.cells 43 (schC x))]:=List.mem_append_left _ (h2.mem_iff.2 (by simp))
   have hnn:=ao5 s j i
   rw [hsi] at hnn
   cases bu
   ·repeat' (first|refine sk121 ?_|(intro b;conv=>whnf)|(refine And.intro ?_ ?_ <;> (conv=>whnf))|((with_reducible refine' Ld.cellm m0 ?hq8 ?_);(case hq8=>(rw [ix1];exact h3)))|((with_reducible refine' Ld.cellm m1 ?hq8 ?_);(case hq8=>(rw [ix1];exact h4))))
    exact ⟨(i+1,n,u2,σ2),(aa2 cl2),cl3,⟨by simp only;omega,by rw [hnn,hn];rfl,hO2.skip hsi,hRu⟩,by simp only;omega⟩
   ·have hnl:n<lt.length:=by rw [hltl,hn];exact aY3 hil hsi
    obtain ⟨bt,hbt⟩:∃ b,lt[n]?=some b:=⟨_,List.getElem?_eq_getElem hnl⟩
    have hbt':lt[((n:Nat):Int).toNat]?=some bt:=hbt
    have hnext:BothTo s t j (i+1) (u2.set j (lu.set i bt)):=by
     have:=hO2.next hlu (by omega) hsi
     rw [av8 hlt (by rw [← hn];exact hbt)] at this
     exact this
    repeat' (first|refine sk121 ?_|(intro b;conv=>whnf)|(refine And.intro ?_ ?_ <;> (conv=>whnf))|((with_reducible refine' Ld.cellm m0 ?hq8 ?_);(case hq8=>(rw [ix1];exact h3)))|((with_reducible refine' Ld.cellm m1 ?hq8 ?_);(case hq8=>(rw [ix1];exact h4))))
    refine Sv.cellm (tb:=4) (cs:=cs1) (cs':=cs1.set i (bD bt)) (τ:=(b0,.cells 62 cs0) :: (ρ1 ++ [(bx,.cells 43 (schC x))])) ((h2.append_right _).trans cl20) (by rw [ix1];exact (List.getElem?_eq_some_iff.1 h4).1) rfl (by rw [ix1]) ?_
    repeat' (first|refine sk121 ?_|(intro b;conv=>whnf)|(refine And.intro ?_ ?_ <;> (conv=>whnf))|((with_reducible refine' Ld.cellm m0 ?hq8 ?_);(case hq8=>(rw [ix1];exact h3)))|((with_reducible refine' Ld.cellm m1 ?hq8 ?_);(case hq8=>(rw [ix1];exact h4))))
    exact ⟨(i+1,n+1,u2.set j (lu.set i bt),(b1,.cells 4 (cs1.set i (bD bt))) :: (b0,.cells 62 cs0) :: ρ1),(aa2 cl2),cl3,⟨by simp only;omega,by rw [hnn,hn,if_pos rfl],hnext,RS.swp (h5 _)⟩,by simp only;omega⟩
  ·obtain rfl:i=ls.length:=by omega
   obtain ⟨b0,cap0,cs0,a3,c3,e1,m0,h3⟩:=bc3 hRu hlu
   rw [hul] at e1
   cases e1
   repeat' (first|refine sk121 ?_|(intro b;conv=>whnf)|(with_reducible refine Br.t (beq_self_eq_true _) ?_)|(with_reducible refine Br.f Bool.not_true ?_)|(with_reducible refine Br.t (decide_eq_true trivial) ?_))
   refine Ld.cellm (cs:=cs0) (List.mem_append_left _ m0) (by rw [ix1];exact h3) ?_
   repeat' (first|refine sk121 ?_|(intro b;conv=>whnf)|(with_reducible refine Br.t (beq_self_eq_true _) ?_)|(with_reducible refine Br.f Bool.not_true ?_)|(with_reducible refine Br.t (decide_eq_true trivial) ?_))
   exact ⟨(j+1,u2,σ2),(aa2 cl2),cl3,⟨by simp only;omega,hO2.row hls,hRu⟩,by simp only;omega⟩
 ·obtain rfl:j=s.length:=by omega
  have hB:IsBoth s t u:=BothTo.all (show BothTo s t u.length 0 u by rw [hul];exact hOu)
  have huw:u.map List.length=w.map List.length:=hB.1.trans hsl
  have hus:Ss u:=ss_w hws huw
  have hcu:=av9 hgx hmw huw
  have hvu:ai0 x w u=true:=valid_of hcu (hright hB (aW2 hvt))
  have HO:=aG6 x w u hws hus HV
  rw [aC4 hcu hvu] at HO
  change APure _ _ _ (.tup [slW (ac1 x w u),iD 0]) at HO
  rw [hlaw2 hB] at HO
  have mx:(bx,Blk.cells 43 (schC x))∈σu ++ [(bx,.cells 43 (schC x))]:=by simp
  repeat' (first|refine sk122 ?_|(intro b;conv=>whnf)|(refine And.intro ?_ ?_ <;> (conv=>whnf))|(refine Ld.rowm (cs:=schC x) (x:=schC x) mx rfl (by decide) (fun z hz=>by rw [Nat.zero_add]) ?_)|(refine CE.give (Vs.frz frz_s hRu (List.Perm.refl (σu ++ [(bx,.cells 43 (schC x))]))) HO ?_)|(with_reducible refine Br.t (beq_self_eq_true _) ?_)|(with_reducible refine Br.f Bool.not_true ?_)|(with_reducible refine Br.t (decide_eq_true trivial) ?_))
  refine Rt.pure (congrArg bD ?_)
  rfl
end
section
open Go Go.Maps Go.MapKept Go.WideElems Go.ChangeShapes Go.WideShapes
set_option maxRecDepth 100000
abbrev laidL:List (String × DataW Unit):=[("math/bits.deBruijn32tab",Rows.laid_math_bits_deBruijn32tab),("math/bits.deBruijn64tab",Rows.laid_math_bits_deBruijn64tab),("internal/strconv.uint64pow10",Rows.laid_internal_strconv_uint64pow10),("diorama/schema.words",Rows.laid_diorama_schema_words),("diorama/typing.checks",Rows.laid_diorama_typing_checks)]
theorem c_word:Tryz.prog.cellsOf 9=1:=by kernel_rfl
theorem c_u64:Tryz.prog.cellsOf 175=1:=by kernel_rfl
theorem c_pow:Tryz.prog.cellsOf 247=20:=by kernel_rfl
theorem c_fn:Tryz.prog.cellsOf 158=1:=by kernel_rfl
theorem c_chk:Tryz.prog.cellsOf 159=1:=by kernel_rfl
theorem g_pow:Tryz.prog.globalNamed "internal/strconv.uint64pow10" = some 2:=by kernel_rfl
theorem g_words:Tryz.prog.globalNamed "diorama/schema.words" = some 1:=by kernel_rfl
theorem g_chk:Tryz.prog.globalNamed "diorama/typing.checks" = some 0:=by kernel_rfl
theorem t_pow:(Tryz.prog.globals[2]?).map (·.type)=some 247:=by kernel_rfl
theorem t_words:(Tryz.prog.globals[1]?).map (·.type)=some 228:=by kernel_rfl
theorem t_chk:(Tryz.prog.globals[0]?).map (·.type)=some 161:=by kernel_rfl
theorem pow_data:(Rows.laid_internal_strconv_uint64pow10:DataW Unit)=Lib.tabData .u64 Lib.pow10Tab:=by rfl
theorem aG2 {W:World} (h:laidMetH Tryz.prog laidL W) {n:String} {d:DataW Unit} (hm:(n,d)∈laidL.filter fun x=>x.2.handleName?.isNone):Lib.VarReads Tryz.prog W n d:=Lib.laidMet.reads (laidMetH_iff.1 h).1 hm
theorem none_pow:(Rows.laid_internal_strconv_uint64pow10:DataW Unit).handleName?.isNone=true:=rfl
theorem none_words:(Rows.laid_diorama_schema_words:DataW Unit).handleName?.isNone=true:=rfl
theorem laid_pow {W:World} (h:laidMetH Tryz.prog laidL W):Pow10 W:=by
 obtain ⟨g,t,cs,fuel,p,hg,ht,hv,hd⟩:=aG2 h (n:= "internal/strconv.uint64pow10") (d:=Rows.laid_internal_strconv_uint64pow10) (List.mem_filter.2 ⟨by simp [laidL],none_pow⟩)
 obtain rfl:=Option.some.inj (g_pow.symm.trans hg)
 obtain rfl:=Option.some.inj (t_pow.symm.trans ht)
 rw [pow_data] at hd
 unfold Pow10 Lib.TabIs
 rw [hv,← Lib.cells_of_tab Tryz.underlying247 Tryz.underlying175 c_u64 c_pow hd]
theorem laid_words {W:World} (h:laidMetH Tryz.prog laidL W):WordsAt W:=by
 obtain ⟨g,t,cs,fuel,p,hg,ht,hv,hd⟩:=aG2 h (n:= "diorama/schema.words") (d:=Rows.laid_diorama_schema_words) (List.mem_filter.2 ⟨by simp [laidL],none_words⟩)
 obtain rfl:=Option.some.inj (g_words.symm.trans hg)
 obtain rfl:=Option.some.inj (t_words.symm.trans ht)
 obtain ⟨xs,m1,rfl,hx1,hlen,hn3,hel⟩:=DataW.trod_array Tryz.underlying228 hd
 intro i s hi
 have hi9:i<9:=(List.getElem?_eq_some_iff.1 hi).1
 have hE:=hel i hi9
 obtain ⟨y,hy⟩:∃ y,xs[i]?=some y:=⟨xs[i]'(by omega),List.getElem?_eq_getElem (by omega)⟩
 rw [hy,c_word] at hE
 obtain ⟨s',e1,e2,_⟩:=DataW.trod_string Tryz.underlying9 hE
 have hc:=World.var?_cell g_words hv i
 have e3:cs[i]?=some (.string s'):=by
  have:=congrArg (·[0]?) e1
  simpa [List.getElem?_take,List.getElem?_drop] using this
 rw [e3] at hc
 rw [hc]
 have e4:(xs.map (·.1))[i]?=some (.lit (.string s'.data.toList)):=by rw [List.getElem?_map,hy,e2];rfl
 have e5:=congrArg Prod.fst hx1
 simp only [Rows.laid_diorama_schema_words,DataW.agg.injEq] at e5
 rw [← e5] at e4
 have key:s'.data.toList=s.data.toList:=by
  have:i=0∨i=1∨i=2∨i=3∨i=4∨i=5∨i=6∨i=7∨i=8:=by omega
  rcases this with rfl|rfl|rfl|rfl|rfl|rfl|rfl|rfl|rfl <;> (simp at hi e4;subst hi;rw [← e4])
 have:s'=s:=by
  obtain ⟨a⟩:=s';obtain ⟨b⟩:=s
  congr 1
  exact Array.toList_inj.1 key
 rw [this]
abbrev nmB (d:UInt8):List UInt8:=[100,105,111,114,97,109,97,47,116,121,112,105,110,103,46,99,104,101,99,107,115,36,d]
abbrev chkE:List (Lit × DataW (List UInt8)):=[(.int .i64 0,.agg [.held (nmB 49)]),(.int .i64 1,.agg [.held (nmB 50)]),(.int .i64 4,.agg [.held (nmB 51)]),(.int .i64 5,.agg [.held (nmB 52)]),(.int .i64 6,.agg [.held (nmB 53)]),(.int .i64 7,.agg [.held (nmB 54)]),(.int .i64 8,.agg [.held (nmB 55)])]
theorem fn_one {W:World} {n:Nat} {v:Value} {z:DataW (List UInt8) × List MemPlace} {d:UInt8} {f0:FuncId} (h:elemAt (funcToken Tryz.prog) Tryz.prog W 0 (fun _=>true) true n 159 v=some z) (hz:z.1 = .agg [.held (nmB d)])
  (hone:((List.range Tryz.prog.funcs.size).filter fun f=>(Tryz.prog.funcs[f]?).any (·.name.toUTF8.data.toList == nmB d))=[f0]):v = .agg #[chkV f0]:=by
 unfold elemAt at h
 split at h
 ·rename_i hf
  obtain ⟨xs,m,rfl,hx,hl,hn,hel⟩:=DataW.trod_struct Tryz.underlying159 h
  rw [c_chk] at hl
  have h0:=hel 0 _ rfl
  obtain ⟨y,hy⟩:∃ y,xs[0]?=some y:=⟨xs[0]'(by rw [hn];decide),List.getElem?_eq_getElem _⟩
  simp only [hy,c_fn,List.drop_zero] at h0
  rw [hx] at hz
  simp only [DataW.agg.injEq] at hz
  have hy1:y.1 = .held (nmB d):=by
   have:(xs.map (·.1))[0]?=some y.1:=by rw [List.getElem?_map,hy];rfl
   rw [hz] at this
   simpa using this.symm
  match hc:v.cells.toList,hl with
  | [c],_=>
   rw [hc] at h0
   simp only [List.getElem_toArray,List.getElem_cons_zero,List.drop_zero,c_fn,List.take_succ_cons,List.take_zero] at h0
   obtain ⟨y1,y2⟩:=y
   simp only at hy1
   subst hy1
   have e:=func_of_trod Tryz.underlying158 hone h0
   subst e
   unfold Value.formed at hf
   rw [Tryz.underlying159] at hf
   cases v with
   | agg cs=>
    simp only [Value.cells] at hc
    obtain ⟨l⟩:=cs
    simp only at hc
    rw [hc];rfl
   | _=>simp at hf
 ·cases h
theorem laid_checks {W:World} (h:laidMetH Tryz.prog laidL W):∃ r,W.cell? ⟨0,0,none⟩=some (.map (some r))∧MapIs Tryz.prog 3 W r 7 (aggF chkM):=by
 obtain ⟨g,t,cs,fuel,p,hg,ht,hv,hd⟩:=h.funcs (n:= "diorama/typing.checks") (by unfold laidL Rows.laid_diorama_typing_checks;simp only [List.mem_cons];exact .inr (.inr (.inr (.inr (.inl rfl)))))
 obtain rfl:=Option.some.inj (g_chk.symm.trans hg)
 obtain rfl:=Option.some.inj (t_chk.symm.trans ht)
 have hd':DataW.trod (funcToken Tryz.prog) Tryz.prog W 0 (fun _=>true) true fuel 161 cs.toList=some (.map chkE,p):=hd
 rcases open_map Tryz.underlying161 hd' with ⟨_,hx⟩|⟨bm,es,clock,m,rfl,hcs,hb,_,F,hx⟩
 ·simp at hx
 simp only [Prod.mk.injEq,DataW.map.injEq] at hx
 have hp:=hx.1 ▸ sorted_perm (es.toList.map (rg Tryz.prog 3 (elemAt (funcToken Tryz.prog) Tryz.prog W 0 (fun _=>true) true m 159)))
 have hcell:=World.var?_cell hg hv 0
 rw [Array.eq_one_of_toList hcs] at hcell
 have hsz:es.size=7:=by have:=hp.length_eq;simpa using this.symm
 have one:∀ e∈es.toList,aggF chkM e.key=some e.val:=fun e he=>by
  obtain ⟨y,hy⟩:=F.reads e he
  have hm:y∈chkE:=hp.mem_iff.2 (List.mem_map.2 ⟨e,he,rg_of hy⟩)
  have hk:=rd_key hy
  obtain ⟨z,hz1,hz2⟩:=rd_val hy
  obtain ⟨q,e1,e2,_⟩:=keyOf_int_inv Tryz.underlying3 hk
  simp only [chkE,List.mem_cons,List.not_mem_nil,or_false] at hm
  rcases hm with rfl|rfl|rfl|rfl|rfl|rfl|rfl <;> (cases e2;rw [e1,fn_one hz1 hz2.symm (by kernel_rfl)];rfl)
 refine ⟨bm,by simpa using hcell,es,clock,hb,⟨by omega,F.stamped,F.keys,one,fun key v hkv=>?_⟩⟩
 have back:∀ (n:Int) d,(Lit.int .i64 n,d)∈chkE→∃ e∈es.toList,e.key = .int .i64 n:=fun n d hm=>by
  obtain ⟨e,he,hr⟩:=List.mem_map.1 (hp.mem_iff.1 hm)
  obtain ⟨y,hy⟩:=F.reads e he
  rw [rg_of hy] at hr
  have hk:=rd_key hy
  rw [hr] at hk
  obtain ⟨q,e1,e2,_⟩:=keyOf_int_inv Tryz.underlying3 hk
  simp only at e2
  cases e2
  exact ⟨e,he,e1⟩
 have fin:∀ (n:Int) d,(Lit.int .i64 n,d)∈chkE→key = .int .i64 n→∃ e∈es.toList,e.key=key∧e.val=v:=fun n d hm hk=>by
  obtain ⟨e,he,e1⟩:=back n d hm
  have:=one e he
  rw [e1,← hk,hkv] at this
  exact ⟨e,he,by rw [e1,hk],(Option.some.inj this).symm⟩
 unfold aggF chkM at hkv
 split at hkv
 ·exact fin 0 (.agg [.held (nmB 49)]) (by simp [chkE]) rfl
 ·exact fin 1 (.agg [.held (nmB 50)]) (by simp [chkE]) rfl
 ·exact fin 4 (.agg [.held (nmB 51)]) (by simp [chkE]) rfl
 ·exact fin 5 (.agg [.held (nmB 52)]) (by simp [chkE]) rfl
 ·exact fin 6 (.agg [.held (nmB 53)]) (by simp [chkE]) rfl
 ·exact fin 7 (.agg [.held (nmB 54)]) (by simp [chkE]) rfl
 ·exact fin 8 (.agg [.held (nmB 55)]) (by simp [chkE]) rfl
 ·cases hkv
theorem var_lt {W:World} {n:String} {g:Nat} {cs:Array Value} (hg:Tryz.prog.globalNamed n=some g) (hv:W.var? Tryz.prog n=some cs):g<W.heap.size:=by
 unfold World.var? at hv
 rw [hg] at hv
 simp only [Option.bind_some] at hv
 cases hb:W.heap[g]? with
 | none=>rw [hb] at hv;simp at hv
 | some o=>exact (Array.getElem?_eq_some_iff.1 hb).1
theorem laid_gok {W:World} (h:laidMetH Tryz.prog laidL W):GOK W (fun _=>False):=by
 obtain ⟨g,t,cs,fuel,p,hg,ht,hv,hd⟩:=aG2 h (n:= "math/bits.deBruijn64tab") (d:=Rows.laid_math_bits_deBruijn64tab) (List.mem_filter.2 ⟨by simp [laidL],rfl⟩)
 have hlt:=var_lt hg hv
 obtain rfl:=Option.some.inj ((show Tryz.prog.globalNamed "math/bits.deBruijn64tab" = some 4 by kernel_rfl).symm.trans hg)
 obtain ⟨r,h1,h2⟩:=laid_checks h
 exact ⟨fun _ h=>h.elim,hlt,fun _ _ h=>h,laid_pow h,laid_words h,r,h1,fun h=>h,h2⟩
end
section
open Go Go.ChangeShapes Go.WideShapes Go.ChangeAt Go.RowKit
set_option maxRecDepth 100000
theorem c_int:Tryz.prog.cellsOf 3=1:=by kernel_rfl
theorem b_int:Tryz.prog.bytesOf 3=8:=by kernel_rfl
inductive ArgD:TypeId→D→Prop
 | int (n:Int) (h:I64n n):ArgD 3 (iD n)
 | ints (l:List Int) (h:I64s l):ArgD 22 (slI l)
inductive ArgsD:List TypeId→List D→Prop
 | nil:ArgsD [] []
 | cons {t:TypeId} {d:D} {ts:List TypeId} {ds:List D} (h:ArgD t d) (k:ArgsD ts ds):ArgsD (t :: ts) (d :: ds)
theorem ArgD.ints_inv {d:D} (h:ArgD 22 d):∃ l,I64s l∧d=slI l:=by
 generalize hq:22=q at h
 cases h with
 | int n h=>exact absurd hq (by decide)
 | ints l h=>exact ⟨l,h,rfl⟩
theorem ArgsD.nil_inv {ds:List D} (h:ArgsD [] ds):ds=[]:=by cases h;rfl
theorem ArgsD.ints_inv {ts:List TypeId} {ds:List D} (h:ArgsD (22 :: ts) ds):∃ l ds',I64s l∧ds=slI l :: ds'∧ArgsD ts ds':=by
 cases h with
 | cons h k=>obtain ⟨n,hn,rfl⟩:=h.ints_inv;exact ⟨n,_,hn,rfl,k⟩
theorem i64_wf {n:Int} (h:(Lit.int .i64 n).wf=true):I64n n:=by
 simp only [Lit.wf,Bool.and_eq_true,decide_eq_true_eq] at h
 exact ⟨h.1,h.2⟩
section
variable {H:Type} {enc:TypeId × Value→H} {W:World}
theorem arg_read {t:TypeId} {v:Value} {d:DataW H} {ps:List MemPlace} {base:Nat} (ht:t=3∨t=22) (hv:Value.okWide Tryz.prog W .any base t v)
  (h:DataW.Trod enc Tryz.prog W 0 (fun _=>true) true t v d ps) (hw:∀ n∈d.weights Tryz.prog t,n≤reachBytes) :
  (∃ x,ArgD t x∧Rd W (fun _=>False) x v)∧∀ W',Ex W W'→∀ sp:Nat→Bool,(∀ p∈ps,sp p.block=true)→DataW.Trod enc Tryz.prog W' 0 sp true t v d ps:=by
 rcases ht with rfl|rfl
 ·obtain ⟨n,rfl,rfl,rfl,hn⟩:=open_int Tryz.underlying3 hv h
  exact ⟨⟨_,.int n (i64_wf hn),.v _⟩,fun W' _ sp _=>shut_int Tryz.underlying3 hn⟩
 ·obtain ⟨a,len,cap,rfl⟩:=okWide_slice Tryz.underlying22 hv
  obtain ⟨fuel,hf⟩:=h
  rcases open_ints Tryz.underlying22 Tryz.underlying3 c_int hf with ⟨h1,h2⟩|⟨a',len',cap',zs,h1,hb,hl,hm,hz,hx,hcell,hwf⟩
  ·simp only [Value.cells,List.cons.injEq,Value.slice.injEq,and_true] at h1
   obtain ⟨rfl,rfl,rfl⟩:=h1
   cases h2
   refine ⟨⟨_,.ints [] ⟨by simp,by simp⟩,?_⟩,fun W' _ sp _=>⟨1,?_⟩⟩
   ·exact .sl 1 [] none 0 (fun _ _=>undef) (Nat.le_refl _) (by simp) (by simp) (by simp)
   ·rw [DataW.trod_step]
    unfold DataW.trodStep
    simp only [Tryz.underlying22,Value.cells]
  ·simp only [Value.cells,List.cons.injEq,Value.slice.injEq,and_true] at h1
   obtain ⟨rfl,rfl,rfl⟩:=h1
   simp only [if_true] at hz
   cases hx
   have hlen:len≤17592186044416:=by
    have:=hw ((len+(cap - len))*8) (by
     unfold DataW.weights
     rw [Tryz.underlying22]
     simp only [List.length_map,List.length_take,List.length_drop,lits,b_int,hz,Nat.min_eq_left hl]
     exact List.mem_cons_self)
    unfold reachBytes at this
    omega
   refine ⟨⟨_,.ints (zs.take len) ⟨fun n hn=>i64_wf (hwf n (List.mem_of_mem_take hn)),by rw [List.length_take];omega⟩,?_⟩,fun W' hex sp hsp=>?_⟩
   ·have hcl:∀ (i:Nat) n,(zs.take len)[i]?=some n→W.cell? (a'.add i)=some (.int .i64 n):=fun i n hn=>by
     rw [List.getElem?_take] at hn
     split at hn
     ·have hi:=(List.getElem?_eq_some_iff.1 hn).1
      rw [hcell i hi]
      simp [List.getD_eq_getElem?_getD,hn]
     ·cases hn
    have hln:len=((zs.take len).map fun n=>[iD n]).length:=by rw [List.length_map,List.length_take];omega
    have:Rd W (fun _=>False) (.sl 1 ((zs.take len).map fun n=>[iD n])) (.slice (some a') ((zs.take len).map fun n=>[iD n]).length cap):=by
     refine .sl 1 _ (some a') cap (fun i _=>.int .i64 ((zs.take len).getD i 0)) (by rw [← hln];exact hl) (fun y hy=>by obtain ⟨n,_,rfl⟩:=List.mem_map.1 hy;rfl) (fun i y hy=>?_) (fun i y hy j d hd=>?_)
     ·rw [List.getElem?_map,Option.map_eq_some_iff] at hy
      obtain ⟨n,hn,rfl⟩:=hy
      have hc:=hcl i n hn
      obtain ⟨b,off,spot⟩:=a'
      have hs:spot=none:=by
       have hi0:=(List.getElem?_eq_some_iff.1 hn).1
       rw [List.length_take] at hi0
       have:=World.cell?_spot (hcell 0 (by omega))
       simpa [Addr.add] using this
      subst hs
      refine ⟨b,off,rfl,fun h=>h,by have:=World.block_lt_of_cell? W _ hc;simp only [Addr.add] at this;split at this <;> simpa using this,fun j hj=>?_⟩
      obtain rfl:j=0:=by omega
      rw [add_plain] at hc
      rw [Nat.mul_one,Nat.add_zero,hc]
      simp [List.getD_eq_getElem?_getD,hn]
     ·rw [List.getElem?_map,Option.map_eq_some_iff] at hy
      obtain ⟨n,hn,rfl⟩:=hy
      cases j with
      | succ j=>simp at hd
      | zero=>
       simp at hd
       subst hd
       have:(zs.take len).getD i 0=n:=by rw [List.getD_eq_getElem?_getD,hn];rfl
       rw [this]
       exact .v _
    rw [← hln] at this
    exact this
   ·have hsz:zs.length=if sp a'.block=true then cap else len:=by
     rcases Nat.eq_zero_or_pos cap with h0|h0
     ·split <;> omega
     ·rw [if_pos (show sp a'.block=true from hsp (.cell a'.block a'.off) (MemPlace.mem_row.2 ⟨0,by omega,by simp⟩))]
      exact hz
    exact ⟨2,shut_ints 0 Tryz.underlying22 Tryz.underlying3 c_int hb hl hm hsz (fun i hi=>hex.cell (hcell i hi)) hwf⟩
theorem bi0 {base:Nat}:∀ {ts:List TypeId} {vs:List Value} {ds:List (DataW H)} {ps:List MemPlace},(∀ t∈ts,t=3∨t=22)→(∀ (j:Nat) t v,ts[j]?=some t→vs[j]?=some v→Value.okWide Tryz.prog W .any base t v) →
  DataW.TrodAll enc Tryz.prog W 0 (fun _=>true) true ts vs ds ps→(∀ n∈DataW.weightsEach Tryz.prog ts ds,n≤reachBytes) →
  (∃ xs,ArgsD ts xs∧RdL W (fun _=>False) xs vs)∧(∀ W',Ex W W'→∀ sp:Nat→Bool,(∀ p∈ps,sp p.block=true)→DataW.TrodAll enc Tryz.prog W' 0 sp true ts vs ds ps)
 | [],vs,ds,ps,_,_,h,_=>by
  obtain ⟨rfl,rfl,rfl⟩:=trodAll_nil h
  exact ⟨⟨[],.nil,.nil⟩,fun _ _ _ _=>trodAll_mk0⟩
 | t :: ts,vs,ds,ps,ht,hv,h,hw=>by
  obtain ⟨v0,vs0,d0,ds0,p0,q0,rfl,rfl,rfl,h0,r0⟩:=trodAll_cons h
  have hw':DataW.weightsEach Tryz.prog (t :: ts) (d0 :: ds0)=d0.weights Tryz.prog t ++ DataW.weightsEach Tryz.prog ts ds0:=rfl
  rw [hw'] at hw
  obtain ⟨⟨x,k1,k2⟩,k3⟩:=arg_read (ht t (by simp)) (hv 0 t v0 rfl rfl) h0 (fun n hn=>hw n (List.mem_append_left _ hn))
  obtain ⟨⟨xs,g1,g2⟩,g3⟩:=bi0 (fun u hu=>ht u (by simp [hu])) (fun j u v hj hvj=>hv (j+1) u v (by simpa using hj) (by simpa using hvj)) r0 (fun n hn=>hw n (List.mem_append_right _ hn))
  exact ⟨⟨x :: xs,.cons k1 g1,.cons k2 g2⟩,fun W' hex sp hsp=>trodAll_cons_mk (k3 W' hex sp (fun p hp=>hsp p (List.mem_append_left _ hp))) (g3 W' hex sp (fun p hp=>hsp p (List.mem_append_right _ hp)))⟩
theorem kept_ex {W':World} (h:Ex W W') (may:MemPlace→Prop):W.keptBut W' may:=by
 refine World.keptBut_mono (may:=fun _=>False) (fun _ f=>f.elim) (World.keptBut.congr (World.keptBut_refl W _) ?_ ?_ (fun i hi=>h.block i hi))
 ·exact Keep.os h
 ·exact Keep.output h
theorem be8 {f:FuncId} {fn:Func} {s:ChangeSpec} (hts:∀ t∈fn.params.toList,t=3∨t=22) (hvars:s.vars=[]) (hres:fn.resultTypes = #[4])
  (hs:∀ ds:List (DataW H),ds.length=fn.params.size→s.fn H ds={ results:=[.lit (.bool true)],args:=ds }) (hP:∀ xs,ArgsD fn.params.toList xs→APure Tryz.prog f xs (bD true))
  (base:Nat) (args:Array Value) (ds gs:List (DataW H)) (before:List MemPlace)
  (hval:∀ (j:Nat) t v,fn.params[j]?=some t→args[j]?=some v→Value.okWide Tryz.prog W .any base t v)
  (hW:DataW.Whole enc Tryz.prog fn.params.toList s.vars false W args.toList ds gs before)
  (hsz:(DataW.weightsEach Tryz.prog (fn.params.toList ++ s.plain.varTypes Tryz.prog) (ds ++ gs)).all (·≤reachBytes)=true) (hL:laidMetH Tryz.prog laidL W) :
  Calls Tryz.prog f args W fun e W'=>∃ v,e = .returned v∧s.post enc Tryz.prog fn false true false false W args v W':=by
 have hW':=hW
 obtain ⟨p,q,hA,hV,rfl,hfz,hnd⟩:=hW
 rw [hvars] at hV
 obtain ⟨rfl,rfl⟩:=trodVars_none hV
 have hdl:ds.length=fn.params.size:=by have:=(trodAll_length hA).2;simpa using this
 have hw:∀ n∈DataW.weightsEach Tryz.prog fn.params.toList ds,n≤reachBytes:=fun n hn=>by
  have hvt:s.plain.varTypes Tryz.prog=[]:=by simp [DataSpec.varTypes,ChangeSpec.plain,hvars]
  rw [hvt,List.append_nil,List.append_nil] at hsz
  exact of_decide_eq_true (List.all_eq_true.1 hsz n hn)
 obtain ⟨⟨xs,k1,k2⟩,k3⟩:=bi0 hts (fun j t v hj hv=>hval j t v (by simpa using hj) (by simpa using hv)) hA hw
 have hrun:=(hP xs k1).run W (fun _=>False) args.toList k2 (laid_gok hL)
 rw [Array.toArray_toList] at hrun
 refine hrun.mono fun e W' ⟨u,he,hu,hex⟩=>?_
 have hu':=hu.val rfl
 subst hu'
 refine ⟨_,he,?_⟩
 have hfn:=hs ds hdl
 have hold:∀ x∈p,(fun b=>decide (b<W.heap.size)) x.block=true:=fun x hx=>by have:=hW'.lt x (by simpa using hx);simpa using this
 have hra:∀ (b:Nat) (sp:Nat→Bool) (hd:Bool),DataW.TrodAll enc Tryz.prog W' b sp hd fn.resultTypes.toList ((Value.bool true).resultList fn.resultTypes.size) (s.fn H (ds ++ [])).results []:=fun b sp hd=>by
  rw [List.append_nil,hfn,hres]
  exact trodAll_cons_mk (shut_bool Tryz.underlying4 _) trodAll_mk0
 have hA1:∀ sp:Nat→Bool,(∀ x∈p,sp x.block=true)→DataW.TrodAll enc Tryz.prog W' 0 sp true fn.params.toList args.toList (s.fn H (ds ++ [])).args p:=fun sp hsp=>by
  rw [List.append_nil,hfn];exact k3 W' hex _ hsp
 have hV1:∀ sp:Nat→Bool,DataW.TrodVars enc Tryz.prog W' sp s.vars (s.fn H (ds ++ [])).vars []:=fun sp=>by
  rw [hvars,List.append_nil,hfn];rfl
 refine ⟨ds,[],p ++ [],[],p,[],hW',hra _ _ _,hA1 _ hold,hV1 _,kept_ex hex _,fun _=>?_⟩
 ·refine ⟨ok_one hres rfl (okWide_bool_mk Tryz.underlying4 _),_,_,([] ++ p) ++ [],⟨[] ++ p,[],trodAll_append (hA1 _ (fun _ _=>rfl)) (hra _ _ _),hV1 _,rfl,?_,fun h=>by cases h⟩,fun x hx _=>by simpa using hx⟩
  intro b off hp
  have hp':MemPlace.cell b off∈p ++ []:=by simpa using hp
  rw [hex.frozen (hW'.lt _ hp')]
  exact hfz b off hp'
end
theorem door_met (os:Os) (args:Array Value):laidMetH Tryz.prog laidL ((World.doorLaid Tryz.prog 76 os).forCall (fun _ _=>0) ⟨#[],args,[]⟩).memory:=
 laidMetH_of_parts3 (fuel:=8) (laidMet_of_run' 8 (by kernel_rfl) (by kernel_rfl)) (by kernel_rfl) (by kernel_rfl)
theorem own:ownKnob Tryz.prog.godebug=none:=by kernel_rfl
end
end Go.Proofs.YtjbbmjjildhfbaaGreatDoor
