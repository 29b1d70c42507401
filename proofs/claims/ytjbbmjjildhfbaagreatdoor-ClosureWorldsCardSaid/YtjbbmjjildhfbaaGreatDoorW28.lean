/- A part of the proof: Gr Gs Pa Sw Wl Ld Lc. -/
import Derived.Test.YtjbbmjjildhfbaaGreatDoorW27
import Derived.Test.YtjbbmjjildhfbaaGreatDoorRows
import Derived.LaidMore
import Derived.OpenShut
import Derived.LaidHandle
import Derived.LaidSub
import Derived.Lib.LaidU8
import Derived.WideKeyElems2
import Derived.Maps.RangeWalk
import Derived.Maps.Keyed
import Derived.WalkKit
import Derived.ProofKit
import Derived.ChangeSlices
import Derived.ChangeCalls
import Derived.Deep.Onto
import Derived.Stop.Joined
set_option maxRecDepth 100000
set_option maxHeartbeats 4000000
set_option linter.unusedVariables false
set_option linter.unusedSimpArgs false
namespace Go.Proofs.YtjbbmjjildhfbaaGreatDoor
section
open Go
theorem GenX.hx {x:Sch} (h:GenX x):HX x where
 nk:=h.nk.2
 form:=h.ks.form
 kd:=fun k hk f hf=>((h.cls.ks k hk).fs f hf).kd.1
 life:=by
  obtain ⟨m,mv,_,_,hl,_⟩:=h.ls
  rw [hl];simp [au7]
theorem nm_knm {t:Nat} (h:t≤2):isNm (knm t)=true:=by
 obtain rfl|rfl|rfl:t=0∨t=1∨t=2:=by omega
 all_goals decide +kernel
theorem eNE:isE nE=true:=by decide +kernel
theorem PlainF.ok {p:List Fld} (h:PlainF p):∀ f∈p,aa9 f=true:=by
 cases h with
 | none=>simp
 | size a b ha hb=>
  intro f hf;rw [List.mem_singleton] at hf;subst hf
  (simp only [aa9,Bool.and_eq_true];refine ⟨⟨by decide +kernel,?_⟩,?_⟩)
  ·(simp [ao0,ad5,ad4,ad8,ad6,ac1,eNE])
  ·simp [ak7,ao6];omega
 | tag n ws hn hw h0 h1=>
  intro f hf;rw [List.mem_singleton] at hf;subst hf
  (simp only [aa9,Bool.and_eq_true];refine ⟨⟨by decide +kernel,?_⟩,?_⟩)
  ·(simp [ao0,ad5,ad4,ad8,ad6,ac1,eNE])
  ·have hs:0<ws.sum:=by
    obtain ⟨w,hw1,hw2⟩:=h1
    clear hw
    induction ws with
    | nil=>cases hw1
    | cons z zs ih=>
     have hz:=h0 z (by simp)
     have hnn:∀ l:List Int,(∀ w∈l,0≤w∧w≤4)→0≤l.sum:=fun l=>by
      induction l with
      | nil=>simp
      | cons q l ih=>intro hl;have:=hl q (by simp);have:=ih fun w hw=>hl w (by simp [hw]);simp;omega
     rw [List.sum_cons]
     rcases List.mem_cons.1 hw1 with rfl|hw1
     ·have:=hnn zs fun w hw=>h0 w (by simp [hw]);omega
     ·have:=ih (fun w hw=>h0 w (by simp [hw])) hw1;omega
   have hg:ws.all (fun n=>ab5 n 0 1048576)=true:=by
    rw [List.all_eq_true];intro w hw;have:=h0 w hw;simp [ab5];omega
   have hwd:([nRed,aP3,nBlue].take n).all isNm=true:=by
    rw [List.all_eq_true];intro w hw
    have:=List.mem_of_mem_take hw
    simp only [List.mem_cons,List.not_mem_nil,or_false] at this
    rcases this with rfl|rfl|rfl <;> decide +kernel
   have hl:([nRed,aP3,nBlue].take n).length=n:=by rw [List.length_take];simp;omega
   simp only [ak7]
   rw [if_neg (by simp),if_neg (by simp),if_neg (by simp),if_pos trivial,af4,hg,hwd,hl,hw]
   simp [ab5];omega
 | born a b c d ha hb hc hd=>
  intro f hf
  simp only [List.mem_cons,List.not_mem_nil,or_false] at hf
  rcases hf with rfl|rfl
  ·(simp only [aa9,Bool.and_eq_true];refine ⟨⟨by decide +kernel,?_⟩,?_⟩)
   ·(simp [ao0,ad5,ad4,ad8,ad6,ac1,eNE])
   ·simp [ak7,ao6,eNE];omega
  ·(simp only [aa9,Bool.and_eq_true];refine ⟨⟨by decide +kernel,?_⟩,?_⟩)
   ·(simp [ao0,ad5,ad4,ad8,ad6,ac1,eNE])
   ·have:isNm aL0=true:=by decide +kernel
    simp [ak7,ao6,this];omega
 | state a b ha hb=>
  intro f hf;rw [List.mem_singleton] at hf;subst hf
  (simp only [aa9,Bool.and_eq_true];refine ⟨⟨by decide +kernel,?_⟩,?_⟩)
  ·(simp [ao0,ad5,ad4,ad8,ad6,ac1,eNE])
  ·have:isNm nLife=true:=by decide +kernel
   simp [ak7,ao6,this];omega
 | low a b c d ha hb hc hd=>
  intro f hf
  simp only [List.mem_cons,List.not_mem_nil,or_false] at hf
  rcases hf with rfl|rfl
  ·(simp only [aa9,Bool.and_eq_true];refine ⟨⟨by decide +kernel,?_⟩,?_⟩)
   ·(simp [ao0,ad5,ad4,ad8,ad6,ac1,eNE])
   ·simp [ak7,ao6];omega
  ·(simp only [aa9,Bool.and_eq_true];refine ⟨⟨by decide +kernel,?_⟩,?_⟩)
   ·(simp [ao0,ad5,ad4,ad8,ad6,ac1,eNE])
   ·simp [ak7,ao6];omega
theorem PlainF.nm {p:List Fld} (h:PlainF p):∀ f∈p,isNm f.name=true:=fun f hf=>by
 have:=h.ok f hf
 simp only [aa9,Bool.and_eq_true] at this
 exact this.1.1
theorem KForm.nms {ks:List Knd} {i:Nat} {k:Knd} (h:KForm ks i k):∀ f∈k.fields,isNm f.name=true:=by
 obtain ⟨lo,r,idl,f1,f2,p1,p2,tt,h1,h2,h3,rfl,h5,h6,h7,h8,h9,h10⟩:=h
 intro f hf
 rcases List.mem_cons.1 hf with rfl|hf
 ·show isNm nId=true;decide +kernel
 rcases List.mem_append.1 hf with hf|hf
 ·have:=(h5.nms).subset (List.mem_map_of_mem (f:=Fld.name) hf)
  simp only [List.mem_cons,List.not_mem_nil,or_false] at this
  rcases this with e|e|e <;> rw [e] <;> decide +kernel
 rcases List.mem_append.1 hf with hf|hf
 ·rcases h6 with rfl|⟨_,rfl⟩
  ·cases hf
  ·rw [List.mem_singleton] at hf;subst hf;show isNm nBy=true;decide +kernel
 rcases List.mem_append.1 hf with hf|hf
 ·exact h7.nm f hf
 rcases List.mem_append.1 hf with hf|hf
 ·exact h8.nm f hf
 ·have:=(h10.nms).subset (List.mem_map_of_mem (f:=Fld.name) hf)
  simp only [List.mem_cons,List.not_mem_nil,or_false] at this
  rw [this];decide +kernel
theorem HX.field {x:Sch} (H:HX x) {i:Nat} {k:Knd} (hk:x.kinds[i]?=some k):∀ f∈k.fields,aa9 f=true:=by
 have hF:=H.form i k hk
 have hil:i≤2:=by have:=(List.getElem?_eq_some_iff.1 hk).1;have:=H.nk;omega
 have hnm:=hF.nms
 obtain ⟨lo,r,idl,f1,f2,p1,p2,tt,h1,h2,h3,rfl,h5,h6,h7,h8,h9,h10⟩:=hF
 intro f hf
 have hn:=hnm f hf
 rcases List.mem_cons.1 hf with rfl|hf
 ·simp only [aa9,hn,Bool.true_and,Bool.and_eq_true]
  refine ⟨by simp [ao0,ad5,ad4,ad8,ad6,ac1,eNE,idF],?_⟩
  simp only [List.mem_cons,List.not_mem_nil,or_false] at h3
  rcases h3 with rfl|rfl|rfl|rfl <;> simp [ak7,idF,ab5]
 rcases List.mem_append.1 hf with hf|hf
 ·rcases h5 with rfl|⟨t,lo1,hi1,sm,pt,hti,hl1,hh1,hs,hp,rfl⟩
  ·cases hf
  rcases List.mem_cons.1 hf with rfl|hf
  ·simp only [aa9,hn,Bool.true_and,Bool.and_eq_true]
   refine ⟨by simp [ao0,ad5,ad4,ad8,ad6,ac1,eNE,ofN],?_⟩
   have:=nm_knm (t:=t) (by omega)
   simp only [List.mem_cons,List.not_mem_nil,or_false] at hh1
   rcases hl1 with rfl|rfl <;> rcases hh1 with rfl|rfl|rfl|rfl <;> simp [ak7,ofN,this,ao6]
  have eof:isNm nOf=true:=by decide +kernel
  have ett:isNm ar5=true:=by decide +kernel
  rcases List.mem_append.1 hf with hf|hf
  ·rcases hs with rfl|⟨y,n,g,hy,hg,hpk,rfl⟩
   ·cases hf
   rw [List.mem_singleton] at hf;subst hf
   have:=(H.form t y hy).nms g (List.mem_of_getElem? hg)
   simp only [aa9,hn,Bool.true_and,Bool.and_eq_true]
   exact ⟨by simp [ao0,ad5,ad4,ad8,ad6,ac1,eNE,av9],by simp [ak7,av9,this,eof]⟩
  ·rcases hp with rfl|⟨a,b,y,n,ha,hb,hy,hg,rfl⟩
   ·cases hf
   rw [List.mem_singleton] at hf;subst hf
   simp only [aa9,hn,Bool.true_and,Bool.and_eq_true]
   exact ⟨by simp [ao0,ad5,ad4,ad8,ad6,ac1,eNE,ak6],by simp [ak7,ak6,ett,eof,ao6];exact ⟨decide_eq_true (by omega),decide_eq_true (by omega),decide_eq_true (by omega)⟩⟩
 rcases List.mem_append.1 hf with hf|hf
 ·rcases h6 with rfl|⟨_,rfl⟩
  ·cases hf
  ·rw [List.mem_singleton] at hf;subst hf
   have:=nm_knm (t:=0) (by omega)
   simp only [aa9,hn,Bool.true_and,Bool.and_eq_true]
   exact ⟨by simp [ao0,ad5,ad4,ad8,ad6,ac1,eNE,byN],by simp [ak7,byN,this,ao6]⟩
 rcases List.mem_append.1 hf with hf|hf
 ·exact h7.ok f hf
 rcases List.mem_append.1 hf with hf|hf
 ·exact h8.ok f hf
 ·rcases h10 with rfl|⟨j,kj,hij,hkj,hP,rfl⟩
  ·cases hf
  ·rw [List.mem_singleton] at hf;subst hf
   have:=nm_knm (t:=j) (by have:=(List.getElem?_eq_some_iff.1 hkj).1;have:=H.nk;omega)
   simp only [aa9,hn,Bool.true_and,Bool.and_eq_true]
   exact ⟨by simp [ao0,ad5,ad4,ad8,ad6,ac1,eNE,totF],by simp [ak7,totF,this]⟩
def RName (n:ByteArray) (t:Nat):Prop:=n=aJ9 ++ (knm t).extract 0 1∨n=bg5 ++ (knm t).extract 0 1∨n=aK0 ++ (knm t).extract 0 1
theorem RuleF.rn {k:Knd} {r:Rul} {t:Nat} (h:RuleF k r) (hn:k.name=knm t):RName r.name t:=by
 cases h with
 | low n h hn'=>exact .inl (by rw [hn])
 | most f n h hf hn'=>exact .inr (.inl (by rw [hn]))
 | least f n h hf hn'=>exact .inr (.inr (by rw [hn]))
def LowOK (F:List Fld) (f:Fld):Prop:=(f.name=nLow→f.kind=2∧∃ g∈F,g.name=nHigh∧g.kind=2)∧(f.name=nSize→f.kind=2)
theorem PlainF.low_ok {p:List Fld} (h:PlainF p) {F:List Fld} (hs:∀ f∈p,f∈F):∀ f∈p,LowOK F f:=by
 cases h with
 | none=>simp
 | low a b c d ha hb hc hd=>
  intro f hf
  simp only [List.mem_cons,List.not_mem_nil,or_false] at hf
  rcases hf with rfl|rfl
  ·exact ⟨fun _=>⟨rfl,⟨nHigh,nE,nE,2,c,10+d,[],[]⟩,hs _ (by simp),rfl,rfl⟩,fun _=>rfl⟩
  ·exact ⟨fun h=>absurd h (by show ¬ nHigh=nLow;decide +kernel),fun _=>rfl⟩
 | _=>
  intro f hf
  simp only [List.mem_cons,List.not_mem_nil,or_false] at hf
  rcases hf with rfl|rfl <;> refine ⟨fun h=>?_,fun h=>?_⟩ <;> first|rfl|(exfalso;simp only at h;revert h;decide +kernel)
end
section
open Go
theorem KForm.low {ks:List Knd} {i:Nat} {k:Knd} (h:KForm ks i k):∀ f∈k.fields,LowOK k.fields f:=by
 obtain ⟨lo,r,idl,f1,f2,p1,p2,tt,h1,h2,h3,rfl,h5,h6,h7,h8,h9,h10⟩:=h
 intro f hf
 have hnot:∀ n∈[nId,nOf,nSame,nPart,nBy,ar5],n≠nLow∧n≠nSize:=by decide +kernel
 have no:f.name∈[nId,nOf,nSame,nPart,nBy,ar5]→LowOK (idF idl :: (f1 ++ (f2 ++ (p1 ++ (p2 ++ tt))))) f:=fun hm=>⟨fun e=>absurd e (hnot _ hm).1,fun e=>absurd e (hnot _ hm).2⟩
 have hf0:=hf
 rcases List.mem_cons.1 hf with rfl|hf
 ·exact no (by simp [idF])
 rcases List.mem_append.1 hf with hf|hf
 ·have:=(h5.nms).subset (List.mem_map_of_mem (f:=Fld.name) hf)
  exact no (by simp only [List.mem_cons,List.not_mem_nil,or_false] at this ⊢;rcases this with e|e|e <;> simp [e])
 rcases List.mem_append.1 hf with hf|hf
 ·rcases h6 with rfl|⟨_,rfl⟩
  ·cases hf
  ·rw [List.mem_singleton] at hf;subst hf;exact no (by simp [byN])
 rcases List.mem_append.1 hf with hf|hf
 ·exact h7.low_ok (fun f hf=>by simp [hf]) f hf
 rcases List.mem_append.1 hf with hf|hf
 ·exact h8.low_ok (fun f hf=>by simp [hf]) f hf
 ·have:=(h10.nms).subset (List.mem_map_of_mem (f:=Fld.name) hf)
  exact no (by simp only [List.mem_cons,List.not_mem_nil,or_false] at this ⊢;simp [this])
variable {x:Sch}
end
section
open Go
variable {x:Sch} {w:Wd} {s t u:Sb}
def IsBoth (s t u:Sb):Prop:=u.map List.length=s.map List.length∧∀ k i,keptB u k i=(keptB s k i && keptB t k (nowN s k i))
def BothTo (s t:Sb) (j i:Nat) (u:Sb):Prop:=u.map List.length=s.map List.length∧∀ k m,keptB u k m=if k<j∨(k=j∧m<i) then (keptB s k m && keptB t k (nowN s k m)) else keptB s k m
theorem BothTo.zero (s t:Sb):BothTo s t 0 0 s:=⟨rfl,fun k m=>by rw [if_neg (by omega)]⟩
theorem BothTo.next {j i:Nat} {l:List Bool} (h:BothTo s t j i u) (hl:u[j]?=some l) (hi:i<l.length) (hk:keptB s j i=true):BothTo s t j (i+1) (u.set j (l.set i (keptB t j (nowN s j i)))):=by
 refine ⟨?_,fun k m=>?_⟩
 ·rw [← h.1,List.map_set,List.length_set]
  refine List.ext_getElem? fun n=>?_
  by_cases e:n=j
  ·subst e
   rw [List.getElem?_set_self (by rw [List.length_map];exact (List.getElem?_eq_some_iff.1 hl).1),List.getElem?_map,hl];rfl
  ·rw [List.getElem?_set_ne (Ne.symm e)]
 ·rw [kept_set hl hi]
  by_cases e:k=j∧m=i
  ·obtain ⟨rfl,rfl⟩:=e
   rw [if_pos ⟨rfl,rfl⟩,if_pos (by omega),hk,Bool.true_and]
  ·rw [if_neg e,h.2 k m]
   by_cases e2:k<j∨(k=j∧m<i)
   ·rw [if_pos e2,if_pos (by omega)]
   ·rw [if_neg e2,if_neg (by omega)]
theorem BothTo.skip {j i:Nat} (h:BothTo s t j i u) (hk:keptB s j i=false):BothTo s t j (i+1) u:=by
 refine ⟨h.1,fun k m=>?_⟩
 rw [h.2 k m]
 by_cases e:k=j∧m=i
 ·obtain ⟨rfl,rfl⟩:=e
  rw [if_neg (by omega),if_pos (by omega),hk];rfl
 ·by_cases e2:k<j∨(k=j∧m<i)
  ·rw [if_pos e2,if_pos (by omega)]
  ·rw [if_neg e2,if_neg (by omega)]
theorem BothTo.row {j:Nat} {l:List Bool} (h:BothTo s t j l.length u) (hl:s[j]?=some l):BothTo s t (j+1) 0 u:=by
 refine ⟨h.1,fun k m=>?_⟩
 rw [h.2 k m]
 by_cases e:k=j∧l.length≤m
 ·have:keptB s k m=false:=by
   obtain ⟨rfl,e⟩:=e
   exact aM1 fun l' hl'=>by rw [hl] at hl';cases hl';exact e
  rw [this];simp
 ·by_cases e2:k<j∨(k=j∧m<l.length)
  ·rw [if_pos e2,if_pos (by omega)]
  ·rw [if_neg e2,if_neg (by omega)]
theorem BothTo.all (h:BothTo s t u.length 0 u):IsBoth s t u:=by
 refine ⟨h.1,fun k m=>?_⟩
 rw [h.2 k m]
 have hl:u.length=s.length:=by have:=congrArg List.length h.1;simpa using this
 by_cases e:k<u.length
 ·rw [if_pos (.inl e)]
 ·have:keptB s k m=false:=aM1 fun l hl2=>by
   have h1:=(List.getElem?_eq_some_iff.1 hl2).1
   omega
  rw [if_neg (by omega),this];rfl
theorem IsBoth.sub (h:IsBoth s t u):Sub u s:=fun k i hk=>by rw [h.2,Bool.and_eq_true] at hk;exact hk.1
def aW0 (x:Sch) (w:Wd) (s:Sb):Wd:=sumsE x (moved x w s)
theorem bd4:shp (aW0 x w s)=shp (outA w s):=(shp_K _ _ _).trans (at0 x w s _ (Nat.le_refl _))
theorem world_len:(aW0 x w s).length=w.length:=by
 have:=congrArg List.length (bd4 (x:=x) (w:=w) (s:=s))
 simp only [shp,List.length_map] at this
 rw [this,aF7]
set_option linter.unusedSectionVars false
section
variable (hF:Fit x w s) (hv:ak9 x w s=true)
include hF
include hv
theorem world_sh:Wsh x (aW0 x w s):=(outA_sh hF).shp bd4
theorem world_ws:Ws (aW0 x w s):=by
 have hsh:=world_sh hF hv
 refine ⟨by rw [world_len];exact hF.ws.nk,hsh.nr,fun l hl r hr=>?_⟩
 obtain ⟨k,hk⟩:=List.getElem?_of_mem hl
 rw [hsh.row k l hk r hr]
 unfold flen
 cases hx:x.kinds[k]? with
 | none=>simp
 | some kd=>have:=hF.snd.vld.nf kd (List.mem_of_getElem? hx);simp only;omega
end
end
section
open Go
theorem aT9 (a:List Int) (ha:a.length≤1000):APure Tryz.prog 63 [slI a,slI a] (bD true):=by
 refine APure.of_call (aa3 mixed aa0 Tryz.func63 (by kernel_rfl) rfl Tryz.ntmps63 rfl ?_);intro BB
 repeat' (first|refine sk2 ?_|(intro b;conv=>whnf)|(with_reducible refine Br.t (beq_self_eq_true _) ?_)|(with_reducible refine Br.f Bool.not_true ?_)|(with_reducible refine Br.f (bne_self_eq_false _) ?_)|(with_reducible refine Br.t (decide_eq_true trivial) ?_))
 refine aa6 mixed aa0 (γ:=Nat) (fun j=>[(5,iD j)]) (fun _=>[]) (fun j=>j≤a.length) (fun j=>a.length - j) 0 (aa2 cl2) cl3 (Nat.zero_le _) ?_
 rintro j hj
 by_cases hjl:j<a.length
 ·obtain ⟨x,hx⟩:∃ l,a[j]?=some l:=⟨_,List.getElem?_eq_getElem hjl⟩
  have hx':a[((j:Nat):Int).toNat]?=some x:=hx
  repeat' (first|refine sk2 ?_|(intro b;conv=>whnf)|(with_reducible refine Br.t (beq_self_eq_true _) ?_)|(with_reducible refine Br.f Bool.not_true ?_)|(with_reducible refine Br.f (bne_self_eq_false _) ?_)|(with_reducible refine Br.t (decide_eq_true trivial) ?_))
  exact ⟨j+1,(aa2 cl2),cl3,by omega,by omega⟩
 ·obtain rfl:j=a.length:=by omega
  repeat' (first|refine sk2 ?_|(intro b;conv=>whnf)|(with_reducible refine Br.t (beq_self_eq_true _) ?_)|(with_reducible refine Br.f Bool.not_true ?_)|(with_reducible refine Br.f (bne_self_eq_false _) ?_)|(with_reducible refine Br.t (decide_eq_true trivial) ?_))
  refine Rt.pure (congrArg bD ?_)
  rfl
theorem sk113 {A B:Prop} (k:B) (h:Hd7 B→A:=by intro hk7q;(first|refine sb0 ?_|refine sb1 ?_|((with_reducible refine' Cp.by ?hc ?_);(case hc=>exact aT9 _ (by assumption)))|((with_reducible refine' CE.pure ?hc ?_);(case hc=>exact aT9 _ (by assumption))));exact hk7q.run):A:=h ⟨k⟩
theorem r31_sameW_p (w:Wd) (hw:Ws w):APure Tryz.prog 36 [slW w,slW w] (bD true):=by
 have hwl:=hw.nk
 refine APure.of_call (aa3 mixed aa0 Tryz.func36 (by kernel_rfl) rfl Tryz.ntmps36 rfl ?_);intro BB
 repeat' (first|refine sk113 ?_|(intro b;conv=>whnf)|(with_reducible refine Br.t (beq_self_eq_true _) ?_)|(with_reducible refine Br.f Bool.not_true ?_)|(with_reducible refine Br.f (bne_self_eq_false _) ?_)|(with_reducible refine Br.t (decide_eq_true trivial) ?_))
 refine aa6 mixed aa0 (γ:=Nat) (fun j=>[(5,iD j)]) (fun _=>[]) (fun j=>j≤w.length) (fun j=>w.length - j) 0 (aa2 cl2) cl3 (Nat.zero_le _) ?_
 rintro j hj
 by_cases hjl:j<w.length
 ·obtain ⟨l,hl⟩:∃ l,w[j]?=some l:=⟨_,List.getElem?_eq_getElem hjl⟩
  have hl':w[((j:Nat):Int).toNat]?=some l:=hl
  have hll:=hw.nr l (List.mem_of_getElem? hl)
  repeat' (first|refine sk113 ?_|(intro b;conv=>whnf)|(with_reducible refine Br.t (beq_self_eq_true _) ?_)|(with_reducible refine Br.f Bool.not_true ?_)|(with_reducible refine Br.f (bne_self_eq_false _) ?_)|(with_reducible refine Br.t (decide_eq_true trivial) ?_))
  refine aa6 mixed aa0 (γ:=Nat) (fun i=>[(6,iD i)]) (fun _=>[]) (fun i=>i≤l.length) (fun i=>l.length - i) 0 (aa2 cl2) cl3 (Nat.zero_le _) ?_
  rintro i hi
  by_cases hil:i<l.length
  ·obtain ⟨r,hr⟩:∃ x,l[i]?=some x:=⟨_,List.getElem?_eq_getElem hil⟩
   have hr':l[((i:Nat):Int).toNat]?=some r:=hr
   have hrl:=hw.nf l (List.mem_of_getElem? hl) r (List.mem_of_getElem? hr)
   repeat' (first|refine sk113 ?_|(intro b;conv=>whnf)|(with_reducible refine Br.t (beq_self_eq_true _) ?_)|(with_reducible refine Br.f Bool.not_true ?_)|(with_reducible refine Br.f (bne_self_eq_false _) ?_)|(with_reducible refine Br.t (decide_eq_true trivial) ?_))
   exact ⟨i+1,(aa2 cl2),cl3,by omega,by omega⟩
  ·obtain rfl:i=l.length:=by omega
   repeat' (first|refine sk113 ?_|(intro b;conv=>whnf)|(with_reducible refine Br.t (beq_self_eq_true _) ?_)|(with_reducible refine Br.f Bool.not_true ?_)|(with_reducible refine Br.f (bne_self_eq_false _) ?_)|(with_reducible refine Br.t (decide_eq_true trivial) ?_))
   exact ⟨j+1,(aa2 cl2),cl3,by omega,by omega⟩
 ·obtain rfl:j=w.length:=by omega
  repeat' (first|refine sk113 ?_|(intro b;conv=>whnf)|(with_reducible refine Br.t (beq_self_eq_true _) ?_)|(with_reducible refine Br.f Bool.not_true ?_)|(with_reducible refine Br.f (bne_self_eq_false _) ?_)|(with_reducible refine Br.t (decide_eq_true trivial) ?_))
  refine Rt.pure (congrArg bD ?_)
  rfl
end
section
open Go Go.RowKit Go.Shelf
theorem Ws.nil:Ws []:=⟨by simp,fun l h=>(by cases h),fun l h=>(by cases h)⟩
theorem worldE_ws {x:Sch} {w:Wd} {s:Sb} (hw:Ws w) (hs:Ss s):Ws (ap4 x w s).1:=by
 by_cases h0:ac0 x w s=0
 ·by_cases h1:ak9 x w s=true
  ·rw [aN0 h0 h1]
   exact world_ws (av5 hw hs h0) h1
  ·rw [world_8 h0 (by simpa using h1)]
   exact Ws.nil
 ·rw [aV9 h0]
  exact Ws.nil
theorem greatE_ss {x:Sch} {w:Wd} {s:Sb} (hs:Ss s):Ss (aC5 x w s).1:=by
 by_cases h0:ac0 x w s=0
 ·rw [bi1 h0]
  exact Ss.lens (lens_shrink s) hs
 ·rw [great_no h0]
  exact Ss.nil
theorem cl_world_p (x:Sch) (w:Wd) (s:Sb) (hw:Ws w) (hs:Ss s) (HV:APure Tryz.prog 81 [schD x] (iD (ac9 x))):APure Tryz.prog 34 [schD x,slW w,slS2 s] (.tup [slW (ap4 x w s).1,iD (ap4 x w s).2]):=
 APure.of_call ((cl_world x w s hw hs HV).vs2 fun d σ ⟨v,e,h⟩=>by
  subst e
  exact ⟨_,[],Vs.vd ⟨σ,by simp⟩ (Vd.tup (.cons (Vd.frz (ρ:=[]) frz_w h (by simp) (fun b hb=>by cases hb)) (.cons (Vd.same (fun b hb=>by cases hb) _) .nil))),rfl⟩)
theorem r31_world_p (x:Sch) (w:Wd) (s:Sb) (hw:Ws w) (hs:Ss s) (HV:APure Tryz.prog 94 [schD x] (iD (ac9 x))):APure Tryz.prog 35 [schD x,slW w,slS2 s] (.tup [slW (ap4 x w s).1,iD (ap4 x w s).2]):=
 APure.of_call ((r31_world x w s hw hs HV).vs2 fun d σ ⟨v,e,h⟩=>by
  subst e
  exact ⟨_,[],Vs.vd ⟨σ,by simp⟩ (Vd.tup (.cons (Vd.frz (ρ:=[]) frz_w h (by simp) (fun b hb=>by cases hb)) (.cons (Vd.same (fun b hb=>by cases hb) _) .nil))),rfl⟩)
theorem sk114 {A B:Prop} (k:B) (h:Hd7 B→A:=by intro hk7q;(first|refine sb0 ?_|refine sb1 ?_|((with_reducible refine' Cp.by ?hc ?_);(case hc=>exact HG))|((with_reducible refine' CE.pure ?hc ?_);(case hc=>exact HG)));exact hk7q.run):A:=h ⟨k⟩
theorem l31_worlds (l m p:List Int) (hl:I64s l) (hm:I64s m) (hp:I64s p) (at_ how by_:Int) (hat:I64n at_) (hhow:I64n how) (hby:I64n by_) :
  APure Tryz.prog 7 [slI l,slI m,slI p,iD at_,iD how,iD by_] (bD true):=by
 refine APure.of_call (aa3 mixed aa0 Tryz.func7 (by kernel_rfl) rfl Tryz.ntmps7 rfl ?_);intro BB
 repeat' (first|refine sk96 ?_|(intro b;conv=>whnf))
 refine CE.some (l31_some_p l m hl hm at_ how by_ hat hhow hby) ?_
 rintro _ ⟨X,V,rfl,hS⟩
 have hX4:=hS.lx
 have hV4:=hS.lv
 repeat' (first|refine sk96 ?_|(intro b;conv=>whnf))
 refine aa6 mixed aa0 (γ:=Nat) (fun i=>[(15,iD i)]) (fun _=>[]) (fun i=>i≤4) (fun i=>4 - i) 0 (aa2 cl2) cl3 (by omega) ?_
 rintro i hi
 by_cases hi4:i<4
 ·obtain ⟨x,hx⟩:∃ x,X[i]?=some x:=⟨_,List.getElem?_eq_getElem (by omega)⟩
  obtain ⟨w,hw⟩:∃ x,V[i]?=some x:=⟨_,List.getElem?_eq_getElem (by omega)⟩
  have hx':X[((i:Nat):Int).toNat]?=some x:=hx
  have hw':V[((i:Nat):Int).toNat]?=some w:=hw
  have hcx:=hS.cx x (List.mem_of_getElem? hx)
  have hwo:=hS.cv w (List.mem_of_getElem? hw)
  have HV:=bd6 x hcx.good
  have HV9:=r09_valid x hcx.good
  repeat' (first|refine sk96 ?_|(intro b;conv=>whnf)|(with_reducible refine Br.t (beq_self_eq_true _) ?_)|(with_reducible refine Br.f Bool.not_true ?_)|(with_reducible refine Br.f (bne_self_eq_false _) ?_)|(with_reducible refine Br.t (decide_eq_true trivial) ?_))
  refine CE.own (l31_subs w hwo.ws ⟨by have:=hwo.fk;omega,fun l h=>by have:=hwo.few l h;omega⟩ p hp at_ hat) (List.Perm.refl []) (fun s'=>s') (fun s'=>by simp) ?_
  rintro _ σ ⟨B,v,rfl,hrow,hB⟩
  have hB4:=hB.lb
  obtain ⟨s0,hs0,hs0l⟩:=hB.hd
  have hss0:=hB.cs s0 (List.mem_of_getElem? hs0)
  obtain ⟨b,cap,cs,rfl,rfl,hc⟩:=hrow.get (show (B.map fun s=>[slS2 s])[0]?=some [slS2 s0] by rw [List.getElem?_map,hs0];rfl)
  have hc0:cs[0]?=some (slS2 s0):=hc 0 (by omega)
  have HG:=r31_great_p x w s0 hwo.ws hss0 HV9
  have hgs:=greatE_ss (x:=x) (w:=w) hss0
  generalize aC5 x w s0=ge at *
  rcases ge with ⟨g,e0⟩
  simp only at HG hgs
  have hbl:(B.map fun s=>[slS2 s]).length=4:=by rw [List.length_map,hB4]
  rw [hbl] at hrow ⊢
  repeat' (first|refine sk114 ?_|(intro b;conv=>whnf)|(with_reducible refine Br.t (beq_self_eq_true _) ?_)|(with_reducible refine Br.f Bool.not_true ?_)|(with_reducible refine Br.f (bne_self_eq_false _) ?_)|(with_reducible refine Br.t (decide_eq_true trivial) ?_))
  refine Ld.cellm (tb:=34) (cs:=cs) List.mem_cons_self (by simpa using hc0) ?_
  repeat' (first|refine sk114 ?_|(intro b;conv=>whnf)|(with_reducible refine Br.t (beq_self_eq_true _) ?_)|(with_reducible refine Br.f Bool.not_true ?_)|(with_reducible refine Br.f (bne_self_eq_false _) ?_)|(with_reducible refine Br.t (decide_eq_true trivial) ?_))
  refine Ap.frz rfl rfl rfl rfl hrow (List.Perm.refl _) rfl (zs:=(B ++ [g]).map fun s=>[slS2 s]) (by rw [List.map_append];rfl) (by simp;omega) (by simp;omega) ?_
  have hal:(B ++ [g]).length=5:=by simp [hB4]
  have hA:∀ s∈B ++ [g],Ss s:=fun s hs=>by
   rcases List.mem_append.1 hs with h|h
   ·exact hB.cs s h
   ·rw [List.mem_singleton.1 h];exact hgs
  generalize B ++ [g]=Q at hal hA ⊢
  repeat' (first|refine sk2 ?_|(intro b;conv=>whnf)|(with_reducible refine Br.t (beq_self_eq_true _) ?_)|(with_reducible refine Br.f Bool.not_true ?_)|(with_reducible refine Br.f (bne_self_eq_false _) ?_)|(with_reducible refine Br.t (decide_eq_true trivial) ?_))
  refine aa6 mixed aa0 (γ:=Nat) (fun j=>[(19,iD j)]) (fun _=>[]) (fun j=>j≤5) (fun j=>5 - j) 0 (aa2 cl2) cl3 (by omega) ?_
  rintro j hj
  by_cases hj5:j<5
  ·obtain ⟨s,hs⟩:∃ x,Q[j]?=some x:=⟨_,List.getElem?_eq_getElem (by omega)⟩
   have hs':Q[((j:Nat):Int).toNat]?=some s:=hs
   have hss:=hA s (List.mem_of_getElem? hs)
   have HC1:=cl_world_p x w s hwo.ws hss HV
   have HR1:=r31_world_p x w s hwo.ws hss HV9
   have HS1:=r31_sameW_p (ap4 x w s).1 (worldE_ws hwo.ws hss)
   generalize ap4 x w s=ve at HC1 HR1 HS1
   rcases ve with ⟨v,e⟩
   simp only at HC1 HR1 HS1
   repeat' (first|refine sk98 ?_|(intro b;conv=>whnf)|(with_reducible refine Br.t (beq_self_eq_true _) ?_)|(with_reducible refine Br.f Bool.not_true ?_)|(with_reducible refine Br.f (bne_self_eq_false _) ?_)|(with_reducible refine Br.t (decide_eq_true trivial) ?_))
   exact ⟨j+1,(aa2 cl2),cl3,by omega,by omega⟩
  ·obtain rfl:j=5:=by omega
   repeat' (first|refine sk98 ?_|(intro b;conv=>whnf))
   exact ⟨i+1,(aa2 cl2),cl3,by omega,by omega⟩
 ·obtain rfl:i=4:=by omega
  repeat' (first|refine sk96 ?_|(intro b;conv=>whnf))
  refine Rt.pure (congrArg bD ?_)
  rfl
end
section
open Go Go.Maps Go.MapKept Go.WideElems Go.ChangeShapes Go.WideShapes
set_option maxRecDepth 100000
abbrev laidL:List (String × DataW Unit):=[("math/bits.deBruijn32tab",Rows.laid_math_bits_deBruijn32tab),("math/bits.deBruijn64tab",Rows.laid_math_bits_deBruijn64tab),("internal/strconv.uint64pow10",Rows.laid_internal_strconv_uint64pow10),("diorama/schema.words",Rows.laid_diorama_schema_words),("diorama/typing.checks",Rows.laid_diorama_typing_checks)]
theorem c_word:Tryz.prog.cellsOf 9=1:=by kernel_rfl
theorem c_u64:Tryz.prog.cellsOf 175=1:=by kernel_rfl
theorem c_pow:Tryz.prog.cellsOf 247=20:=by kernel_rfl
theorem c_fn:Tryz.prog.cellsOf 158=1:=by kernel_rfl
theorem c_chk:Tryz.prog.cellsOf 159=1:=by kernel_rfl
theorem g_pow:Tryz.prog.globalNamed "internal/strconv.uint64pow10" = some 2:=by kernel_rfl
theorem g_words:Tryz.prog.globalNamed "diorama/schema.words" = some 1:=by kernel_rfl
theorem g_chk:Tryz.prog.globalNamed "diorama/typing.checks" = some 0:=by kernel_rfl
theorem t_pow:(Tryz.prog.globals[2]?).map (·.type)=some 247:=by kernel_rfl
theorem t_words:(Tryz.prog.globals[1]?).map (·.type)=some 228:=by kernel_rfl
theorem t_chk:(Tryz.prog.globals[0]?).map (·.type)=some 161:=by kernel_rfl
theorem pow_data:(Rows.laid_internal_strconv_uint64pow10:DataW Unit)=Lib.tabData .u64 Lib.pow10Tab:=by rfl
theorem aI3 {W:World} (h:laidMetH Tryz.prog laidL W) {n:String} {d:DataW Unit} (hm:(n,d)∈laidL.filter fun x=>x.2.handleName?.isNone):Lib.VarReads Tryz.prog W n d:=Lib.laidMet.reads (laidMetH_iff.1 h).1 hm
theorem none_pow:(Rows.laid_internal_strconv_uint64pow10:DataW Unit).handleName?.isNone=true:=rfl
theorem none_words:(Rows.laid_diorama_schema_words:DataW Unit).handleName?.isNone=true:=rfl
theorem laid_pow {W:World} (h:laidMetH Tryz.prog laidL W):Pow10 W:=by
 obtain ⟨g,t,cs,fuel,p,hg,ht,hv,hd⟩:=aI3 h (n:= "internal/strconv.uint64pow10") (d:=Rows.laid_internal_strconv_uint64pow10) (List.mem_filter.2 ⟨by simp [laidL],none_pow⟩)
 obtain rfl:=Option.some.inj (g_pow.symm.trans hg)
 obtain rfl:=Option.some.inj (t_pow.symm.trans ht)
 rw [pow_data] at hd
 unfold Pow10 Lib.TabIs
 rw [hv,← Lib.cells_of_tab Tryz.underlying247 Tryz.underlying175 c_u64 c_pow hd]
theorem laid_words {W:World} (h:laidMetH Tryz.prog laidL W):WordsAt W:=by
 obtain ⟨g,t,cs,fuel,p,hg,ht,hv,hd⟩:=aI3 h (n:= "diorama/schema.words") (d:=Rows.laid_diorama_schema_words) (List.mem_filter.2 ⟨by simp [laidL],none_words⟩)
 obtain rfl:=Option.some.inj (g_words.symm.trans hg)
 obtain rfl:=Option.some.inj (t_words.symm.trans ht)
 obtain ⟨xs,m1,rfl,hx1,hlen,hn3,hel⟩:=DataW.trod_array Tryz.underlying228 hd
 intro i s hi
 have hi9:i<9:=(List.getElem?_eq_some_iff.1 hi).1
 have hE:=hel i hi9
 obtain ⟨y,hy⟩:∃ y,xs[i]?=some y:=⟨xs[i]'(by omega),List.getElem?_eq_getElem (by omega)⟩
 rw [hy,c_word] at hE
 obtain ⟨s',e1,e2,_⟩:=DataW.trod_string Tryz.underlying9 hE
 have hc:=World.var?_cell g_words hv i
 have e3:cs[i]?=some (.string s'):=by
  have:=congrArg (·[0]?) e1
  simpa [List.getElem?_take,List.getElem?_drop] using this
 rw [e3] at hc
 rw [hc]
 have e4:(xs.map (·.1))[i]?=some (.lit (.string s'.data.toList)):=by rw [List.getElem?_map,hy,e2];rfl
 have e5:=congrArg Prod.fst hx1
 simp only [Rows.laid_diorama_schema_words,DataW.agg.injEq] at e5
 rw [← e5] at e4
 have key:s'.data.toList=s.data.toList:=by
  have:i=0∨i=1∨i=2∨i=3∨i=4∨i=5∨i=6∨i=7∨i=8:=by omega
  rcases this with rfl|rfl|rfl|rfl|rfl|rfl|rfl|rfl|rfl <;> (simp at hi e4;subst hi;rw [← e4])
 have:s'=s:=by
  obtain ⟨a⟩:=s';obtain ⟨b⟩:=s
  congr 1
  exact Array.toList_inj.1 key
 rw [this]
abbrev nmB (d:UInt8):List UInt8:=[100,105,111,114,97,109,97,47,116,121,112,105,110,103,46,99,104,101,99,107,115,36,d]
abbrev chkE:List (Lit × DataW (List UInt8)):=[(.int .i64 0,.agg [.held (nmB 49)]),(.int .i64 1,.agg [.held (nmB 50)]),(.int .i64 4,.agg [.held (nmB 51)]),(.int .i64 5,.agg [.held (nmB 52)]),(.int .i64 6,.agg [.held (nmB 53)]),(.int .i64 7,.agg [.held (nmB 54)]),(.int .i64 8,.agg [.held (nmB 55)])]
theorem fn_one {W:World} {n:Nat} {v:Value} {z:DataW (List UInt8) × List MemPlace} {d:UInt8} {f0:FuncId} (h:elemAt (funcToken Tryz.prog) Tryz.prog W 0 (fun _=>true) true n 159 v=some z) (hz:z.1 = .agg [.held (nmB d)])
  (hone:((List.range Tryz.prog.funcs.size).filter fun f=>(Tryz.prog.funcs[f]?).any (·.name.toUTF8.data.toList == nmB d))=[f0]):v = .agg #[chkV f0]:=by
 unfold elemAt at h
 split at h
 ·rename_i hf
  obtain ⟨xs,m,rfl,hx,hl,hn,hel⟩:=DataW.trod_struct Tryz.underlying159 h
  rw [c_chk] at hl
  have h0:=hel 0 _ rfl
  obtain ⟨y,hy⟩:∃ y,xs[0]?=some y:=⟨xs[0]'(by rw [hn];decide),List.getElem?_eq_getElem _⟩
  simp only [hy,c_fn,List.drop_zero] at h0
  rw [hx] at hz
  simp only [DataW.agg.injEq] at hz
  have hy1:y.1 = .held (nmB d):=by
   have:(xs.map (·.1))[0]?=some y.1:=by rw [List.getElem?_map,hy];rfl
   rw [hz] at this
   simpa using this.symm
  match hc:v.cells.toList,hl with
  | [c],_=>
   rw [hc] at h0
   simp only [List.getElem_toArray,List.getElem_cons_zero,List.drop_zero,c_fn,List.take_succ_cons,List.take_zero] at h0
   obtain ⟨y1,y2⟩:=y
   simp only at hy1
   subst hy1
   have e:=func_of_trod Tryz.underlying158 hone h0
   subst e
   unfold Value.formed at hf
   rw [Tryz.underlying159] at hf
   cases v with
   | agg cs=>
    simp only [Value.cells] at hc
    obtain ⟨l⟩:=cs
    simp only at hc
    rw [hc];rfl
   | _=>simp at hf
 ·cases h
theorem laid_checks {W:World} (h:laidMetH Tryz.prog laidL W):∃ r,W.cell? ⟨0,0,none⟩=some (.map (some r))∧MapIs Tryz.prog 3 W r 7 (aggF chkM):=by
 obtain ⟨g,t,cs,fuel,p,hg,ht,hv,hd⟩:=h.funcs (n:= "diorama/typing.checks") (by unfold laidL Rows.laid_diorama_typing_checks;simp only [List.mem_cons];exact .inr (.inr (.inr (.inr (.inl rfl)))))
 obtain rfl:=Option.some.inj (g_chk.symm.trans hg)
 obtain rfl:=Option.some.inj (t_chk.symm.trans ht)
 have hd':DataW.trod (funcToken Tryz.prog) Tryz.prog W 0 (fun _=>true) true fuel 161 cs.toList=some (.map chkE,p):=hd
 rcases open_map Tryz.underlying161 hd' with ⟨_,hx⟩|⟨bm,es,clock,m,rfl,hcs,hb,_,F,hx⟩
 ·simp at hx
 simp only [Prod.mk.injEq,DataW.map.injEq] at hx
 have hp:=hx.1 ▸ sorted_perm (es.toList.map (rg Tryz.prog 3 (elemAt (funcToken Tryz.prog) Tryz.prog W 0 (fun _=>true) true m 159)))
 have hcell:=World.var?_cell hg hv 0
 rw [Array.eq_one_of_toList hcs] at hcell
 have hsz:es.size=7:=by have:=hp.length_eq;simpa using this.symm
 have one:∀ e∈es.toList,aggF chkM e.key=some e.val:=fun e he=>by
  obtain ⟨y,hy⟩:=F.reads e he
  have hm:y∈chkE:=hp.mem_iff.2 (List.mem_map.2 ⟨e,he,rg_of hy⟩)
  have hk:=rd_key hy
  obtain ⟨z,hz1,hz2⟩:=rd_val hy
  obtain ⟨q,e1,e2,_⟩:=keyOf_int_inv Tryz.underlying3 hk
  simp only [chkE,List.mem_cons,List.not_mem_nil,or_false] at hm
  rcases hm with rfl|rfl|rfl|rfl|rfl|rfl|rfl <;> (cases e2;rw [e1,fn_one hz1 hz2.symm (by kernel_rfl)];rfl)
 refine ⟨bm,by simpa using hcell,es,clock,hb,⟨by omega,F.stamped,F.keys,one,fun key v hkv=>?_⟩⟩
 have back:∀ (n:Int) d,(Lit.int .i64 n,d)∈chkE→∃ e∈es.toList,e.key = .int .i64 n:=fun n d hm=>by
  obtain ⟨e,he,hr⟩:=List.mem_map.1 (hp.mem_iff.1 hm)
  obtain ⟨y,hy⟩:=F.reads e he
  rw [rg_of hy] at hr
  have hk:=rd_key hy
  rw [hr] at hk
  obtain ⟨q,e1,e2,_⟩:=keyOf_int_inv Tryz.underlying3 hk
  simp only at e2
  cases e2
  exact ⟨e,he,e1⟩
 have fin:∀ (n:Int) d,(Lit.int .i64 n,d)∈chkE→key = .int .i64 n→∃ e∈es.toList,e.key=key∧e.val=v:=fun n d hm hk=>by
  obtain ⟨e,he,e1⟩:=back n d hm
  have:=one e he
  rw [e1,← hk,hkv] at this
  exact ⟨e,he,by rw [e1,hk],(Option.some.inj this).symm⟩
 unfold aggF chkM at hkv
 split at hkv
 ·exact fin 0 (.agg [.held (nmB 49)]) (by simp [chkE]) rfl
 ·exact fin 1 (.agg [.held (nmB 50)]) (by simp [chkE]) rfl
 ·exact fin 4 (.agg [.held (nmB 51)]) (by simp [chkE]) rfl
 ·exact fin 5 (.agg [.held (nmB 52)]) (by simp [chkE]) rfl
 ·exact fin 6 (.agg [.held (nmB 53)]) (by simp [chkE]) rfl
 ·exact fin 7 (.agg [.held (nmB 54)]) (by simp [chkE]) rfl
 ·exact fin 8 (.agg [.held (nmB 55)]) (by simp [chkE]) rfl
 ·cases hkv
theorem var_lt {W:World} {n:String} {g:Nat} {cs:Array Value} (hg:Tryz.prog.globalNamed n=some g) (hv:W.var? Tryz.prog n=some cs):g<W.heap.size:=by
 unfold World.var? at hv
 rw [hg] at hv
 simp only [Option.bind_some] at hv
 cases hb:W.heap[g]? with
 | none=>rw [hb] at hv;simp at hv
 | some o=>exact (Array.getElem?_eq_some_iff.1 hb).1
theorem laid_gok {W:World} (h:laidMetH Tryz.prog laidL W):GOK W (fun _=>False):=by
 obtain ⟨g,t,cs,fuel,p,hg,ht,hv,hd⟩:=aI3 h (n:= "math/bits.deBruijn64tab") (d:=Rows.laid_math_bits_deBruijn64tab) (List.mem_filter.2 ⟨by simp [laidL],rfl⟩)
 have hlt:=var_lt hg hv
 obtain rfl:=Option.some.inj ((show Tryz.prog.globalNamed "math/bits.deBruijn64tab" = some 4 by kernel_rfl).symm.trans hg)
 obtain ⟨r,h1,h2⟩:=laid_checks h
 exact ⟨fun _ h=>h.elim,hlt,fun _ _ h=>h,laid_pow h,laid_words h,r,h1,fun h=>h,h2⟩
end
section
open Go Go.ChangeShapes Go.WideShapes Go.ChangeAt Go.RowKit
set_option maxRecDepth 100000
theorem c_int:Tryz.prog.cellsOf 3=1:=by kernel_rfl
theorem b_int:Tryz.prog.bytesOf 3=8:=by kernel_rfl
inductive ArgD:TypeId→D→Prop
 | int (n:Int) (h:I64n n):ArgD 3 (iD n)
 | ints (l:List Int) (h:I64s l):ArgD 22 (slI l)
inductive ArgsD:List TypeId→List D→Prop
 | nil:ArgsD [] []
 | cons {t:TypeId} {d:D} {ts:List TypeId} {ds:List D} (h:ArgD t d) (k:ArgsD ts ds):ArgsD (t :: ts) (d :: ds)
theorem ArgD.int_inv {d:D} (h:ArgD 3 d):∃ n,I64n n∧d=iD n:=by
 generalize hq:3=q at h
 cases h with
 | int n h=>exact ⟨n,h,rfl⟩
 | ints l h=>exact absurd hq (by decide)
theorem ArgD.ints_inv {d:D} (h:ArgD 22 d):∃ l,I64s l∧d=slI l:=by
 generalize hq:22=q at h
 cases h with
 | int n h=>exact absurd hq (by decide)
 | ints l h=>exact ⟨l,h,rfl⟩
theorem ArgsD.nil_inv {ds:List D} (h:ArgsD [] ds):ds=[]:=by cases h;rfl
theorem ArgsD.int_inv {ts:List TypeId} {ds:List D} (h:ArgsD (3 :: ts) ds):∃ n ds',I64n n∧ds=iD n :: ds'∧ArgsD ts ds':=by
 cases h with
 | cons h k=>obtain ⟨n,hn,rfl⟩:=h.int_inv;exact ⟨n,_,hn,rfl,k⟩
theorem ArgsD.ints_inv {ts:List TypeId} {ds:List D} (h:ArgsD (22 :: ts) ds):∃ l ds',I64s l∧ds=slI l :: ds'∧ArgsD ts ds':=by
 cases h with
 | cons h k=>obtain ⟨n,hn,rfl⟩:=h.ints_inv;exact ⟨n,_,hn,rfl,k⟩
theorem i64_wf {n:Int} (h:(Lit.int .i64 n).wf=true):I64n n:=by
 simp only [Lit.wf,Bool.and_eq_true,decide_eq_true_eq] at h
 exact ⟨h.1,h.2⟩
section
variable {H:Type} {enc:TypeId × Value→H} {W:World}
theorem arg_read {t:TypeId} {v:Value} {d:DataW H} {ps:List MemPlace} {base:Nat} (ht:t=3∨t=22) (hv:Value.okWide Tryz.prog W .any base t v)
  (h:DataW.Trod enc Tryz.prog W 0 (fun _=>true) true t v d ps) (hw:∀ n∈d.weights Tryz.prog t,n≤reachBytes) :
  (∃ x,ArgD t x∧Rd W (fun _=>False) x v)∧∀ W',Ex W W'→∀ sp:Nat→Bool,(∀ p∈ps,sp p.block=true)→DataW.Trod enc Tryz.prog W' 0 sp true t v d ps:=by
 rcases ht with rfl|rfl
 ·obtain ⟨n,rfl,rfl,rfl,hn⟩:=open_int Tryz.underlying3 hv h
  exact ⟨⟨_,.int n (i64_wf hn),.v _⟩,fun W' _ sp _=>shut_int Tryz.underlying3 hn⟩
 ·obtain ⟨a,len,cap,rfl⟩:=okWide_slice Tryz.underlying22 hv
  obtain ⟨fuel,hf⟩:=h
  rcases open_ints Tryz.underlying22 Tryz.underlying3 c_int hf with ⟨h1,h2⟩|⟨a',len',cap',zs,h1,hb,hl,hm,hz,hx,hcell,hwf⟩
  ·simp only [Value.cells,List.cons.injEq,Value.slice.injEq,and_true] at h1
   obtain ⟨rfl,rfl,rfl⟩:=h1
   cases h2
   refine ⟨⟨_,.ints [] ⟨by simp,by simp⟩,?_⟩,fun W' _ sp _=>⟨1,?_⟩⟩
   ·exact .sl 1 [] none 0 (fun _ _=>undef) (Nat.le_refl _) (by simp) (by simp) (by simp)
   ·rw [DataW.trod_step]
    unfold DataW.trodStep
    simp only [Tryz.underlying22,Value.cells]
  ·simp only [Value.cells,List.cons.injEq,Value.slice.injEq,and_true] at h1
   obtain ⟨rfl,rfl,rfl⟩:=h1
   simp only [if_true] at hz
   cases hx
   have hlen:len≤17592186044416:=by
    have:=hw ((len+(cap - len))*8) (by
     unfold DataW.weights
     rw [Tryz.underlying22]
     simp only [List.length_map,List.length_take,List.length_drop,lits,b_int,hz,Nat.min_eq_left hl]
     exact List.mem_cons_self)
    unfold reachBytes at this
    omega
   refine ⟨⟨_,.ints (zs.take len) ⟨fun n hn=>i64_wf (hwf n (List.mem_of_mem_take hn)),by rw [List.length_take];omega⟩,?_⟩,fun W' hex sp hsp=>?_⟩
   ·have hcl:∀ (i:Nat) n,(zs.take len)[i]?=some n→W.cell? (a'.add i)=some (.int .i64 n):=fun i n hn=>by
     rw [List.getElem?_take] at hn
     split at hn
     ·have hi:=(List.getElem?_eq_some_iff.1 hn).1
      rw [hcell i hi]
      simp [List.getD_eq_getElem?_getD,hn]
     ·cases hn
    have hln:len=((zs.take len).map fun n=>[iD n]).length:=by rw [List.length_map,List.length_take];omega
    have:Rd W (fun _=>False) (.sl 1 ((zs.take len).map fun n=>[iD n])) (.slice (some a') ((zs.take len).map fun n=>[iD n]).length cap):=by
     refine .sl 1 _ (some a') cap (fun i _=>.int .i64 ((zs.take len).getD i 0)) (by rw [← hln];exact hl) (fun y hy=>by obtain ⟨n,_,rfl⟩:=List.mem_map.1 hy;rfl) (fun i y hy=>?_) (fun i y hy j d hd=>?_)
     ·rw [List.getElem?_map,Option.map_eq_some_iff] at hy
      obtain ⟨n,hn,rfl⟩:=hy
      have hc:=hcl i n hn
      obtain ⟨b,off,spot⟩:=a'
      have hs:spot=none:=by
       have hi0:=(List.getElem?_eq_some_iff.1 hn).1
       rw [List.length_take] at hi0
       have:=World.cell?_spot (hcell 0 (by omega))
       simpa [Addr.add] using this
      subst hs
      refine ⟨b,off,rfl,fun h=>h,by have:=World.block_lt_of_cell? W _ hc;simp only [Addr.add] at this;split at this <;> simpa using this,fun j hj=>?_⟩
      obtain rfl:j=0:=by omega
      rw [add_plain] at hc
      rw [Nat.mul_one,Nat.add_zero,hc]
      simp [List.getD_eq_getElem?_getD,hn]
     ·rw [List.getElem?_map,Option.map_eq_some_iff] at hy
      obtain ⟨n,hn,rfl⟩:=hy
      cases j with
      | succ j=>simp at hd
      | zero=>
       simp at hd
       subst hd
       have:(zs.take len).getD i 0=n:=by rw [List.getD_eq_getElem?_getD,hn];rfl
       rw [this]
       exact .v _
    rw [← hln] at this
    exact this
   ·have hsz:zs.length=if sp a'.block=true then cap else len:=by
     rcases Nat.eq_zero_or_pos cap with h0|h0
     ·split <;> omega
     ·rw [if_pos (show sp a'.block=true from hsp (.cell a'.block a'.off) (MemPlace.mem_row.2 ⟨0,by omega,by simp⟩))]
      exact hz
    exact ⟨2,shut_ints 0 Tryz.underlying22 Tryz.underlying3 c_int hb hl hm hsz (fun i hi=>hex.cell (hcell i hi)) hwf⟩
theorem args_read {base:Nat}:∀ {ts:List TypeId} {vs:List Value} {ds:List (DataW H)} {ps:List MemPlace},(∀ t∈ts,t=3∨t=22)→(∀ (j:Nat) t v,ts[j]?=some t→vs[j]?=some v→Value.okWide Tryz.prog W .any base t v) →
  DataW.TrodAll enc Tryz.prog W 0 (fun _=>true) true ts vs ds ps→(∀ n∈DataW.weightsEach Tryz.prog ts ds,n≤reachBytes) →
  (∃ xs,ArgsD ts xs∧RdL W (fun _=>False) xs vs)∧(∀ W',Ex W W'→∀ sp:Nat→Bool,(∀ p∈ps,sp p.block=true)→DataW.TrodAll enc Tryz.prog W' 0 sp true ts vs ds ps)
 | [],vs,ds,ps,_,_,h,_=>by
  obtain ⟨rfl,rfl,rfl⟩:=trodAll_nil h
  exact ⟨⟨[],.nil,.nil⟩,fun _ _ _ _=>trodAll_mk0⟩
 | t :: ts,vs,ds,ps,ht,hv,h,hw=>by
  obtain ⟨v0,vs0,d0,ds0,p0,q0,rfl,rfl,rfl,h0,r0⟩:=trodAll_cons h
  have hw':DataW.weightsEach Tryz.prog (t :: ts) (d0 :: ds0)=d0.weights Tryz.prog t ++ DataW.weightsEach Tryz.prog ts ds0:=rfl
  rw [hw'] at hw
  obtain ⟨⟨x,k1,k2⟩,k3⟩:=arg_read (ht t (by simp)) (hv 0 t v0 rfl rfl) h0 (fun n hn=>hw n (List.mem_append_left _ hn))
  obtain ⟨⟨xs,g1,g2⟩,g3⟩:=args_read (fun u hu=>ht u (by simp [hu])) (fun j u v hj hvj=>hv (j+1) u v (by simpa using hj) (by simpa using hvj)) r0 (fun n hn=>hw n (List.mem_append_right _ hn))
  exact ⟨⟨x :: xs,.cons k1 g1,.cons k2 g2⟩,fun W' hex sp hsp=>trodAll_cons_mk (k3 W' hex sp (fun p hp=>hsp p (List.mem_append_left _ hp))) (g3 W' hex sp (fun p hp=>hsp p (List.mem_append_right _ hp)))⟩
theorem kept_ex {W':World} (h:Ex W W') (may:MemPlace→Prop):W.keptBut W' may:=by
 refine World.keptBut_mono (may:=fun _=>False) (fun _ f=>f.elim) (World.keptBut.congr (World.keptBut_refl W _) ?_ ?_ (fun i hi=>h.block i hi))
 ·exact Keep.os h
 ·exact Keep.output h
theorem bh2 {f:FuncId} {fn:Func} {s:ChangeSpec} (hts:∀ t∈fn.params.toList,t=3∨t=22) (hvars:s.vars=[]) (hres:fn.resultTypes = #[4])
  (hs:∀ ds:List (DataW H),ds.length=fn.params.size→s.fn H ds={ results:=[.lit (.bool true)],args:=ds }) (hP:∀ xs,ArgsD fn.params.toList xs→APure Tryz.prog f xs (bD true))
  (base:Nat) (args:Array Value) (ds gs:List (DataW H)) (before:List MemPlace)
  (hval:∀ (j:Nat) t v,fn.params[j]?=some t→args[j]?=some v→Value.okWide Tryz.prog W .any base t v)
  (hW:DataW.Whole enc Tryz.prog fn.params.toList s.vars false W args.toList ds gs before)
  (hsz:(DataW.weightsEach Tryz.prog (fn.params.toList ++ s.plain.varTypes Tryz.prog) (ds ++ gs)).all (·≤reachBytes)=true) (hL:laidMetH Tryz.prog laidL W) :
  Calls Tryz.prog f args W fun e W'=>∃ v,e = .returned v∧s.post enc Tryz.prog fn false true false false W args v W':=by
 have hW':=hW
 obtain ⟨p,q,hA,hV,rfl,hfz,hnd⟩:=hW
 rw [hvars] at hV
 obtain ⟨rfl,rfl⟩:=trodVars_none hV
 have hdl:ds.length=fn.params.size:=by have:=(trodAll_length hA).2;simpa using this
 have hw:∀ n∈DataW.weightsEach Tryz.prog fn.params.toList ds,n≤reachBytes:=fun n hn=>by
  have hvt:s.plain.varTypes Tryz.prog=[]:=by simp [DataSpec.varTypes,ChangeSpec.plain,hvars]
  rw [hvt,List.append_nil,List.append_nil] at hsz
  exact of_decide_eq_true (List.all_eq_true.1 hsz n hn)
 obtain ⟨⟨xs,k1,k2⟩,k3⟩:=args_read hts (fun j t v hj hv=>hval j t v (by simpa using hj) (by simpa using hv)) hA hw
 have hrun:=(hP xs k1).run W (fun _=>False) args.toList k2 (laid_gok hL)
 rw [Array.toArray_toList] at hrun
 refine hrun.mono fun e W' ⟨u,he,hu,hex⟩=>?_
 have hu':=hu.val rfl
 subst hu'
 refine ⟨_,he,?_⟩
 have hfn:=hs ds hdl
 have hold:∀ x∈p,(fun b=>decide (b<W.heap.size)) x.block=true:=fun x hx=>by have:=hW'.lt x (by simpa using hx);simpa using this
 have hra:∀ (b:Nat) (sp:Nat→Bool) (hd:Bool),DataW.TrodAll enc Tryz.prog W' b sp hd fn.resultTypes.toList ((Value.bool true).resultList fn.resultTypes.size) (s.fn H (ds ++ [])).results []:=fun b sp hd=>by
  rw [List.append_nil,hfn,hres]
  exact trodAll_cons_mk (shut_bool Tryz.underlying4 _) trodAll_mk0
 have hA1:∀ sp:Nat→Bool,(∀ x∈p,sp x.block=true)→DataW.TrodAll enc Tryz.prog W' 0 sp true fn.params.toList args.toList (s.fn H (ds ++ [])).args p:=fun sp hsp=>by
  rw [List.append_nil,hfn];exact k3 W' hex _ hsp
 have hV1:∀ sp:Nat→Bool,DataW.TrodVars enc Tryz.prog W' sp s.vars (s.fn H (ds ++ [])).vars []:=fun sp=>by
  rw [hvars,List.append_nil,hfn];rfl
 refine ⟨ds,[],p ++ [],[],p,[],hW',hra _ _ _,hA1 _ hold,hV1 _,kept_ex hex _,fun _=>?_⟩
 ·refine ⟨ok_one hres rfl (okWide_bool_mk Tryz.underlying4 _),_,_,([] ++ p) ++ [],⟨[] ++ p,[],trodAll_append (hA1 _ (fun _ _=>rfl)) (hra _ _ _),hV1 _,rfl,?_,fun h=>by cases h⟩,fun x hx _=>by simpa using hx⟩
  intro b off hp
  have hp':MemPlace.cell b off∈p ++ []:=by simpa using hp
  rw [hex.frozen (hW'.lt _ hp')]
  exact hfz b off hp'
end
theorem door_met (os:Os) (args:Array Value):laidMetH Tryz.prog laidL ((World.doorLaid Tryz.prog 76 os).forCall (fun _ _=>0) ⟨#[],args,[]⟩).memory:=
 laidMetH_of_parts3 (fuel:=8) (laidMet_of_run' 8 (by kernel_rfl) (by kernel_rfl)) (by kernel_rfl) (by kernel_rfl)
theorem own:ownKnob Tryz.prog.godebug=none:=by kernel_rfl
end
end Go.Proofs.YtjbbmjjildhfbaaGreatDoor
