/- A part of the proof: Kr Ks Ku Kv Kw Ct Kx Ky Kz Cw Va. -/
import Derived.Test.YtjbbmjjildhfbaaGreatDoorW18
import Derived.DeepKeys5
set_option maxRecDepth 100000
set_option maxHeartbeats 4000000
set_option linter.unusedVariables false
set_option linter.unusedSimpArgs false
namespace Go.Proofs.YtjbbmjjildhfbaaGreatDoor
section
open Go
structure Fit (x:Sch) (w:Wd) (s:Sb):Prop where
 snd:Snd x
 ws:Ws w
 ss:Ss s
 fit:aG8 x w=true
 shp:w.map List.length=s.map List.length
theorem ai9 {x:Sch} {w:Wd} (h:aG8 x w=true):w.length=x.kinds.length∧(∀ (k:Nat) l,w[k]?=some l→l.any (fun r=>!lenOk x k r)=false)∧(∀ r∈aa7 x,∀ l∈w.getD r.kind [],refOk w r l=true)∧bd1 w≤512:=by
 unfold aG8 at h
 simp only [Bool.and_eq_true,decide_eq_true_eq,List.all_eq_true] at h
 obtain ⟨⟨⟨h1,h2⟩,h3⟩,h4⟩:=h
 refine ⟨h1,fun k l hl=>?_,h3,h4⟩
 unfold lensB at h2
 rw [List.all_eq_true] at h2
 have:=h2 k (List.mem_range.2 (List.getElem?_eq_some_iff.1 hl).1)
 rw [aa4 hl,List.all_eq_true] at this
 rw [List.any_eq_false]
 intro r hr
 simp [this r hr]
theorem aQ9 {x:Sch} {w:Wd} {s:Sb} (hF:Fit x w s) {r:Rf} (hr:r∈aa7 x) {l:List (List Int)} (hl:w[r.kind]?=some l) {i:Nat} {y:List Int} (hy:l[i]?=some y) :
  ∃ v z t,y[r.field]?=some v∧ay1 w r.kind i r.field=v∧0≤v∧w[r.up.toNat]?=some z∧s[r.up.toNat]?=some t∧t.length=z.length∧v.toNat<t.length:=by
 obtain ⟨h1,h2,h3,_⟩:=ai9 hF.fit
 obtain ⟨u1,u2,u3⟩:=hF.snd.up r hr
 have hym:=List.mem_of_getElem? hy
 have hfl:=aI4 hr h2 hl hym
 have hok:=h3 r hr y (by rw [aa4 hl];exact hym)
 obtain ⟨z,hz⟩:∃ z,w[r.up.toNat]?=some z:=⟨_,List.getElem?_eq_getElem (by omega)⟩
 obtain ⟨t,ht,htl⟩:=ai1 hF.shp hz
 have hv:y[r.field]?=some y[r.field]:=List.getElem?_eq_getElem hfl
 unfold refOk at hok
 rw [aa4 hv,aa4 hz] at hok
 simp only [Bool.not_eq_true',Bool.or_eq_false_iff,decide_eq_false_iff_not] at hok
 exact ⟨_,z,t,hv,by unfold ay1 aX5;rw [aa4 hl,aa4 hy,aa4 hv],by omega,hz,ht,htl,by omega⟩
theorem aI7 {p:Nat→Bool} {n:Nat}:(List.range (n+1)).countP p=(List.range n).countP p+(if p n=true then 1 else 0):=by
 rw [List.range_succ,List.countP_append];cases h:p n <;> simp [h]
theorem any_upto {α:Type} {p:α→Bool} {l:List α} {k:Nat} (hno:∀ i y,i<k→l[i]?=some y→p y=false) (hk:l.length≤k):l.any p=false:=any_no fun i y h h2=>hno i y (by omega) h2
theorem be4 (x:Sch) (w:Wd) (s:Sb) (hF:Fit x w s) (k i:Nat) (l:List (List Int)) (y:List Int) (hl:w[k]?=some l) (hy:l[i]?=some y):APure Tryz.prog 55 [schD x,slW w,slS2 s,iD k,iD i] (bD (ar4 x w s k i)):=by
 have hV:=hF.snd.vld
 have hrl:=au9 hV
 have hl':w[((k:Nat):Int).toNat]?=some l:=hl
 have hy':l[((i:Nat):Int).toNat]?=some y:=hy
 refine APure.of_call (aa3 mixed aa0 Tryz.func55 (by kernel_rfl) rfl Tryz.ntmps55 rfl ?_);intro BB
 repeat' (first|refine sk54 ?_|(intro b;conv=>whnf))
 refine aa6 mixed aa0 (γ:=Nat) (fun q=>[(12,iD q)]) (fun _=>[]) (fun q=>q≤(aa7 x).length∧∀ (n:Nat) r,n<q→(aa7 x)[n]?=some r→au6 w s k i r=false) (fun q=>(aa7 x).length - q) 0 (aa2 cl2) cl3 ⟨Nat.zero_le _,fun k r h=>by omega⟩ ?_
 rintro q ⟨hq,hno⟩
 by_cases hql:q<(aa7 x).length
 ·obtain ⟨r,hr⟩:∃ r,(aa7 x)[q]?=some r:=⟨_,List.getElem?_eq_getElem hql⟩
  have hr':(aa7 x)[((q:Nat):Int).toNat]?=some r:=hr
  have hrm:=List.mem_of_getElem? hr
  obtain ⟨u1,u2,u3⟩:=hF.snd.up r hrm
  have hWl:=(ai9 hF.fit).1
  have yes:au6 w s k i r=true→ar4 x w s k i=true:=fun h=>any_at hr h
  -- the first test
  have T1:(r.kind=k∧∃ v t b,y[r.field]?=some v∧0≤v∧s[r.up.toNat]?=some t∧t[v.toNat]?=some b∧keptB s r.up.toNat (ay1 w k i r.field).toNat=b)∨r.kind≠k:=by
   by_cases e:r.kind=k
   ·left
    obtain ⟨v,z,t,g1,g2,g3,g4,g5,g6,g7⟩:=aQ9 hF hrm (by rw [e];exact hl) hy
    refine ⟨e,v,t,t[v.toNat],g1,g3,g5,List.getElem?_eq_getElem g7,?_⟩
    rw [← e,g2,at6 g5 (List.getElem?_eq_getElem g7)]
   ·exact .inr e
  have w1:∀ b c:Bool,(decide (r.kind=k) && !keptB s r.up.toNat (ay1 w k i r.field).toNat)=b→(decide (r.up=k) && decide ((ad7 w s r i:Int)<r.least))=c→au6 w s k i r=(b || c):=fun b c h1 h2=>by unfold au6;rw [h1,h2]
  by_cases A:(decide (r.kind=k) && !keptB s r.up.toNat (ay1 w k i r.field).toNat)=true
  ·have hy1:=yes (by rw [w1 true _ A rfl];rfl)
   rcases T1 with ⟨e,v,t,b,g1,g2,g3,g4,g5⟩|e
   ·rw [g5,decide_eq_true e] at A
    cases b
    ·have g1':y[((r.field:Nat):Int).toNat]?=some v:=g1
     repeat' (first|refine sk54 ?_|(intro b;conv=>whnf))
     refine Rt.pure (congrArg bD ?_);exact hy1.symm
    ·cases A
   ·rw [decide_eq_false e] at A;cases A
  ·rw [Bool.not_eq_true] at A
   by_cases B:r.up=k
   ·-- how many refer
    obtain ⟨lk,hlk⟩:∃ lk,w[r.kind]?=some lk:=⟨_,List.getElem?_eq_getElem (by omega)⟩
    have hlk':w[((r.kind:Nat):Int).toNat]?=some lk:=hlk
    obtain ⟨sk,hsk,hskl⟩:=ai1 hF.shp hlk
    have hsk':s[((r.kind:Nat):Int).toNat]?=some sk:=hsk
    have hlkl:=hF.ws.nr lk (List.mem_of_getElem? hlk)
    have CNT:∀ (D:Frm→Prop),True:=fun _=>trivial
    have cE:ad7 w s r i=(List.range lk.length).countP fun j=>keptB s r.kind j && decide (ay1 w r.kind j r.field=i):=by unfold ad7;rw [aa4 hlk]
    have fin:∀ n:Nat,n=ad7 w s r i→((n:Int)<r.least→ar4 x w s k i=true)∧(¬ (n:Int)<r.least→au6 w s k i r=false):=fun n hn=>by
     subst hn
     exact ⟨fun h=>yes (by rw [w1 false true A (by simp [B,h])];rfl),fun h=>by rw [w1 false false A (by simp [B,h])];rfl⟩
    generalize hp:(fun j=>keptB s r.kind j && decide (ay1 w r.kind j r.field=i))=p at cE
    rcases T1 with ⟨e,v,t,b,g1,g2,g3,g4,g5⟩|e
    ·exact absurd B (by omega)
    ·repeat' (first|refine sk54 ?_|(intro b;conv=>whnf))
     refine aa6 mixed aa0 (γ:=Nat) (fun m=>[(13,iD (((List.range m).countP p:Nat):Int)),(15,iD m)]) (fun _=>[]) (fun m=>m≤lk.length) (fun m=>lk.length - m) 0 (aa2 cl2) cl3 (Nat.zero_le _) ?_
     rintro m hm
     have hcm:(List.range m).countP p≤(List.range m).length:=List.countP_le_length
     rw [List.length_range] at hcm
     by_cases hml:m<lk.length
     ·obtain ⟨z,hz⟩:∃ z,lk[m]?=some z:=⟨_,List.getElem?_eq_getElem hml⟩
      have hz':lk[((m:Nat):Int).toNat]?=some z:=hz
      obtain ⟨c,hc⟩:∃ c,sk[m]?=some c:=⟨_,List.getElem?_eq_getElem (by omega)⟩
      have hc':sk[((m:Nat):Int).toNat]?=some c:=hc
      obtain ⟨v,_,t,g1,g2,g3,g4,g5,g6,g7⟩:=aQ9 hF hrm hlk hz
      have g1':z[((r.field:Nat):Int).toNat]?=some v:=g1
      have hpm:p m=(c && decide (v=i)):=by rw [← hp];simp only;rw [at6 hsk hc,g2]
      have hcs:=aI7 (p:=p) (n:=m)
      rw [hpm] at hcs
      cases c
      ·simp only [Bool.false_and,Bool.false_eq_true,if_false,Nat.add_zero] at hcs
       repeat' (first|refine sk54 ?_|(intro b;conv=>whnf))
       exact ⟨m+1,(aa2 cl7),cl3,by omega,by omega⟩
      ·by_cases hvi:v=(i:Int)
       ·simp only [decide_eq_true hvi,Bool.true_and,if_true] at hcs
        repeat' (first|refine sk54 ?_|(intro b;conv=>whnf))
        exact ⟨m+1,(aa2 cl7),cl3,by omega,by omega⟩
       ·simp only [decide_eq_false hvi,Bool.and_false,Bool.false_eq_true,if_false,Nat.add_zero] at hcs
        repeat' (first|refine sk54 ?_|(intro b;conv=>whnf))
        exact ⟨m+1,(aa2 cl7),cl3,by omega,by omega⟩
     ·obtain rfl:m=lk.length:=by omega
      obtain ⟨f1,f2⟩:=fin _ cE.symm
      repeat' (first|refine sk54 ?_|(intro b;conv=>whnf)|(with_reducible refine Br.d (fun hc=>?_) (fun hc=>?_))|(with_reducible refine Br.b (fun hc=>?_) (fun hc=>?_)))
      ·refine Rt.pure (congrArg bD ?_);exact (f1 (by assumption)).symm
      ·refine ⟨q+1,(aa2 cl2),cl3,⟨by omega,fun n r' hn hr2=>?_⟩,by omega⟩
       by_cases e:n=q
       ·subst e;cases hr.symm.trans hr2;exact f2 (by assumption)
       ·exact hno n r' (by omega) hr2
   ·have hw0:=w1 false false A (by simp [B])
    rcases T1 with ⟨e,v,t,b,g1,g2,g3,g4,g5⟩|e
    ·rw [g5,decide_eq_true e] at A
     have g1':y[((r.field:Nat):Int).toNat]?=some v:=g1
     cases b
     ·cases A
     ·repeat' (first|refine sk54 ?_|(intro b;conv=>whnf))
      refine ⟨q+1,(aa2 cl2),cl3,⟨by omega,fun n r' hn hr2=>?_⟩,by omega⟩
      by_cases e:n=q
      ·subst e;cases hr.symm.trans hr2;exact hw0
      ·exact hno n r' (by omega) hr2
    ·repeat' (first|refine sk54 ?_|(intro b;conv=>whnf))
     refine ⟨q+1,(aa2 cl2),cl3,⟨by omega,fun n r' hn hr2=>?_⟩,by omega⟩
     by_cases e:n=q
     ·subst e;cases hr.symm.trans hr2;exact hw0
     ·exact hno n r' (by omega) hr2
 ·obtain rfl:q=(aa7 x).length:=by omega
  repeat' (first|refine sk54 ?_|(intro b;conv=>whnf))
  refine Rt.pure (congrArg bD ?_)
  exact (any_upto hno (Nat.le_refl _)).symm
end
section
open Go
theorem av5 {x:Sch} {w:Wd} {s:Sb} (hw:Ws w) (hs:Ss s) (h:ac0 x w s=0):Fit x w s:=by
 unfold ac0 at h
 split at h
 ·cases h
 ·rename_i h1
  split at h
  ·cases h
  ·rename_i h2
   split at h
   ·cases h
   ·rename_i h3
    exact ⟨snd_of (List.length_eq_zero_iff.1 (by omega)),hw,hs,by simpa using h2,by have h4:aO1 w s=true:=(by simpa using h3);exact of_decide_eq_true h4⟩
theorem valid_no {x:Sch} {w:Wd} {s:Sb} (h:ac0 x w s≠0):ak9 x w s=false:=by unfold ak9;rw [decide_eq_false h];rfl
theorem sk78 {A B:Prop} (k:B) (h:Hd7 B→A:=by intro hk7q;(first|refine sb0 ?_|refine sb1 ?_|((with_reducible refine' Cp.by ?hc ?_);(case hc=>first|exact HC|exact HW))|((with_reducible refine' CE.pure ?hc ?_);(case hc=>first|exact HC|exact HW)));exact hk7q.run):A:=h ⟨k⟩
theorem r31_valid (x:Sch) (w:Wd) (s:Sb) (hw:Ws w) (hs:Ss s) (HV:APure Tryz.prog 94 [schD x] (iD (ac9 x))):APure Tryz.prog 30 [schD x,slW w,slS2 s] (bD (ak9 x w s)):=by
 have HC:=aD2 x w s hw HV
 have hsl:=hs.nk
 by_cases h0:ac0 x w s=0
 ·have hF:=av5 hw hs h0
  have hV:ak9 x w s=(aw7 s).all fun p=>!(keptB s p.1 p.2 && ar4 x w s p.1 p.2):=by unfold ak9;rw [decide_eq_true h0];rfl
  rw [hV]
  have HW:=True.intro
  refine APure.of_call (aa3 mixed aa0 Tryz.func30 (by kernel_rfl) rfl Tryz.ntmps30 rfl ?_);intro BB
  repeat' (first|refine sk78 ?_|(intro b;conv=>whnf))
  refine aa6 mixed aa0 (γ:=Nat) (fun j=>[(7,iD j)]) (fun _=>[]) (fun j=>j≤s.length∧∀ (k:Nat) l,k<j→s[k]?=some l→∀ i,i<l.length→(!(keptB s k i && ar4 x w s k i))=true) (fun j=>s.length - j) 0 (aa2 cl2) cl3 ⟨Nat.zero_le _,fun k l h=>by omega⟩ ?_
  rintro j ⟨hj,hno⟩
  by_cases hjl:j<s.length
  ·obtain ⟨l,hl⟩:∃ l,s[j]?=some l:=⟨_,List.getElem?_eq_getElem hjl⟩
   have hl':s[((j:Nat):Int).toNat]?=some l:=hl
   obtain ⟨lw,hlw,hlwl⟩:=ai1 hF.shp.symm hl
   have hll:=hs.nr l (List.mem_of_getElem? hl)
   repeat' (first|refine sk78 ?_|(intro b;conv=>whnf))
   refine aa6 mixed aa0 (γ:=Nat) (fun i=>[(8,iD i)]) (fun _=>[]) (fun i=>i≤l.length∧∀ n,n<i→(!(keptB s j n && ar4 x w s j n))=true) (fun i=>l.length - i) 0 (aa2 cl2) cl3 ⟨Nat.zero_le _,fun n h=>by omega⟩ ?_
   rintro i ⟨hi,hni⟩
   by_cases hil:i<l.length
   ·obtain ⟨b,hb⟩:∃ b,l[i]?=some b:=⟨_,List.getElem?_eq_getElem hil⟩
    have hb':l[((i:Nat):Int).toNat]?=some b:=hb
    obtain ⟨y,hy⟩:∃ y,lw[i]?=some y:=⟨_,List.getElem?_eq_getElem (by omega)⟩
    have HW:=be4 x w s hF j i lw y hlw hy
    have hke:=at6 hl hb
    generalize hq:ar4 x w s j i=q at *
    have nxt:(!(b && q))=true→∀ n,n<i+1→(!(keptB s j n && ar4 x w s j n))=true:=fun h n hn=>by
     by_cases e:n=i
     ·subst e;rw [hke,hq];exact h
     ·exact hni n (by omega)
    cases b <;> cases q
    all_goals repeat' (first|refine sk78 ?_|(intro b;conv=>whnf))
    all_goals first
     | (refine Rt.pure (congrArg bD ?_);exact (all_pos_no hl hil (by simp only;rw [hke,hq];rfl)).symm)
     | exact ⟨i+1,(aa2 cl2),cl3,⟨by omega,nxt rfl⟩,by omega⟩
   ·obtain rfl:i=l.length:=by omega
    repeat' (first|refine sk78 ?_|(intro b;conv=>whnf))
    refine ⟨j+1,(aa2 cl2),cl3,⟨by omega,fun k l' hk h1=>?_⟩,by omega⟩
    by_cases e:k=j
    ·subst e;cases hl.symm.trans h1;exact hni
    ·exact hno k l' (by omega) h1
  ·obtain rfl:j=s.length:=by omega
   repeat' (first|refine sk78 ?_|(intro b;conv=>whnf))
   refine Rt.pure (congrArg bD ?_)
   exact (all_pos.2 (fun k l hl=>hno k l (List.getElem?_eq_some_iff.1 hl).1 hl)).symm
 ·rw [valid_no h0]
  have HW:=True.intro
  refine APure.of_call (aa3 mixed aa0 Tryz.func30 (by kernel_rfl) rfl Tryz.ntmps30 rfl ?_);intro BB
  repeat' (first|refine sk78 ?_|(intro b;conv=>whnf))
  refine Rt.pure (congrArg bD ?_);rfl
end
section
open Go
abbrev RB:ORep (List Bool):=fun l v s=>RowIs 4 1 (l.map fun b=>[bD b]) v s
abbrev RI:ORep (List Int):=fun l v s=>RowIs 3 1 (l.map fun n=>[iD n]) v s
abbrev RS:ORep Sb:=RowsOf 62 RB
abbrev RW1:ORep (List (List Int)):=RowsOf 22 RI
abbrev RW:ORep Wd:=RowsOf 75 RW1
theorem frz_b:Frz RB slB:=frz_row _ _ _
theorem frz_i:Frz RI slI:=frz_row _ _ _
theorem frz_s:Frz RS slS2:=ba8 frz_b
theorem frz_w1:Frz RW1 slW1:=ba8 frz_i
theorem frz_w:Frz RW slW:=ba8 frz_w1
theorem one_b (l:List Bool):((l.map fun b=>[bD b]).all fun y=>y.all oneD)=true:=by rw [List.all_eq_true];intro y hy;obtain ⟨b,_,rfl⟩:=List.mem_map.1 hy;rfl
theorem one_i (l:List Int):((l.map fun b=>[iD b]).all fun y=>y.all oneD)=true:=by rw [List.all_eq_true];intro y hy;obtain ⟨b,_,rfl⟩:=List.mem_map.1 hy;rfl
theorem clone_b (l:List Bool) (hl:l.length≤1000000):ACall Tryz.prog 93 [slB l] [] (fun d s=>∃ v,d = .v v∧RB l v s):=by
 refine aa3 mixed aa0 Tryz.func93 (by kernel_rfl) rfl Tryz.ntmps93 rfl ?_;intro BB
 repeat' (first|refine sk2 ?_|(intro b;conv=>whnf))
 refine OtE.nilsl aa0 rfl rfl rfl rfl rfl (fun e he=>?_)
 repeat' (first|refine sk2 ?_|(intro b;conv=>whnf)|(with_reducible refine Br.d (fun hc=>?_) (fun hc=>?_))|(with_reducible refine Br.b (fun hc=>?_) (fun hc=>?_)))
 ·have:l=[]:=by simpa using he (by assumption)
  subst this
  exact Rt.same ⟨_,rfl,RowIs.nil _ _⟩
 ·refine Ap.go rfl rfl rfl rfl (RowIs.e0 _ _ (some ⟨b,0,none⟩)) (List.Perm.refl _) (one_b l) (zs:=l.map fun b=>[bD b]) rfl (by simp;omega) (by simp;omega) (fun s'=>s') (fun s'=>by simp) (fun a c s' hr=>?_)
  repeat' (first|refine sk2 ?_|(intro b;conv=>whnf))
  exact Rt.same ⟨_,rfl,hr⟩
theorem clone_i (l:List Int) (hl:l.length≤1000000):ACall Tryz.prog 58 [slI l] [] (fun d s=>∃ v,d = .v v∧RI l v s):=by
 refine aa3 mixed aa0 Tryz.func58 (by kernel_rfl) rfl Tryz.ntmps58 rfl ?_;intro BB
 repeat' (first|refine sk2 ?_|(intro b;conv=>whnf))
 refine OtE.nilsl aa0 rfl rfl rfl rfl rfl (fun e he=>?_)
 repeat' (first|refine sk2 ?_|(intro b;conv=>whnf)|(with_reducible refine Br.d (fun hc=>?_) (fun hc=>?_))|(with_reducible refine Br.b (fun hc=>?_) (fun hc=>?_)))
 ·have:l=[]:=by simpa using he (by assumption)
  subst this
  exact Rt.same ⟨_,rfl,RowIs.nil _ _⟩
 ·refine Ap.go rfl rfl rfl rfl (RowIs.e0 _ _ (some ⟨b,0,none⟩)) (List.Perm.refl _) (one_i l) (zs:=l.map fun b=>[iD b]) rfl (by simp;omega) (by simp;omega) (fun s'=>s') (fun s'=>by simp) (fun a c s' hr=>?_)
  repeat' (first|refine sk2 ?_|(intro b;conv=>whnf))
  exact Rt.same ⟨_,rfl,hr⟩
end
section
open Go
def part {α:Type} (x0:α) (xs:List α) (j:Nat):List α:=xs.take j ++ List.replicate (xs.length - j) x0
theorem aZ3 {α:Type} (x0:α) (xs:List α) {j:Nat} (h:j≤xs.length):(part x0 xs j).length=xs.length:=by simp [part];omega
theorem aO8 {α:Type} (x0:α) (xs:List α):part x0 xs 0=List.replicate xs.length x0:=by simp [part]
theorem aZ5 {α:Type} (x0:α) (xs:List α):part x0 xs xs.length=xs:=by simp [part]
theorem aZ4 {α:Type} (x0:α) (xs:List α) {j:Nat} (h:j<xs.length):(part x0 xs j)[j]?=some x0:=by
 unfold part
 rw [List.getElem?_append_right (by simp;omega),List.getElem?_replicate]
 simp;omega
theorem aZ2 {α:Type} (x0:α) (xs:List α) {j:Nat} {x:α} (h:xs[j]?=some x):(part x0 xs j).set j x=part x0 xs (j+1):=by
 have hj:=(List.getElem?_eq_some_iff.1 h).1
 unfold part
 rw [List.set_append_right _ _ (by simp;omega),List.take_add_one,h]
 have e:j - (xs.take j).length=0:=by simp;omega
 rw [e]
 obtain ⟨d,hd⟩:∃ d,xs.length - j=d+1:=⟨xs.length - j - 1,by omega⟩
 rw [hd,show xs.length - (j+1)=d by omega,List.replicate_succ]
 simp
theorem Mk.go {T:TypeId→Option TI} {σ:aa1} {t e:TypeId} {i j:TI} {ag:Bool} {by_ m':Nat} {z:ZV} {K:D→aa1→Prop} (m:Nat) (h1:T t=some i) (h2:i.sl=some (e,ag,1,by_)) (h3:T e=some j) (h4:j.zero=[z]) (h5:j.size=1) (hm:m'=m) (hb:by_*m≤281474976710656) (hl:m≤1000000000)
  (k:∀ b,W (K (.v (.slice (some ⟨b,0,none⟩) m m)) ((b,.cells e (List.replicate m (.v (zv z)))) :: σ))):Mk T σ t (.v (.int .i64 m')) (.v (.int .i64 m')) K:=by
 subst hm
 exact ⟨e,i,j,ag,by_,m',z,h1,h2,h3,h4,h5,rfl,rfl,hb,hl,fun b=>(k b).h⟩
theorem cl_copied (s:Sb) (hs:Ss s):ACall Tryz.prog 67 [slS2 s] [] (fun d σ=>∃ v,d = .v v∧RS s v σ):=by
 have hsl:=hs.nk
 refine aa3 mixed aa0 Tryz.func67 (by kernel_rfl) rfl Tryz.ntmps67 rfl ?_;intro BB
 repeat' (first|refine sk2 ?_|(intro b;conv=>whnf))
 refine Mk.go s.length rfl rfl rfl rfl rfl (by simp) (by omega) (by omega) (fun b=>?_)
 repeat' (first|refine sk2 ?_|(intro b;conv=>whnf))
 refine aa6 mixed aa0 (γ:=Nat × aa1) (fun g=>[(11,iD g.1)]) (fun g=>g.2) (fun g=>g.1≤s.length∧RS (part [] s g.1) (.slice (some ⟨b,0,none⟩) s.length s.length) g.2) (fun g=>s.length - g.1) (0,[(b,.cells 62 (List.replicate s.length (.v (.slice none 0 0))))]) (aa2 cl2) cl3 ⟨Nat.zero_le _,by rw [aO8];exact RowsOf.made (R:=RB) (x0:=[]) (RowIs.nil _ _) s.length b (by unfold maxLen;omega)⟩ ?_
 rintro ⟨j,τ⟩ ⟨hj,hR⟩
 simp only at hj hR ⊢
 by_cases hjl:j<s.length
 ·obtain ⟨l,hl⟩:∃ l,s[j]?=some l:=⟨_,List.getElem?_eq_getElem hjl⟩
  have hl':s[((j:Nat):Int).toNat]?=some l:=hl
  have hll:=hs.nr l (List.mem_of_getElem? hl)
  obtain ⟨b',cap,cs,u,t,ρ,e1,h2,h3,h4,h5⟩:=hR.at (aZ4 [] s hjl)
  rw [aZ3 _ _ hj] at e1
  cases e1
  repeat' (first|refine sk2 ?_|(intro b;conv=>whnf))
  refine CE.own (clone_b l (by omega)) (List.Perm.refl ([] ++ τ)) (fun s'=>s' ++ τ) (fun s'=>List.Perm.refl _) ?_
  rintro _ s' ⟨v',rfl,hr'⟩
  obtain ⟨a1,c1,rfl⟩:=hr'.slice
  repeat' (first|refine sk2 ?_|(intro b;conv=>whnf))
  have hcl:=(List.getElem?_eq_some_iff.1 h3).1
  have ho:0+((j:Nat):Int).toNat*1=j:=by simp
  refine Sv.cellm (cs:=cs) (cs':=cs.set j (.v (.slice a1 (l.map fun b=>[bD b]).length c1))) (τ:=s' ++ (t ++ ρ)) ((List.Perm.append_left s' h2).trans List.perm_middle) (by rw [ho];exact hcl) rfl (by rw [ho]) ?_
  repeat' (first|refine sk2 ?_|(intro b;conv=>whnf))
  exact ⟨(j+1,(b,.cells 62 (cs.set j (.v (.slice a1 (l.map fun b=>[bD b]).length c1)))) :: (s' ++ ρ)),(aa2 cl2),(List.Sublist.refl s').append (List.sublist_append_right _ _) |>.cons_cons _,⟨by simp only;omega,by simp only;rw [← aZ2 [] s hl];exact h5 _ _ _ _ hr' (List.Perm.refl _)⟩,by simp only;omega⟩
 ·obtain rfl:j=s.length:=by omega
  rw [aZ5] at hR
  repeat' (first|refine sk2 ?_|(intro b;conv=>whnf))
  exact Rt.same ⟨_,rfl,hR⟩
end
section
open Go
theorem ah6 {α:Type} {l:List α} {j:Nat} {x:α} (h:l[j]?=some x):l.take (j+1)=l.take j ++ [x]:=by rw [List.take_add_one,h];rfl
theorem RowsOf.push {α:Type} {R:ORep α} {e:TypeId} {xs:List α} {vs:List Value} {s0 t s':aa1} {ts:List aa1} {v u:Value} {x:α} (h2:All3 R xs vs ts) (h1:RowIs e 1 (vs.map (fun u=>[D.v u]) ++ [[D.v u]]) v s0) (hx:R x u t) (hp:s'.Perm (s0 ++ (ts.flatten ++ t))):RowsOf e R (xs ++ [x]) v s':=
 ⟨vs ++ [u],s0,ts ++ [t],by simpa using h1,h2.append (.cons hx .nil),hp.trans (by simp)⟩
theorem r31_copied (s:Sb) (hs:Ss s):ACall Tryz.prog 27 [slS2 s] [] (fun d σ=>∃ v,d = .v v∧RS s v σ):=by
 have hsl:=hs.nk
 refine aa3 mixed aa0 Tryz.func27 (by kernel_rfl) rfl Tryz.ntmps27 rfl ?_;intro BB
 repeat' (first|refine sk2 ?_|(intro b;conv=>whnf))
 refine aa6 mixed aa0 (γ:=Nat × Value × aa1) (fun g=>[(3,.v g.2.1),(4,iD g.1)]) (fun g=>g.2.2) (fun g=>g.1≤s.length∧RS (s.take g.1) g.2.1 g.2.2) (fun g=>s.length - g.1) (0,.slice none 0 0,[]) (aa2 cl2) cl3 ⟨Nat.zero_le _,RowsOf.nil _ _⟩ ?_
 rintro ⟨j,v,τ⟩ ⟨hj,hR⟩
 simp only at hj hR ⊢
 by_cases hjl:j<s.length
 ·obtain ⟨l,hl⟩:∃ l,s[j]?=some l:=⟨_,List.getElem?_eq_getElem hjl⟩
  have hl':s[((j:Nat):Int).toNat]?=some l:=hl
  have hll:=hs.nr l (List.mem_of_getElem? hl)
  obtain ⟨vs,s0,ts,h1,h2,h3⟩:=hR.ex
  have hlen:=h2.len.1
  rw [List.length_take,Nat.min_eq_left hj] at hlen
  repeat' (first|refine sk2 ?_|(intro b;conv=>whnf))
  refine Ap.go rfl rfl rfl rfl (RowIs.e0 _ _ (some ⟨b,0,none⟩)) (List.Perm.refl ([] ++ τ)) (one_b l) (zs:=l.map fun b=>[bD b]) rfl (by simp;omega) (by simp;omega) (fun s'=>s' ++ τ) (fun s'=>List.Perm.refl _) (fun a1 c1 s' hr=>?_)
  repeat' (first|refine sk2 ?_|(intro b;conv=>whnf))
  refine Ap.go rfl rfl rfl rfl h1 (show (s' ++ τ).Perm (s0 ++ (ts.flatten ++ s')) from (List.Perm.append_left s' h3).trans (List.perm_append_comm.trans (by simp))) rfl (zs:=vs.map (fun u=>[D.v u]) ++ [[D.v (.slice a1 (l.map fun b=>[bD b]).length c1)]]) rfl (by simp [hlen];omega) (by simp [hlen];omega) (fun s2=>s2 ++ (ts.flatten ++ s')) (fun s2=>List.Perm.refl _) (fun a2 c2 s2 hr2=>?_)
  repeat' (first|refine sk2 ?_|(intro b;conv=>whnf))
  exact ⟨(j+1,_,s2 ++ (ts.flatten ++ s')),(aa2 cl2),cl3,⟨by simp only;omega,by simp only;rw [ah6 hl];exact RowsOf.push h2 hr2 hr (List.Perm.refl _)⟩,by simp only;omega⟩
 ·obtain rfl:j=s.length:=by omega
  rw [List.take_of_length_le (Nat.le_refl _)] at hR
  repeat' (first|refine sk2 ?_|(intro b;conv=>whnf))
  exact Rt.same ⟨_,rfl,hR⟩
end
section
open Go
theorem aE0 {α:Type} [DecidableEq α] {p:α→Bool} {a:α}:∀ {l:List α},l.Nodup→a∈l→p a=true→l.countP (fun q=>p q && !decide (a=q))+1=l.countP p
 | [],_,h,_=>by cases h
 | b :: l,hn,h,hp=>by
  rw [List.nodup_cons] at hn
  rw [List.countP_cons,List.countP_cons]
  by_cases e:a=b
  ·subst e
   have:l.countP (fun q=>p q && !decide (a=q))=l.countP p:=by
    apply List.countP_congr
    intro q hq
    have:a≠q:=fun e=>hn.1 (e ▸ hq)
    simp [this]
   rw [this]
   simp [hp]
  ·have hm:a∈l:=by
    rcases List.mem_cons.1 h with h|h
    ·exact absurd h e
    ·exact h
   have:=aE0 hn.2 hm hp
   simp only [e,decide_false,Bool.not_false,Bool.and_true]
   omega
theorem aE2 (s:Sb) (k i:Nat):(ai5 s k i).map List.length=s.map List.length:=by
 apply List.ext_getElem?
 intro j
 simp only [ai5,List.getElem?_map,List.getElem?_set]
 by_cases h:k=j
 ·subst h
  by_cases hl:k<s.length
  ·simp [hl,List.getD_eq_getElem?_getD]
  ·simp [hl]
 ·simp [h]
theorem size_clear {s:Sb} {k i:Nat} (h:keptB s k i=true):am8 (ai5 s k i)+1=am8 s:=by
 rw [aE8,aE8]
 unfold ag1
 rw [← List.countP_eq_length_filter,← List.countP_eq_length_filter,posOf_clear]
 rw [← aE0 (p:=fun p=>keptB s p.1 p.2) (a:=(k,i)) (aD4 s) (aG5 (p:=(k,i)) h) h]
 congr 1
 apply List.countP_congr
 intro q _
 rw [at8]
 have:(decide (k=q.1) && decide (i=q.2))=decide ((k,i)=q):=by
  obtain ⟨a,b⟩:=q
  simp [Bool.decide_and]
 rw [this]
section
variable {x:Sch} {w:Wd}
theorem sweep1_lens (t:Sb × Bool) (p:Nat × Nat):(ae2 x w t p).1.map List.length=t.1.map List.length:=by
 unfold ae2;split
 ·exact aE2 _ _ _
 ·rfl
theorem aq7 (l:List (Nat × Nat)) (t:Sb × Bool):(l.foldl (ae2 x w) t).1.map List.length=t.1.map List.length:=by
 induction l generalizing t with
 | nil=>rfl
 | cons p l ih=>rw [List.foldl_cons,ih,sweep1_lens]
theorem aJ2 {t:Sb × Bool} {p q:Nat × Nat} (h:q≠p):keptB (ae2 x w t p).1 q.1 q.2=keptB t.1 q.1 q.2:=by
 unfold ae2;split
 ·rw [at8]
  have:(decide (p.1=q.1) && decide (p.2=q.2))=false:=by
   rw [Bool.eq_false_iff];intro e
   simp only [Bool.and_eq_true,decide_eq_true_eq] at e
   exact h (Prod.ext e.1.symm e.2.symm)
  simp [this]
 ·rfl
theorem fold_other {l:List (Nat × Nat)} {q:Nat × Nat} (h:q ∉ l) (t:Sb × Bool):keptB (l.foldl (ae2 x w) t).1 q.1 q.2=keptB t.1 q.1 q.2:=by
 induction l generalizing t with
 | nil=>rfl
 | cons p l ih=>
  rw [List.foldl_cons,ih (fun hm=>h (List.mem_cons_of_mem _ hm)),aJ2 (fun e=>h (by rw [e];exact List.mem_cons_self))]
theorem fold_inv (l:List (Nat × Nat)) (s:Sb):∀ t:Sb × Bool,(t.2=false→t.1=s)→am8 t.1≤am8 s→(t.2=true→am8 t.1<am8 s) →
  ((l.foldl (ae2 x w) t).2=false→(l.foldl (ae2 x w) t).1=s)∧am8 (l.foldl (ae2 x w) t).1≤am8 s∧((l.foldl (ae2 x w) t).2=true→am8 (l.foldl (ae2 x w) t).1<am8 s):=by
 induction l with
 | nil=>intro t h1 h2 h3;exact ⟨h1,h2,h3⟩
 | cons p l ih=>
  intro t h1 h2 h3
  rw [List.foldl_cons]
  have key:((ae2 x w t p).2=false→(ae2 x w t p).1=s)∧am8 (ae2 x w t p).1≤am8 s∧((ae2 x w t p).2=true→am8 (ae2 x w t p).1<am8 s):=by
   unfold ae2
   split
   ·rename_i h
    simp only [Bool.and_eq_true] at h
    have:=size_clear h.1
    exact ⟨(fun h=>by cases h),by simp only;omega,fun _=>by simp only;omega⟩
   ·exact ⟨h1,h2,h3⟩
  exact ih _ key.1 key.2.1 key.2.2
theorem aW5 {s:Sb} (h:(aj7 x w s).2=false):(aj7 x w s).1=s:=(fold_inv (aw7 s) s (s,false) (fun _=>rfl) (Nat.le_refl _) (fun h=>by cases h)).1 h
theorem aL4 {s:Sb} (h:(aj7 x w s).2=true):am8 (aj7 x w s).1<am8 s:=(fold_inv (aw7 s) s (s,false) (fun _=>rfl) (Nat.le_refl _) (fun h=>by cases h)).2.2 h
theorem aN8:∀ (a b:Nat) (s:Sb),am8 s<a→am8 s<b→az5 x w a s=az5 x w b s
 | 0,_,s,h,_=>by omega
 | a+1,0,s,_,h=>by omega
 | a+1,b+1,s,h1,h2=>by
  simp only [az5]
  cases hs:(aj7 x w s).2 with
  | false=>rfl
  | true=>
   simp only [if_true]
   have:=aL4 hs
   exact aN8 a b _ (by omega) (by omega)
theorem aN6 (s:Sb):ao7 x w s=if (aj7 x w s).2 then ao7 x w (aj7 x w s).1 else s:=by
 unfold ao7
 conv=>lhs;simp only [az5]
 cases hs:(aj7 x w s).2 with
 | false=>simp only [Bool.false_eq_true,if_false];exact aW5 hs
 | true=>
  simp only [if_true]
  have:=aL4 hs
  exact aN8 _ _ _ (by omega) (by omega)
theorem aN7 (s:Sb):∀ n,(az5 x w n s).map List.length=s.map List.length:=by
 intro n
 induction n generalizing s with
 | zero=>rfl
 | succ n ih=>
  simp only [az5]
  split
  ·rw [ih,aj7,aq7]
  ·rw [aj7,aq7]
def swT (x:Sch) (w:Wd) (s:Sb) (k i:Nat):Sb × Bool:=(aD3 s k i).foldl (ae2 x w) (s,false)
theorem swT_succ (s:Sb) (k i:Nat):swT x w s k (i+1)=ae2 x w (swT x w s k i) (k,i):=by unfold swT;rw [aI2,List.foldl_append];rfl
theorem swT_row {s:Sb} {k:Nat} {l:List Bool} (h:s[k]?=some l):swT x w s (k+1) 0=swT x w s k l.length:=by unfold swT;rw [bf6 h]
theorem swT_all (s:Sb):swT x w s s.length 0=aj7 x w s:=by unfold swT aj7;rw [bf7]
theorem swT_lens (s:Sb) (k i:Nat):(swT x w s k i).1.map List.length=s.map List.length:=aq7 _ _
theorem aQ7 {s:Sb}:∀ (l:List (Nat × Nat)) (t:Sb × Bool),l.Nodup→(∀ p∈l,keptB t.1 p.1 p.2=keptB s p.1 p.2)→(l.filter fun p=>keptB s p.1 p.2).foldl (ae2 x w) t=l.foldl (ae2 x w) t
 | [],t,_,_=>rfl
 | p :: l,t,hn,h=>by
  rw [List.nodup_cons] at hn
  have hp:=h p (by simp)
  have hrest:∀ q∈l,keptB (ae2 x w t p).1 q.1 q.2=keptB s q.1 q.2:=fun q hq=>by
   rw [aJ2 (fun e=>hn.1 (by rw [← e];exact hq))]
   exact h q (by simp [hq])
  rw [List.filter_cons]
  split
  ·rw [List.foldl_cons,List.foldl_cons]
   exact aQ7 l _ hn.2 hrest
  ·rename_i hk
   have e:ae2 x w t p=t:=by
    unfold ae2;rw [hp,(by simpa using hk:keptB s p.1 p.2=false)];simp
   rw [List.foldl_cons,e]
   exact aQ7 l t hn.2 (fun q hq=>h q (by simp [hq]))
def swK (x:Sch) (w:Wd) (s:Sb) (m:Nat):Sb × Bool:=((ag1 s).take m).foldl (ae2 x w) (s,false)
theorem swK_succ {s:Sb} {m:Nat} {p:Nat × Nat} (h:(ag1 s)[m]?=some p):swK x w s (m+1)=ae2 x w (swK x w s m) p:=by
 unfold swK;rw [List.take_add_one,h,List.foldl_append];rfl
theorem swK_all (s:Sb):swK x w s (ag1 s).length=aj7 x w s:=by
 unfold swK aj7 ag1
 rw [List.take_of_length_le (Nat.le_refl _)]
 exact aQ7 _ _ (aD4 s) (fun _ _=>rfl)
theorem swK_kept {s:Sb} {m:Nat} {p:Nat × Nat} (h:(ag1 s)[m]?=some p):keptB (swK x w s m).1 p.1 p.2=true:=by
 unfold swK
 rw [fold_other]
 ·exact at7.1 (List.mem_of_getElem? h)
 ·intro hm
  obtain ⟨j,hj⟩:=List.getElem?_of_mem hm
  rw [List.getElem?_take] at hj
  split at hj
  ·rename_i hlt
   have hnd:=aQ1 s
   obtain ⟨h1,e1⟩:=List.getElem?_eq_some_iff.1 hj
   obtain ⟨h2,e2⟩:=List.getElem?_eq_some_iff.1 h
   exact List.pairwise_iff_getElem.1 hnd j m h1 h2 hlt (e1.trans e2.symm)
  ·cases hj
theorem swK_lens (s:Sb) (m:Nat):(swK x w s m).1.map List.length=s.map List.length:=aq7 _ _
end
end
section
open Go
theorem ss_lens {s t:Sb} (h:t.map List.length=s.map List.length) (hs:Ss s):Ss t:=by
 refine ⟨by have:=congrArg List.length h;simp at this;have:=hs.nk;omega,fun l hl=>?_⟩
 obtain ⟨k,hk⟩:=List.getElem?_of_mem hl
 obtain ⟨m,hm,e⟩:=ai1 h hk
 have:=hs.nr m (List.mem_of_getElem? hm)
 omega
theorem Fit.lens {x:Sch} {w:Wd} {s t:Sb} (hF:Fit x w s) (h:t.map List.length=s.map List.length):Fit x w t:=⟨hF.snd,hF.ws,ss_lens h hF.ss,hF.fit,hF.shp.trans h.symm⟩
theorem clear_set {t:Sb} {j i:Nat} {l:List Bool} (hl:t[j]?=some l):t.set j (l.set i false)=ai5 t j i:=by unfold ai5;rw [aa4 hl]
def shI (x:Sch) (w:Wd) (s:Sb) (again:Bool) (t:Sb):Prop:=t.map List.length=s.map List.length∧(if again=true then ao7 x w t=ao7 x w s else t=ao7 x w s)
theorem r31_shrunk (x:Sch) (w:Wd) (s:Sb) (hF:Fit x w s):ACall Tryz.prog 45 [schD x,slW w,slS2 s] [] (fun d σ=>∃ v,d = .v v∧RS (ao7 x w s) v σ):=by
 have hsl:=hF.ss.nk
 refine aa3 mixed aa0 Tryz.func45 (by kernel_rfl) rfl Tryz.ntmps45 rfl ?_;intro BB
 repeat' (first|refine sk2 ?_|(intro b;conv=>whnf))
 refine CE.own (r31_copied s hF.ss) (List.Perm.refl []) (fun s'=>s') (fun s'=>by simp) ?_
 rintro _ σ0 ⟨v,rfl,hR0⟩
 obtain ⟨a0,c0,rfl⟩:=hR0.slice
 repeat' (first|refine sk2 ?_|(intro b;conv=>whnf))
 refine aa6 mixed aa0 (γ:=Bool × Sb × aa1) (fun g=>[(8,bD g.1)]) (fun g=>g.2.2) (fun g=>shI x w s g.1 g.2.1∧RS g.2.1 (.slice a0 s.length c0) g.2.2) (fun g=>if g.1=true then am8 g.2.1+1 else 0) (true,s,σ0) (aa2 cl2) cl3 ⟨⟨rfl,rfl⟩,hR0⟩ ?_
 rintro ⟨ag,t,σ⟩ ⟨⟨hlen,hsh⟩,hR⟩
 simp only at hlen hsh hR ⊢
 cases ag with
 | false=>
  simp only [Bool.false_eq_true,if_false] at hsh
  rw [hsh] at hR
  repeat' (first|refine sk2 ?_|(intro b;conv=>whnf))
  exact Rt.same ⟨_,rfl,hR⟩
 | true=>
  simp only [if_true] at hsh
  have htl:t.length=s.length:=by have:=congrArg List.length hlen;simpa using this
  have hFt:=hF.lens hlen
  repeat' (first|refine sk2 ?_|(intro b;conv=>whnf))
  refine aa6 mixed aa0 (γ:=Nat × aa1) (fun g=>[(8,bD (swT x w t g.1 0).2),(9,iD g.1)]) (fun g=>g.2) (fun g=>g.1≤t.length∧RS (swT x w t g.1 0).1 (.slice a0 s.length c0) g.2) (fun g=>t.length - g.1) (0,σ) (aa2 cl2) cl3 ⟨Nat.zero_le _,hR⟩ ?_
  rintro ⟨j,σ1⟩ ⟨hj,hR1⟩
  simp only at hj hR1 ⊢
  by_cases hjl:j<t.length
  ·obtain ⟨l,hl⟩:∃ l,t[j]?=some l:=⟨_,List.getElem?_eq_getElem hjl⟩
   have hll:=hFt.ss.nr l (List.mem_of_getElem? hl)
   repeat' (first|refine sk2 ?_|(intro b;conv=>whnf))
   refine aa6 mixed aa0 (γ:=Nat × aa1) (fun g=>[(8,bD (swT x w t j g.1).2),(10,iD g.1)]) (fun g=>g.2) (fun g=>g.1≤l.length∧RS (swT x w t j g.1).1 (.slice a0 s.length c0) g.2) (fun g=>l.length - g.1) (0,σ1) (aa2 cl2) cl3 ⟨Nat.zero_le _,hR1⟩ ?_
   rintro ⟨i,σ2⟩ ⟨hi,hR2⟩
   simp only at hi hR2 ⊢
   obtain ⟨l2,hl2,hl2l⟩:=ai1 (swT_lens (x:=x) (w:=w) t j i).symm hl
   have hF2:=hFt.lens (swT_lens (x:=x) (w:=w) t j i)
   have hT2:=swT_succ (x:=x) (w:=w) t j i
   generalize hU:swT x w t j i=U at *
   have hUl:U.1.length=t.length:=by have:=congrArg List.length hF2.shp;have:=congrArg List.length hFt.shp;simp at *;omega
   by_cases hil:i<l.length
   ·obtain ⟨b,hb⟩:∃ b,l2[i]?=some b:=⟨_,List.getElem?_eq_getElem (by omega)⟩
    obtain ⟨b0,cap0,cs0,b1,cap1,cs1,ρ,e1,h2,h3,h4,h5⟩:=at1 hR2 hl2 hb
    rw [hUl,htl] at e1
    cases e1
    have m0:(b0,Blk.cells 62 cs0)∈σ2:=h2.mem_iff.2 (by simp)
    have m1:(b1,Blk.cells 4 cs1)∈σ2:=h2.mem_iff.2 (by simp)
    repeat' (first|refine sk2 ?_|(intro b;conv=>whnf))
    refine Ld.cellm (cs:=cs0) m0 (by rw [ix1];exact h3) ?_
    repeat' (first|refine sk2 ?_|(intro b;conv=>whnf))
    refine Ld.cellm (cs:=cs0) m0 (by rw [ix1];exact h3) ?_
    repeat' (first|refine sk2 ?_|(intro b;conv=>whnf))
    refine Ld.cellm (cs:=cs1) m1 (by rw [ix1];exact h4) ?_
    have hT3:swT x w t j (i+1)=ae2 x w U (j,i):=hT2
    have hkb:keptB U.1 j i=b:=by unfold keptB;rw [aa4 hl2,aa4 hb]
    cases b with
    | false=>
     have hs1:ae2 x w U (j,i)=U:=by unfold ae2;rw [hkb];rfl
     rw [hs1] at hT3
     repeat' (first|refine sk2 ?_|(intro b;conv=>whnf))
     exact ⟨(i+1,σ2),by rw [hT3];exact (aa2 cl2),cl3,⟨by simp only;omega,by rw [hT3];exact hR2⟩,by simp only;omega⟩
    | true=>
     obtain ⟨wl,hwl,hwll⟩:=ai1 hF2.shp.symm hl2
     obtain ⟨wy,hwy⟩:∃ y,wl[i]?=some y:=⟨_,List.getElem?_eq_getElem (by omega)⟩
     repeat' (first|refine sk2 ?_|(intro b;conv=>whnf))
     refine CE.pk (APk.peek (.cons (Pk.same _) (.cons (Pk.same _) (.cons (Pk.frz frz_s hR2 (show σ2.Perm (σ2 ++ []) by simp)) (.cons (Pk.same _) (.cons (Pk.same _) .nil))))) (be4 x w U.1 hF2 j i wl wy hwl hwy) rfl) ?_
     repeat' (first|refine sk2 ?_|(intro b;conv=>whnf)|(with_reducible refine Br.d (fun hc=>?_) (fun hc=>?_))|(with_reducible refine Br.b (fun hc=>?_) (fun hc=>?_)))
     ·have hs1:ae2 x w U (j,i)=(ai5 U.1 j i,true):=by unfold ae2;rw [hkb,hc];rfl
      rw [hs1] at hT3
      refine Ld.cellm (cs:=cs0) m0 (by rw [ix1];exact h3) ?_
      repeat' (first|refine sk2 ?_|(intro b;conv=>whnf))
      refine Sv.cellm (cs:=cs1) (cs':=cs1.set i (bD false)) (τ:=(b0,.cells 62 cs0) :: ρ) (h2.trans (List.Perm.swap _ _ _)) (by rw [ix1];exact (List.getElem?_eq_some_iff.1 h4).1) rfl (by rw [ix1]) ?_
      repeat' (first|refine sk2 ?_|(intro b;conv=>whnf))
      have hR3:=(h5 false).perm (List.Perm.swap (b0,Blk.cells 62 cs0) (b1,Blk.cells 4 (cs1.set i (bD false))) ρ)
      rw [clear_set hl2] at hR3
      exact ⟨(i+1,(b1,Blk.cells 4 (cs1.set i (bD false))) :: (b0,.cells 62 cs0) :: ρ),by rw [hT3];exact (aa2 cl2),cl3,⟨by simp only;omega,by rw [hT3];exact hR3⟩,by simp only;omega⟩
     ·have hs1:ae2 x w U (j,i)=U:=by unfold ae2;rw [hkb,hc];rfl
      rw [hs1] at hT3
      exact ⟨(i+1,σ2),by rw [hT3];exact (aa2 cl2),cl3,⟨by simp only;omega,by rw [hT3];exact hR2⟩,by simp only;omega⟩
   ·obtain rfl:i=l.length:=by omega
    have hrow:=swT_row (x:=x) (w:=w) hl
    rw [hU] at hrow
    obtain ⟨b0,cap0,cs0,a1,c1,e1,m0,h3⟩:=be0 hR2 hl2
    rw [hUl,htl] at e1
    cases e1
    repeat' (first|refine sk2 ?_|(intro b;conv=>whnf))
    refine Ld.cellm (cs:=cs0) m0 (by rw [ix1];exact h3) ?_
    repeat' (first|refine sk2 ?_|(intro b;conv=>whnf))
    exact ⟨(j+1,σ2),by rw [hrow];exact (aa2 cl2),cl3,⟨by simp only;omega,by rw [hrow];exact hR2⟩,by simp only;omega⟩
  ·obtain rfl:j=t.length:=by omega
   rw [swT_all] at hR1
   have hst:=aN6 (x:=x) (w:=w) t
   rw [swT_all]
   cases hag:(aj7 x w t).2 with
   | true=>
    rw [hag] at hst
    have hlt:=aL4 hag
    repeat' (first|refine sk2 ?_|(intro b;conv=>whnf))
    exact ⟨(true,(aj7 x w t).1,σ1),(aa2 cl2),cl3,⟨⟨(aq7 _ _).trans hlen,by simp only [if_true];rw [← hsh,hst];rfl⟩,hR1⟩,by simp only [if_true];omega⟩
   | false=>
    rw [hag] at hst
    have hno:=aW5 hag
    repeat' (first|refine sk2 ?_|(intro b;conv=>whnf))
    exact ⟨(false,(aj7 x w t).1,σ1),(aa2 cl2),cl3,⟨⟨(aq7 _ _).trans hlen,by simp only [Bool.false_eq_true,if_false];rw [hno,← hsh,hst];rfl⟩,hR1⟩,by simp⟩
end
section
open Go
theorem fl_b (l:List Bool) (v:Value) (s:aa1) (h:RB l v s):FlS s:=FlS.row h (fun x hx d hd=>by obtain ⟨b,_,rfl⟩:=List.mem_map.1 hx;rw [List.mem_singleton] at hd;subst hd;rfl)
theorem fl_s (x:Sb) (v:Value) (s:aa1) (h:RS x v s):FlS s:=FlS.rows fl_b h
theorem aO3:RS [] (.slice none 0 0) []:=RowsOf.nil _ _
theorem great_no {x:Sch} {w:Wd} {s:Sb} (h:ac0 x w s≠0):aC5 x w s=([],ac0 x w s):=by unfold aC5;rw [if_pos h]
theorem bi1 {x:Sch} {w:Wd} {s:Sb} (h:ac0 x w s=0):aC5 x w s=(ao7 x w s,0):=by unfold aC5;rw [if_neg (by simpa using h)]
theorem wout_no {x:Sch} {w:Wd} {s:Sb} {k i:Int} (h:ac0 x w s≠0):ad3 x w s k i=([],ac0 x w s):=by unfold ad3;rw [if_pos h]
theorem wout_6 {x:Sch} {w:Wd} {s:Sb} {k i:Int} (h:ac0 x w s=0) (h2:aq3 s k i=false):ad3 x w s k i=([],6):=by unfold ad3;rw [if_neg (by simpa using h),if_pos h2]
theorem wout_yes {x:Sch} {w:Wd} {s:Sb} {k i:Int} (h:ac0 x w s=0) (h2:aq3 s k i=true):ad3 x w s k i=(ao7 x w (ai5 s k.toNat i.toNat),0):=by unfold ad3;rw [if_neg (by simpa using h),if_neg (by simp [h2])]
theorem ax5 {s:Sb} {k i:Int} (h:aq3 s k i=true):∃ (a b:Nat) (l:List Bool),k=a∧i=b∧s[a]?=some l∧l[b]?=some true:=by
 unfold aq3 at h
 simp only [Bool.and_eq_true,decide_eq_true_eq] at h
 obtain ⟨⟨h1,h2⟩,h3⟩:=h
 obtain ⟨a,rfl⟩:=Int.eq_ofNat_of_zero_le h1
 obtain ⟨b,rfl⟩:=Int.eq_ofNat_of_zero_le h2
 simp only [Int.toNat_natCast] at h3
 unfold keptB at h3
 simp only [List.getD_eq_getElem?_getD] at h3
 cases h4:s[a]? with
 | none=>simp [h4] at h3
 | some l=>
  simp only [h4,Option.getD_some] at h3
  refine ⟨a,b,l,rfl,rfl,h4,?_⟩
  cases h5:l[b]? with
  | none=>simp [h5] at h3
  | some c=>simp only [h5,Option.getD_some] at h3;rw [h3]
theorem sk79 {A B:Prop} (k:B) (h:Hd7 B→A:=by intro hk7q;(first|refine sb0 ?_|refine sb1 ?_|((with_reducible refine' Cp.by ?hc ?_);(case hc=>first|exact HC|exact HK))|((with_reducible refine' CE.pure ?hc ?_);(case hc=>first|exact HC|exact HK)));exact hk7q.run):A:=h ⟨k⟩
theorem be5 (x:Sch) (w:Wd) (s:Sb) (hw:Ws w) (hs:Ss s) (HV:APure Tryz.prog 94 [schD x] (iD (ac9 x))):ACall Tryz.prog 20 [schD x,slW w,slS2 s] [] (fun d σ=>∃ v,d = .tup [.v v,iD (aC5 x w s).2]∧RS (aC5 x w s).1 v σ):=by
 have HC:=aD2 x w s hw HV
 by_cases h0:ac0 x w s=0
 ·rw [bi1 h0]
  have hF:=av5 hw hs h0
  have HK:=True.intro
  refine aa3 mixed aa0 Tryz.func20 (by kernel_rfl) rfl Tryz.ntmps20 rfl ?_;intro BB
  repeat' (first|refine sk79 ?_|(intro b;conv=>whnf))
  refine CE.own (r31_shrunk x w s hF) (List.Perm.refl []) (fun s'=>s') (fun s'=>by simp) ?_
  rintro _ σ ⟨v,rfl,hR⟩
  repeat' (first|refine sk79 ?_|(intro b;conv=>whnf))
  exact Rt.same ⟨_,rfl,hR⟩
 ·rw [great_no h0]
  have HK:=True.intro
  refine aa3 mixed aa0 Tryz.func20 (by kernel_rfl) rfl Tryz.ntmps20 rfl ?_;intro BB
  repeat' (first|refine sk79 ?_|(intro b;conv=>whnf))
  exact Rt.same ⟨_,rfl,aO3⟩
end
section
open Go
theorem wout_lens {x:Sch} {w:Wd} {s:Sb} {k i:Int} (h:(ad3 x w s k i).2=0):(ad3 x w s k i).1.map List.length=s.map List.length:=by
 unfold ad3 at h ⊢
 split at h
 ·rename_i h1;exact absurd h h1
 ·rename_i h1
  split at h
  ·cases h
  ·rename_i h2
   rw [if_neg h1,if_neg h2]
   exact (aN7 _ _).trans (aE2 _ _ _)
theorem wout_fit {x:Sch} {w:Wd} {s:Sb} {k i:Int} (hw:Ws w) (hs:Ss s) (h:(ad3 x w s k i).2=0):Fit x w s:=by
 refine av5 hw hs ?_
 unfold ad3 at h
 split at h
 ·exact h
 ·rename_i h1;simpa using h1
abbrev RA:ORep (List (Nat × Nat)):=fun l v s=>RowIs 33 2 (l.map fun p=>atC p.1 p.2) v s
theorem tog_no {x:Sch} {w:Wd} {s:Sb} {k i:Int} (h:(ad3 x w s k i).2≠0):an1 x w s k i=([],(ad3 x w s k i).2):=by unfold an1;rw [if_pos h]
theorem tog_yes {x:Sch} {w:Wd} {s:Sb} {k i:Int} (h:(ad3 x w s k i).2=0):an1 x w s k i=((ag1 s).filter (fun p=>!keptB (ad3 x w s k i).1 p.1 p.2),0):=by unfold an1;rw [if_neg (by simpa using h)]
end
section
open Go Go.Maps Go.MapKept
theorem laid_out:laidOutB Tryz.prog=true:=by kernel_rfl
theorem as2:Keyed Tryz.prog 33:=Keyed.of_law (deep_law_laid laid_out (m:=2) (by omega) (of_decide_eq_true (by kernel_rfl)) (by kernel_rfl) (by rw [Tryz.underlying33]))
theorem at_ktype:Tryz.prog.keyType 33=true:=by kernel_rfl
def atV (a b:Int):Value:=.agg #[.int .i64 a,.int .i64 b]
theorem at_cells:Tryz.prog.cellsOf 33=2:=by kernel_rfl
theorem cells_int1:Tryz.prog.cellsOf 3=1:=by kernel_rfl
theorem at_formed (a b:Int):(atV a b).formed Tryz.prog 33=true:=by
 simp [atV,Value.formed,Tryz.underlying33,at_cells]
theorem int_lits (n:Nat) {a:Int} (ha:(Lit.int .i64 a).wf=true):Tryz.prog.keyLits (n+1) 3 [.int .i64 a]=some [.int .i64 a]:=by
 simp only [Program.keyLits,Tryz.underlying3,ha]
 simp
theorem at_key {a b:Int} (ha:(Lit.int .i64 a).wf=true) (hb:(Lit.int .i64 b).wf=true):∃ l,keyOf Tryz.prog 33 (atV a b)=some l:=by
 unfold keyOf
 rw [Tryz.underlying33]
 simp only [at_ktype,at_formed,Bool.and_self,if_true]
 have:∃ n,Tryz.prog.types.size=n+1:=⟨Tryz.prog.types.size - 1,by have:0<Tryz.prog.types.size:=of_decide_eq_true (by kernel_rfl);omega⟩
 obtain ⟨n,hn⟩:=this
 rw [hn]
 have:Tryz.prog.keyLits (n+1+1) 33 (atV a b).cells.toList=some [.int .i64 a,.int .i64 b]:=by
  unfold Program.keyLits
  simp [atV,Value.cells,Tryz.underlying33,at_cells,cells_int1,int_lits n ha,int_lits n hb]
 rw [this]
 exact ⟨_,rfl⟩
theorem aB7:Keyed Tryz.prog 3:=int_keyed Tryz.underlying3
theorem ba5 {a:Int} (ha:(Lit.int .i64 a).wf=true):keyOf Tryz.prog 3 (.int .i64 a)=some (.int .i64 a):=keyOf_int_mk Tryz.underlying3 ha
theorem wf64 {a:Int} (h1:-9223372036854775808≤a) (h2:a≤9223372036854775807):(Lit.int .i64 a).wf=true:=by
 have e1:IntKind.i64.min = -9223372036854775808:=rfl
 have e2:IntKind.i64.max=9223372036854775807:=rfl
 simp [Lit.wf,e1,e2,h1,h2]
theorem au5 (w:World):(zeroValue 3).run Tryz.prog w = .ok (.int .i64 0) w:=by kernel_rfl
theorem aV6 (w:World):(zeroValue 116).run Tryz.prog w = .ok (.map none) w:=by kernel_rfl
theorem atV_inj {a b c d:Int} (h:atV a b=atV c d):a=c∧b=d:=by
 simp only [atV,Value.agg.injEq] at h
 have:=congrArg Array.toList h
 simp at this
 exact this
def outF (bs:List Nat):Value→Option Value
 | .int .i64 n=>if 0≤n then (bs[n.toNat]?).map (fun b=>.map (some b)) else none
 | _=>none
theorem outF_nil:outF []=fun _=>none:=by
 funext v
 unfold outF
 split <;> simp
theorem outF_push (bs:List Nat) (b:Nat):updF (outF bs) (.int .i64 bs.length) (.map (some b))=outF (bs ++ [b]):=by
 funext v
 unfold updF
 split
 ·rename_i h
  subst h
  simp [outF]
 ·rename_i h
  unfold outF
  split
  ·rename_i n
   split
   ·rename_i h0
    have:n.toNat≠bs.length:=fun e=>h (by rw [← e];congr 1;omega)
    rcases Nat.lt_or_ge n.toNat bs.length with h1|h1
    ·rw [List.getElem?_append_left h1]
    ·rw [List.getElem?_append_right h1,List.getElem?_eq_none_iff.2 h1]
     have:n.toNat - bs.length≠0:=by omega
     obtain ⟨d,hd⟩:=Nat.exists_eq_succ_of_ne_zero this
     rw [hd];rfl
   ·rfl
  ·rfl
theorem outF_get {bs:List Nat} {q b:Nat} (h:bs[q]?=some b):outF bs (.int .i64 q)=some (.map (some b)):=by simp [outF,h]
abbrev Cnt:=Value→Option Value
def cnt (F:Cnt) (r:Rf) (i:Int):Value:=(F (atV r.up i)).getD (.int .i64 0)
theorem bb2 (F:Cnt) (r:Rf) (i i0:Int) (v:Value):cnt (updF F (atV r.up i0) v) r i=if i=i0 then v else cnt F r i:=by
 unfold cnt updF
 by_cases h:i=i0
 ·subst h;simp
 ·have:atV r.up i≠atV r.up i0:=fun e=>h (atV_inj e).2
  simp [this,h]
def aS5 (ms:List (Nat × Cnt)):aa1:=ms.map fun p=>(p.1,.obj (MapO Tryz.prog 33 p.2))
structure MP (refs:List Rf) (c:Nat→Int→Int) (bl:Nat) (R:aa1):Prop where
 ex:∃ ms:List (Nat × Cnt),ms.length=refs.length∧(∀ (n:Nat) r p,refs[n]?=some r→ms[n]?=some p→∀ i,cnt p.2 r i = .int .i64 (c n i))∧R.Perm ((bl,.obj (MapO Tryz.prog 3 (outF (ms.map Prod.fst)))) :: aS5 ms)
theorem MP.perm {refs:List Rf} {c:Nat→Int→Int} {bl:Nat} {R R':aa1} (h:MP refs c bl R) (hp:R'.Perm R):MP refs c bl R':=by
 obtain ⟨ms,h1,h2,h3⟩:=h.ex
 exact ⟨ms,h1,h2,hp.trans h3⟩
theorem MP.cong {refs:List Rf} {c c':Nat→Int→Int} {bl:Nat} {R:aa1} (h:MP refs c bl R) (hc:∀ n i,n<refs.length→c n i=c' n i):MP refs c' bl R:=by
 obtain ⟨ms,h1,h2,h3⟩:=h.ex
 exact ⟨ms,h1,fun n r p q1 q2 i=>by rw [← hc n i (List.getElem?_eq_some_iff.1 q1).1];exact h2 n r p q1 q2 i,h3⟩
theorem MP.nil (c:Nat→Int→Int) (b:Nat):MP [] c b [(b,.obj (MapO Tryz.prog 3 fun _=>none))]:=⟨[],rfl,fun n r p h=>by simp at h,by simp [aS5,outF_nil]⟩
theorem MP.get {refs:List Rf} {c:Nat→Int→Int} {bl:Nat} {R:aa1} (h:MP refs c bl R) {q:Nat} {r:Rf} (hq:refs[q]?=some r) :
  ∃ (b:Nat) (F:Cnt) (G:Value→Option Value) (ρ:aa1),R.Perm ((bl,.obj (MapO Tryz.prog 3 G)) :: (b,.obj (MapO Tryz.prog 33 F)) :: ρ)∧G (.int .i64 q)=some (.map (some b))∧(∀ i,cnt F r i = .int .i64 (c q i)) ∧
   ∀ (F':Cnt) (c':Int→Int),(∀ i,cnt F' r i = .int .i64 (c' i))→MP refs (fun n i=>if n=q then c' i else c n i) bl ((bl,.obj (MapO Tryz.prog 3 G)) :: (b,.obj (MapO Tryz.prog 33 F')) :: ρ):=by
 obtain ⟨ms,h1,h2,h3⟩:=h.ex
 have hql:=(List.getElem?_eq_some_iff.1 hq).1
 obtain ⟨⟨b,F⟩,hm⟩:∃ p,ms[q]?=some p:=⟨_,List.getElem?_eq_getElem (by omega)⟩
 have hml:=(List.getElem?_eq_some_iff.1 hm).1
 have e4:ms=ms.take q ++ (b,F) :: ms.drop (q+1):=by
  have:=(List.getElem?_eq_some_iff.1 hm).2
  rw [← this,List.getElem_cons_drop,List.take_append_drop]
 refine ⟨b,F,outF (ms.map Prod.fst),aS5 (ms.take q) ++ aS5 (ms.drop (q+1)),?_,outF_get (by rw [List.getElem?_map,hm];rfl),h2 q r _ hq hm,fun F' c' hc=>⟨ms.set q (b,F'),by simpa using h1,fun n r' p q1 q2 i=>?_,?_⟩⟩
 ·refine h3.trans (List.Perm.cons _ ?_)
  conv=>lhs;rw [e4]
  unfold aS5
  rw [List.map_append,List.map_cons]
  exact List.perm_middle
 ·by_cases e:n=q
  ·subst e
   rw [List.getElem?_set_self hml] at q2
   cases q2
   cases hq.symm.trans q1
   rw [if_pos rfl];exact hc i
  ·rw [List.getElem?_set_ne (Ne.symm e)] at q2
   rw [if_neg e];exact h2 n r' p q1 q2 i
 ·have e5:ms.set q (b,F')=ms.take q ++ (b,F') :: ms.drop (q+1):=by rw [List.set_eq_take_append_cons_drop,if_pos hml]
  have e6:(ms.set q (b,F')).map Prod.fst=ms.map Prod.fst:=by
   rw [List.map_set]
   exact aW9 (by rw [List.getElem?_map,hm];rfl)
  rw [e6]
  refine List.Perm.cons _ ?_
  rw [e5]
  unfold aS5
  rw [List.map_append,List.map_cons]
  exact List.perm_middle.symm
theorem MP.push {refs:List Rf} {c:Nat→Int→Int} {bl:Nat} {R:aa1} (h:MP refs c bl R) (r:Rf) :
  ∃ (G:Value→Option Value) (ρ:aa1),R.Perm ((bl,.obj (MapO Tryz.prog 3 G)) :: ρ) ∧
   ∀ b,MP (refs ++ [r]) (fun n i=>if n=refs.length then 0 else c n i) bl ((bl,.obj (MapO Tryz.prog 3 (updF G (.int .i64 refs.length) (.map (some b))))) :: (b,.obj (MapO Tryz.prog 33 fun _=>none)) :: ρ):=by
 obtain ⟨ms,h1,h2,h3⟩:=h.ex
 refine ⟨outF (ms.map Prod.fst),aS5 ms,h3,fun b=>⟨ms ++ [(b,fun _=>none)],by simp [h1],fun n r' p q1 q2 i=>?_,?_⟩⟩
 ·rcases Nat.lt_or_ge n refs.length with hn|hn
  ·rw [List.getElem?_append_left hn] at q1
   rw [List.getElem?_append_left (by omega)] at q2
   rw [if_neg (by omega)];exact h2 n r' p q1 q2 i
  ·have hnl:=(List.getElem?_eq_some_iff.1 q1).1
   simp at hnl
   obtain rfl:n=refs.length:=by omega
   rw [if_pos rfl]
   rw [List.getElem?_append_right (by omega),h1] at q2
   simp at q2
   subst q2
   rfl
 ·have:=outF_push (ms.map Prod.fst) b
  rw [List.length_map,h1] at this
  rw [this]
  have e:aS5 (ms ++ [(b,fun _=>none)])=aS5 ms ++ [(b,.obj (MapO Tryz.prog 33 fun _=>none))]:=by simp [aS5]
  have e2:(ms ++ [(b,fun _=>none)]:List (Nat × Cnt)).map Prod.fst=ms.map Prod.fst ++ [b]:=by simp
  rw [e,e2]
  exact List.Perm.cons _ (List.perm_append_singleton _ _).symm
def cE (x:Sch) (w:Wd) (s:Sb) (n:Nat) (i:Int):Int:=match (aa7 x)[n]? with
 | some r=>ad7 w s r i
 | none=>0
def CS (x:Sch) (w:Wd) (s:Sb) (v:Value) (bl:Nat) (σ:aa1):Prop:=∃ σs R J,RS s v σs∧MP (aa7 x) (cE x w s) bl R∧σ.Perm (σs ++ (R ++ J))
abbrev stC (x:Sch) (w:Wd) (v:Value) (bl:Nat):List D:=[slRf (aa7 x),slW w,.v v,.v (.map (some bl))]
end
section
open Go Go.Maps Go.MapKept
theorem ACall.vs2 {P:Program} {f:FuncId} {args:List D} {σ:aa1} {R R':D→aa1→Prop} (h:ACall P f args σ R) (k:∀ d s,R d s→∃ d' s',Vs s d s' d'∧R' d' s'):ACall P f args σ R':=
 ⟨h.ent,fun w X vs hv hs=>(h.run w X vs hv hs).mono fun e w' ⟨u,d,s,g1,g2,g3,g4,g5⟩=>by
  obtain ⟨d',s',q1,q2⟩:=k d s g2
  obtain ⟨q3,q4⟩:=q1.run w' X u g4 g3
  exact ⟨u,d',s',g1,q2,q4,q3,g5.fewer q1.sub⟩⟩
def cTo (w:Wd) (s:Sb) (r:Rf) (j:Nat) (i:Int):Nat:=(List.range j).countP fun jj=>keptB s r.kind jj && decide (ay1 w r.kind jj r.field=i)
theorem cTo_succ (w:Wd) (s:Sb) (r:Rf) (j:Nat) (i:Int):cTo w s r (j+1) i=cTo w s r j i+(if keptB s r.kind j=true∧ay1 w r.kind j r.field=i then 1 else 0):=by
 unfold cTo
 rw [List.range_succ,List.countP_append]
 simp
theorem cTo_le (w:Wd) (s:Sb) (r:Rf) (j:Nat) (i:Int):cTo w s r j i≤j:=by
 have:=List.countP_le_length (p:=fun jj=>keptB s r.kind jj && decide (ay1 w r.kind jj r.field=i)) (l:=List.range j)
 simpa [cTo] using this
theorem cTo_all {w:Wd} {s:Sb} {r:Rf} {l:List (List Int)} (h:w[r.kind]?=some l) (i:Int):cTo w s r l.length i=ad7 w s r i:=by
 unfold cTo ad7
 rw [aa4 h]
theorem ref_key {x:Sch} {w:Wd} {s:Sb} (hF:Fit x w s) {r:Rf} (hr:r∈aa7 x):(Lit.int .i64 r.up).wf=true:=by
 obtain ⟨u1,u2,u3⟩:=hF.snd.up r hr
 have:=hF.snd.vld.nk
 exact wf64 (by omega) (by omega)
theorem sb80 {A B:Prop} (k:B) (h:Hd7 B→A:=by intro hk7q;(first|(with_reducible refine Bc.l ?_)|(with_reducible refine Bx.l ?_)|((with_reducible refine Dr.l ?h ?_);(case h=>decide +kernel))|(with_reducible refine Dr.r ?_)|((with_reducible refine Cb.go ?h ?_);(case h=>decide +kernel)));exact hk7q.run):A:=h ⟨k⟩
theorem sk81 {A B:Prop} (k:B) (h:Hd7 B→A:=by intro hk7q;(first|refine sb0 ?_|refine sb80 ?_|((with_reducible refine' Cp.by ?hc ?_);(case hc=>exact HR))|((with_reducible refine' CE.pure ?hc ?_);(case hc=>exact HR)));exact hk7q.run):A:=h ⟨k⟩
theorem cl_begun (x:Sch) (w:Wd) (s:Sb) (hF:Fit x w s):ACall Tryz.prog 40 [schD x,slW w,slS2 s] [] (fun d σ=>∃ a c bl,d = .ro (stC x w (.slice a s.length c) bl)∧CS x w s (.slice a s.length c) bl σ):=by
 have HR:=bb4 x hF.snd.vld
 have hsl:=hF.ss.nk
 have hwl:=hF.ws.nk
 have hrl:=au9 hF.snd.vld
 refine aa3 mixed aa0 Tryz.func40 (by kernel_rfl) rfl Tryz.ntmps40 rfl ?_;intro BB
 repeat' (first|refine sk81 ?_|(intro b;conv=>whnf))
 refine CE.own (cl_copied s hF.ss) (List.Perm.refl []) (fun s'=>s') (fun s'=>by simp) ?_
 rintro _ σs ⟨v,rfl,hR⟩
 obtain ⟨a,c,rfl⟩:=hR.slice
 repeat' (first|refine sk81 ?_|(intro b;conv=>whnf))
 refine OtE.makeMap (k:=3) rfl (fun bl=>?_)
 repeat' (first|refine sk81 ?_|(intro b;conv=>whnf))
 refine aa6 mixed aa0 (γ:=Nat × aa1) (fun g=>[(25,iD g.1)]) (fun g=>g.2) (fun g=>g.1≤(aa7 x).length∧∃ R J,MP ((aa7 x).take g.1) (cE x w s) bl R∧g.2.Perm (σs ++ (R ++ J))) (fun g=>(aa7 x).length - g.1) (0,(bl,.obj (MapO Tryz.prog 3 fun _=>none)) :: σs) (aa2 cl2) cl3 ⟨Nat.zero_le _,_,[],MP.nil _ bl,by rw [List.append_nil];exact (List.perm_append_singleton _ _).symm⟩ ?_
 rintro ⟨q,σ⟩ ⟨hq,R,J,hM,hp⟩
 simp only at hq hM hp ⊢
 by_cases hql:q<(aa7 x).length
 ·obtain ⟨r,hr⟩:∃ r,(aa7 x)[q]?=some r:=⟨_,List.getElem?_eq_getElem hql⟩
  have hr':(aa7 x)[((q:Nat):Int).toNat]?=some r:=hr
  have hrm:=List.mem_of_getElem? hr
  obtain ⟨u1,u2,u3⟩:=hF.snd.up r hrm
  have hkl:r.kind<w.length:=by have:=(ai9 hF.fit).1;omega
  obtain ⟨l,hl⟩:∃ l,w[r.kind]?=some l:=⟨_,List.getElem?_eq_getElem hkl⟩
  have hl':w[((r.kind:Nat):Int).toNat]?=some l:=hl
  obtain ⟨t,ht,htl⟩:=ai1 hF.shp hl
  have ht':s[((r.kind:Nat):Int).toNat]?=some t:=ht
  have hll:=hF.ws.nr l (List.mem_of_getElem? hl)
  obtain ⟨G,ρ,hG,hpush⟩:=hM.push r
  have hlen:((aa7 x).take q).length=q:=by rw [List.length_take];omega
  rw [hlen] at hpush
  repeat' (first|refine sk81 ?_|(intro b;conv=>whnf))
  refine OtE.makeMap (k:=33) rfl (fun bn=>?_)
  repeat' (first|refine sk81 ?_|(intro b;conv=>whnf))
  refine OtE.mapUpdate (b:=bl) (F:=G) (k:=3) (e:=116) (kl:=.int .i64 q) (τ:=(bn,.obj (MapO Tryz.prog 33 fun _=>none)) :: (b,.cells 121 (rfC r)) :: (ρ ++ (σs ++ J))) rfl rfl (KeyD.v _) rfl ?_ aB7 Tryz.underlying132 (ba5 (wf64 (by omega) (by omega))) ?_
  ·(refine ac3 fun a=>?_;have e1:=And.intro (al2 hp a) (al2 hG a);simp only [List.append_eq,List.nil_append,ac4,ae7,af1,rfC,atC,iD,bD] at e1 ⊢;omega)
  repeat' (first|refine sk81 ?_|(intro b;conv=>whnf))
  have hM0:=hpush bn
  have htk:(aa7 x).take (q+1)=(aa7 x).take q ++ [r]:=ah6 hr
  rw [← htk] at hM0
  refine aa6 mixed aa0 (γ:=Nat × aa1) (fun g=>[(42,iD g.1)]) (fun g=>g.2) (fun g=>g.1≤l.length∧∃ R J,MP ((aa7 x).take (q+1)) (fun n i=>if n=q then cTo w s r g.1 i else cE x w s n i) bl R∧g.2.Perm ((b,.cells 121 (rfC r)) :: (σs ++ (R ++ J)))) (fun g=>l.length - g.1) (0,_) (aa2 cl2) cl3 ⟨Nat.zero_le _,_,J,hM0.cong (fun n i _=>by by_cases e:n=q <;> simp [e,cTo]),by (refine ac3 fun a=>?_;simp only [List.append_eq,List.nil_append,ac4,ae7,af1,rfC,atC,iD,bD];omega)⟩ ?_
  rintro ⟨j,σ2⟩ ⟨hj,R2,J2,hM2,hp2⟩
  simp only at hj hM2 hp2 ⊢
  have m9:(b,Blk.cells 121 (rfC r))∈σ2:=hp2.mem_iff.2 (by simp)
  by_cases hjl:j<l.length
  ·obtain ⟨y,hy⟩:∃ y,l[j]?=some y:=⟨_,List.getElem?_eq_getElem hjl⟩
   have hy':l[((j:Nat):Int).toNat]?=some y:=hy
   obtain ⟨kb,hkb⟩:∃ kb,t[j]?=some kb:=⟨_,List.getElem?_eq_getElem (by omega)⟩
   have hkb':t[((j:Nat):Int).toNat]?=some kb:=hkb
   obtain ⟨v,z,tz,g1,g2,g3,g4,g5,g6,g7⟩:=aQ9 hF hrm hl hy
   have g1':y[((r.field:Nat):Int).toNat]?=some v:=g1
   have hkk:=at6 ht hkb
   have htz:=hF.ss.nr tz (List.mem_of_getElem? g5)
   obtain ⟨bm,Fm,G2,ρ2,hG2,hgq,hcnt,hset⟩:=hM2.get (show ((aa7 x).take (q+1))[q]?=some r by rw [htk,List.getElem?_append_right (by rw [hlen];omega),hlen];simp)
   cases kb with
   | false=>
    repeat' (first|refine sk81 ?_|(intro b;conv=>whnf)|((with_reducible refine' Ld.cellm m9 ?h2 ?_);(case h2=>exact rfl)))
    have hst:∀ i,cTo w s r (j+1) i=cTo w s r j i:=fun i=>by rw [cTo_succ,hkk];simp
    exact ⟨(j+1,σ2),(aa2 cl2),cl3,⟨by simp only;omega,R2,J2,by simp only [hst];exact hM2,hp2⟩,by simp only;omega⟩
   | true=>
    repeat' (first|refine sk81 ?_|(intro b;conv=>whnf)|((with_reducible refine' Ld.cellm m9 ?h2 ?_);(case h2=>exact rfl)))
    have hp3:σ2.Perm ((bl,.obj (MapO Tryz.prog 3 G2)) :: (bm,.obj (MapO Tryz.prog 33 Fm)) :: ((b,.cells 121 (rfC r)) :: (ρ2 ++ (σs ++ J2)))):=by (refine ac3 fun a=>?_;have e1:=And.intro (al2 hp2 a) (al2 hG2 a);simp only [List.append_eq,List.nil_append,ac4,ae7,af1,rfC,atC,iD,bD] at e1 ⊢;omega)
    have ml:(bl,Blk.obj (MapO Tryz.prog 3 G2))∈σ2:=hp3.mem_iff.2 (by simp)
    have mm:(bm,Blk.obj (MapO Tryz.prog 33 Fm))∈σ2:=hp3.mem_iff.2 (by simp)
    have hc0:(Fm (atV r.up v)).getD (.int .i64 0) = .int .i64 (cTo w s r j v):=by have:=hcnt v;simp only [if_true] at this;exact this
    obtain ⟨kl,hkl⟩:=at_key (ref_key hF hrm) (show (Lit.int .i64 v).wf=true from wf64 (by omega) (by omega))
    have hp4:σ2.Perm ((bm,.obj (MapO Tryz.prog 33 Fm)) :: ((bl,.obj (MapO Tryz.prog 3 G2)) :: (b,.cells 121 (rfC r)) :: (ρ2 ++ (σs ++ J2)))):=by (refine ac3 fun a=>?_;have e1:=al2 hp3 a;simp only [List.append_eq,List.nil_append,ac4,ae7,af1,rfC,atC,iD,bD] at e1 ⊢;omega)
    have hle:=cTo_le w s r j v
    have hfin:∃ R J,MP ((aa7 x).take (q+1)) (fun n i=>if n=q then cTo w s r (j+1) i else cE x w s n i) bl R∧((bm,Blk.obj (MapO Tryz.prog 33 (updF (updF Fm (atV r.up v) (.int .i64 (cTo w s r j v))) (atV r.up v) (.int .i64 (cTo w s r j v+1))))) :: ((bl,.obj (MapO Tryz.prog 3 G2)) :: (b,.cells 121 (rfC r)) :: (ρ2 ++ (σs ++ J2)))).Perm ((b,.cells 121 (rfC r)) :: (σs ++ (R ++ J))):=by
     refine ⟨_,J2,(hset (updF (updF Fm (atV r.up v) (.int .i64 (cTo w s r j v))) (atV r.up v) (.int .i64 (cTo w s r j v+1))) (fun i=>cTo w s r (j+1) i) (fun i=>?_)).cong (fun n i _=>by by_cases e:n=q <;> simp [e]),by (refine ac3 fun a=>?_;simp only [List.append_eq,List.nil_append,ac4,ae7,af1,rfC,atC,iD,bD];omega)⟩
     rw [bb2,bb2,cTo_succ,hkk,g2]
     by_cases e:i=v
     ·subst e;simp
     ·have hci:=hcnt i
      simp only [if_true] at hci
      rw [if_neg e,if_neg e,hci,if_neg (by rintro ⟨_,e2⟩;exact e e2.symm)]
      simp
    refine Dm.r ?_
    refine W.mk ?_
    refine aA1 mixed aa0 rfl [0,1,2,3,4,5,6,7,8,9,10,11,12,13] 5 (.two 14 (.two 15 (.one 16 (.one 17 (.one 18 .done))) 16 (.two 15 (.one 17 (.one 18 .done)) 17 (.one 15 (.one 18 .done)))) 16 (.two 14 (.two 15 (.one 17 (.one 18 .done)) 17 (.one 15 (.one 18 .done))) 17 (.one 14 (.one 15 (.one 18 .done))))) (γ:=Value × aa1) (fun g=>[(69,iD (cTo w s r j v)),(70,iD (cTo w s r j v+1)),(71,.tup [iD (cTo w s r j v),.v g.1]),(72,.v g.1)]) (fun g=>g.2) (fun g=>∃ R J,MP ((aa7 x).take (q+1)) (fun n i=>if n=q then cTo w s r (j+1) i else cE x w s n i) bl R∧g.2.Perm ((b,.cells 121 (rfC r)) :: (σs ++ (R ++ J)))) (by decide +kernel) ?_ ?_
    ·repeat' (first|refine sk81 ?_|(intro b;conv=>whnf)|((with_reducible refine' Ld.cellm m9 ?h2 ?_);(case h2=>exact rfl)))
     refine Ot.yd (ak2 (u:=.map (some bm)) rfl rfl (KeyD.v _) ml (fun _ h=>h) aB7 Tryz.underlying132 aV6 (ba5 (wf64 (by omega) (by omega))) (by rw [hgq];rfl)) ?_
     repeat' (first|refine sk81 ?_|(intro b;conv=>whnf)|((with_reducible refine' Ld.cellm m9 ?h2 ?_);(case h2=>exact rfl)))
     repeat' (first|refine sk81 ?_|(intro b;conv=>whnf)|((with_reducible refine' Ld.cellm m9 ?h2 ?_);(case h2=>exact rfl))|(refine And.intro ?_ ?_ <;> (conv=>whnf))|(refine OtE.yd rfl (ak2 (kv:=atV r.up v) (u:=.int .i64 (cTo w s r j v)) rfl rfl (KeyD.agg2 _ _) mm (fun _ h=>h) as2 Tryz.underlying116 au5 hkl hc0) ?_)|(refine OtE.yd rfl (ak2 (kv:=atV r.up v) (u:=.int .i64 (cTo w s r j v)) rfl rfl (KeyD.agg2 _ _) (List.mem_cons_self) (fun _ h=>h.is) as2 Tryz.underlying116 au5 hkl (updF_at _ _ _ _)) ?_)|(refine OtE.mapEntry2 (kv:=atV r.up v) (u:=.int .i64 (cTo w s r j v)) rfl rfl (KeyD.agg2 _ _) hp4 (fun _ h=>h) as2 Tryz.underlying116 au5 hkl hc0 (fun st=>?_))|(refine OtE.entryStore (kv:=atV r.up v) (xv:=.int .i64 (cTo w s r j v+1)) rfl rfl rfl rfl (List.Perm.refl _) hkl ?_))
     all_goals exact ⟨(st,_),(aa2 cl2),rfl,hfin⟩
    ·rintro ⟨st,σ3⟩ ⟨R3,J3,hM3,hp3'⟩
     simp only at hM3 hp3' ⊢
     repeat' (first|refine sk81 ?_|(intro b;conv=>whnf)|((with_reducible refine' Ld.cellm m9 ?h2 ?_);(case h2=>exact rfl)))
     exact ⟨(j+1,σ3),(aa2 cl2),cl3,⟨by simp only;omega,R3,J3,hM3,hp3'⟩,by simp only;omega⟩
  ·obtain rfl:j=l.length:=by omega
   repeat' (first|refine sk81 ?_|(intro b;conv=>whnf)|((with_reducible refine' Ld.cellm m9 ?h2 ?_);(case h2=>exact rfl)))
   exact ⟨(q+1,σ2),(aa2 cl2),cl3,⟨by simp only;omega,R2,_,hM2.cong (fun n i hn=>by
    by_cases e:n=q
    ·subst e;rw [if_pos rfl,cTo_all hl];simp [cE,hr]
    ·rw [if_neg e]),hp2.trans (show List.Perm _ (σs ++ (R2 ++ (J2 ++ [(b,.cells 121 (rfC r))]))) by (refine ac3 fun a=>?_;simp only [List.append_eq,List.nil_append,ac4,ae7,af1,rfC,atC,iD,bD];omega))⟩,by simp only;omega⟩
 ·obtain rfl:q=(aa7 x).length:=by omega
  rw [List.take_length] at hM
  repeat' (first|refine sk81 ?_|(intro b;conv=>whnf))
  exact Rt.same ⟨_,_,bl,rfl,σs,R,J,hR,hM,hp⟩
end
end Go.Proofs.YtjbbmjjildhfbaaGreatDoor
