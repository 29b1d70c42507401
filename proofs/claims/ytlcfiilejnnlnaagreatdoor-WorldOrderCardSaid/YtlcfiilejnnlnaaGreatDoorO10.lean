/- A part of the proof: Ru Qa R09 Qb Ha Qc Hb Hc. -/
import Derived.Test.YtlcfiilejnnlnaaGreatDoorO09
set_option maxRecDepth 100000
set_option maxHeartbeats 20000000
set_option linter.unusedVariables false
set_option linter.unusedSimpArgs false
namespace Go.Proofs.YtlcfiilejnnlnaaGreatDoor
section
open Go Go.Maps Go.MapKept
theorem bl6 (x:Sch) (k:Nat) (kd:Knd) (i:Nat) (r:List Int) (q:Nat):(rulP x k kd i r q).length≤1:=by unfold rulP;split;exact av3 ..;simp
theorem aZ5 {x:Sch} (hru:x.rules.length≤16) {w:Wd} {k:Nat} {kd:Knd} {l:List (List Int)} (hrec:∀ y∈l,recOk x k y=true) (hnf:∀ k∈x.kinds,k.fields.length≤10) (hkd:x.kinds[k]?=some kd) (i:Nat):(recP x w k kd l i).length≤26:=by
 unfold recP
 split
 ·rename_i r hr
  have h1:=ab9 (aC7 x w k kd l i r) r.length
  have h2:=(ao0 hkd (hrec r (List.mem_of_getElem? hr))).1
  have h3:=hnf kd (List.mem_of_getElem? hkd)
  have h4:=ab9 (bl6 x k kd i r) x.rules.length
  simp only [List.length_append]
  omega
 ·simp
theorem aW3 {x:Sch} (hru:x.rules.length≤16) {w:Wd} (hrows:∀ (k:Nat) l,w[k]?=some l→an4 x k l=true) (hnf:∀ k∈x.kinds,k.fields.length≤10) (k:Nat):(knP x w k).length≤13312:=by
 unfold knP
 split
 ·rename_i kd hkd
  cases hl:w[k]? with
  | none=>rw [List.getD_eq_getElem?_getD,hl];simp [upTo]
  | some l=>
   rw [aa6 hl]
   obtain ⟨h1,h2⟩:=ak5 (hrows k l hl)
   have:=ab9 (aZ5 hru h2 hnf hkd (w:=w)) l.length
   omega
 ·simp
theorem ce6 {kd:Knd} {r:List Int} (h:∀ n∈r,-1099511627776≤n∧n≤1099511627776) (nm:ByteArray):-1099511627776≤getR kd r nm∧getR kd r nm≤1099511627776:=by
 unfold getR vatR
 split
 ·omega
 ·rw [List.getD_eq_getElem?_getD]
  cases h2:r[(aa3 kd nm).toNat]? with
  | none=>simp
  | some n=>exact h n (List.mem_of_getElem? h2)
theorem cm0 {x:Sch} (hV:Vld x) {q:Nat} {u:Rul} (hq:x.rules[q]?=some u):-1048576≤u.n∧u.n≤1048576:=by
 have h:=hV.rules u (List.mem_of_getElem? hq)
 simp only [at7,Bool.and_eq_true,aa7,decide_eq_true_eq] at h
 omega
theorem sk59 {A B:Prop} (k:B) (h:Hd7 B→A:=by intro hk7q;(first|refine sb0 ?_|refine sb1 ?_|((with_reducible refine' Cp.by ?hc ?_);(case hc=>first|exact ah5 _ _|exact HN|exact HT|exact HK))|((with_reducible refine' CE.pure ?hc ?_);(case hc=>first|exact ah5 _ _|exact HN|exact HT|exact HK)));exact hk7q.run):A:=h ⟨k⟩
theorem sk60 {A B:Prop} (k:B) (h:Hd7 B→A:=by intro hk7q;(first|refine sb0 ?_|refine sb33 ?_|((with_reducible refine' Cp.by ?hc ?_);(case hc=>first|exact ah5 _ _|exact HN|exact HT|exact HK))|((with_reducible refine' CE.pure ?hc ?_);(case hc=>first|exact ah5 _ _|exact HN|exact HT|exact HK)));exact hk7q.run):A:=h ⟨k⟩
theorem sk61 {A B:Prop} (k:B) (h:Hd7 B→A:=by intro hk7q;(first|refine sb0 ?_|refine sb44 ?_|((with_reducible refine' Cp.by ?hc ?_);(case hc=>first|exact ah5 _ _|exact HN|exact HT|exact HK))|((with_reducible refine' CE.pure ?hc ?_);(case hc=>first|exact ah5 _ _|exact HN|exact HT|exact HK)));exact hk7q.run):A:=h ⟨k⟩
theorem sq5 {A B:Prop} (k:B) (h:Hd7 B→A:=by intro hk7q;(first|refine sk59 ?_|(with_reducible refine Br.t (beq_self_eq_true _) ?_)|(with_reducible refine Br.f Bool.not_true ?_)|(with_reducible refine Br.t (decide_eq_true trivial) ?_));exact hk7q.run):A:=h ⟨k⟩
theorem sq6 {A B:Prop} (k:B) (h:Hd7 B→A:=by intro hk7q;(first|refine sk60 ?_|(with_reducible refine Br.t (beq_self_eq_true _) ?_)|(with_reducible refine Br.f Bool.not_true ?_)|(with_reducible refine Br.t (decide_eq_true trivial) ?_));exact hk7q.run):A:=h ⟨k⟩
theorem sq7 {A B:Prop} (k:B) (h:Hd7 B→A:=by intro hk7q;(first|refine sk61 ?_|(with_reducible refine Br.t (beq_self_eq_true _) ?_)|(with_reducible refine Br.f Bool.not_true ?_)|(with_reducible refine Br.t (decide_eq_true trivial) ?_));exact hk7q.run):A:=h ⟨k⟩
theorem cl11 {p:Prop} (h:p:=by rw [hR];refine ad8 fun a=>?_;simp only [List.append_eq,List.nil_append,List.cons_append,ad9,ah8,ah7];omega):p:=h
theorem bd9 (x:Sch) (w:Wd) (hw:Ws w) (hp:ah6 x=[]) (HV:APure Tryz.prog 143 [schD x] (iD (ai3 x))):APure Tryz.prog 27 [schD x,slW w] (.sl 4 ((ak4 x w).map prbC)):=by
 have HN:=bA7 x w hw hp HV
 have hS:=aF0 hp
 have hV:=hS.vld
 have hnk:=hV.nk
 have hnf:=hV.nf
 have hru:=hV.nr
 have hwl:=hw.nk
 have hl6:x.kinds.length≤1000000:=by omega
 have hrl:=aH8 hV
 refine eP7 Tryz.func27 Tryz.ntmps27 fun BB=>?_
 repeat' first|refine sk59 ?_|(intro b;conv=>whnf)
 refine CE.own HN (List.Perm.refl ([] ++ [])) (fun s'=>s') (fun s'=>by simp) ?_
 rintro d σ (⟨hfit,rfl,rfl⟩|⟨hfit,c,rm,lm,F,sa,rfl,rfl,hA⟩)
 ·repeat' first|refine sk59 ?_|(intro b;conv=>whnf)
  exact Rt.pure (by unfold ak4;rw [hfit];rfl)
 ·obtain ⟨hlen,hrows,hrefs⟩:=ak8 hfit
  obtain ⟨R,hR⟩:∃ R:aa1,R=(rm,.obj (MapO Tryz.prog 147 F)) :: (lm,.mp Tryz.prog 9 (lvG x.lives)) :: sa:=⟨_,rfl⟩
  rw [← hR]
  repeat' first|refine sq5 ?_|(intro b;conv=>whnf)|fail
  refine aa5 mixed aa0 (γ:=Nat × Value × aa1) (fun g=>[(35,iD g.1)]) (fun g=>(c,.cells 145 (ckC x w (aa4 x) rm lm g.2.1)) :: (g.2.2 ++ R)) (fun g=>g.1≤w.length∧RowIs 135 4 ((upTo g.1 (limP x w)).map prbC) g.2.1 g.2.2) (fun g=>w.length - g.1) (0,.slice none 0 0,[]) (aa2 cl3) (Sc.refl _) ⟨Nat.zero_le _,RowIs.nil _ _⟩ ?_
  rintro ⟨k,v,s⟩ ⟨hk,hrow⟩
  simp only at hk hrow ⊢
  by_cases hkl:k<w.length
  ·obtain ⟨l,hl⟩:∃ l,w[k]?=some l:=⟨_,List.getElem?_eq_getElem hkl⟩
   have hl':w[((k:Nat):Int).toNat]?=some l:=hl
   obtain ⟨kd,hkd⟩:∃ y,x.kinds[k]?=some y:=⟨_,List.getElem?_eq_getElem (by omega)⟩
   have hkd':x.kinds[((k:Nat):Int).toNat]?=some kd:=hkd
   have hll:=hw.nr l (List.mem_of_getElem? hl)
   have hSL:=ac4 k (limP x w)
   have hLP:limP x w k=one k (-1) (-1) (if (l.length:Int)<kd.lo∨kd.hi<(l.length:Int) then 4 else 0):=by unfold limP;rw [hkd,aa6 hl]
   have hlen1:=ab9 (aB9 x w) k
   rw [hLP] at hSL
   by_cases h1:(l.length:Int)<kd.lo
   ·rw [if_pos (.inl h1)] at hSL
    repeat' first|refine sq5 ?_|(intro b;conv=>whnf)|fail
    (refine CE.own (aq2 x w (aa4 x) rm lm c _ _ _ _ _ _ _ hrow (by (try simp only [List.length_append]);omega)) (List.Perm.refl _) (fun s'=>s' ++ _) (fun s'=>List.Perm.refl _) ?_;rintro _ _ ⟨v',s',rfl,rfl,hr'⟩)
    repeat' first|refine sq5 ?_|(intro b;conv=>whnf)|fail
    exact ⟨(k+1,v',s'),(aa2 cl3),Sc.refl _,⟨by simp only;omega,by rw [hSL];exact hr'⟩,by simp only;omega⟩
   ·by_cases h2:kd.hi<(l.length:Int)
    ·rw [if_pos (.inr h2)] at hSL
     repeat' first|refine sq5 ?_|(intro b;conv=>whnf)|fail
     (refine CE.own (aq2 x w (aa4 x) rm lm c _ _ _ _ _ _ _ hrow (by (try simp only [List.length_append]);omega)) (List.Perm.refl _) (fun s'=>s' ++ _) (fun s'=>List.Perm.refl _) ?_;rintro _ _ ⟨v',s',rfl,rfl,hr'⟩)
     repeat' first|refine sq5 ?_|(intro b;conv=>whnf)|fail
     exact ⟨(k+1,v',s'),(aa2 cl3),Sc.refl _,⟨by simp only;omega,by rw [hSL];simpa [h2] using hr'⟩,by simp only;omega⟩
    ·rw [if_neg (by omega)] at hSL
     repeat' first|refine sq5 ?_|(intro b;conv=>whnf)|fail
     (refine CE.own (aq2 x w (aa4 x) rm lm c _ _ _ _ _ _ _ hrow (by (try simp only [List.length_append]);omega)) (List.Perm.refl _) (fun s'=>s' ++ _) (fun s'=>List.Perm.refl _) ?_;rintro _ _ ⟨v',s',rfl,rfl,hr'⟩)
     repeat' first|refine sq5 ?_|(intro b;conv=>whnf)|fail
     exact ⟨(k+1,v',s'),(aa2 cl3),Sc.refl _,⟨by simp only;omega,by rw [hSL];simpa [h2] using hr'⟩,by simp only;omega⟩
  ·obtain rfl:k=w.length:=by omega
   have hlen1:=ab9 (aB9 x w) w.length
   generalize hL1:upTo w.length (limP x w)=L1 at *
   repeat' first|refine sq5 ?_|(intro b;conv=>whnf)|fail
   refine aa5 mixed aa0 (γ:=Nat × Value × aa1) (fun g=>[(68,iD g.1)]) (fun g=>(c,.cells 145 (ckC x w (aa4 x) rm lm g.2.1)) :: (g.2.2 ++ R)) (fun g=>g.1≤w.length∧RowIs 135 4 ((L1 ++ upTo g.1 (knP x w)).map prbC) g.2.1 g.2.2) (fun g=>w.length - g.1) (0,v,s) (aa2 cl3) (Sc.refl _) ⟨Nat.zero_le _,by simpa [upTo] using hrow⟩ ?_
   clear hrow
   rintro ⟨k,v,s⟩ ⟨hk,hrow⟩
   simp only at hk hrow ⊢
   by_cases hkl:k<w.length
   ·obtain ⟨l,hl⟩:∃ l,w[k]?=some l:=⟨_,List.getElem?_eq_getElem hkl⟩
    have hl':w[((k:Nat):Int).toNat]?=some l:=hl
    obtain ⟨kd,hkd⟩:∃ y,x.kinds[k]?=some y:=⟨_,List.getElem?_eq_getElem (by omega)⟩
    have hkd':x.kinds[((k:Nat):Int).toNat]?=some kd:=hkd
    have hll:=hw.nr l (List.mem_of_getElem? hl)
    have hlf:=hw.nf l (List.mem_of_getElem? hl)
    have hkf:=hnf kd (List.mem_of_getElem? hkd)
    have hSK:=ac4 k (knP x w)
    have hKP:knP x w k=upTo l.length (recP x w k kd l):=by unfold knP;rw [hkd,aa6 hl]
    rw [hKP] at hSK
    have hlen2:(upTo k (knP x w)).length≤100000:=by have:=ab9 (aW3 hru hrows hnf) k;omega
    have hrec:=(ak5 (hrows k l hl)).2
    generalize hL2:upTo k (knP x w)=L2 at *
    repeat' first|refine sq5 ?_|(intro b;conv=>whnf)|fail
    refine OtE.makeMap (k:=3) rfl (fun bk=>?_)
    repeat' first|refine sq5 ?_|(intro b;conv=>whnf)|fail
    refine aa5 mixed aa0 (γ:=Nat × Value × aa1) (fun g=>[(76,iD g.1)]) (fun g=>(c,.cells 145 (ckC x w (aa4 x) rm lm g.2.1)) :: (g.2.2 ++ ((bk,.obj (MapO Tryz.prog 3 (KF (ao3 kd l g.1)))) :: R))) (fun g=>g.1≤l.length∧RowIs 135 4 ((L1 ++ L2 ++ upTo g.1 (recP x w k kd l)).map prbC) g.2.1 g.2.2) (fun g=>l.length - g.1) (0,v,s) (aa2 cl3) (Sc.perm cl5) ⟨Nat.zero_le _,by simpa [upTo] using hrow⟩ ?_
    clear hrow
    rintro ⟨i,v,s⟩ ⟨hi,hrow⟩
    simp only at hi hrow ⊢
    by_cases hil:i<l.length
    ·obtain ⟨r,hr⟩:∃ r,l[i]?=some r:=⟨_,List.getElem?_eq_getElem hil⟩
     have hr':l[((i:Nat):Int).toNat]?=some r:=hr
     have hrf:=hlf r (List.mem_of_getElem? hr)
     obtain ⟨hrl,hrn⟩:=ao0 hkd (hrec r (List.mem_of_getElem? hr))
     have hSR:=ac4 i (recP x w k kd l)
     have hRP:recP x w k kd l i=upTo r.length (fldP x w k kd l i r) ++ upTo x.rules.length (rulP x k kd i r):=by unfold recP;rw [hr]
     rw [hRP] at hSR
     have hlen3:(upTo i (recP x w k kd l)).length≤100000:=by have:=ab9 (aZ5 hru hrec hnf hkd (w:=w)) i;omega
     generalize hL3:upTo i (recP x w k kd l)=L3 at *
     have hKK:ao3 kd l (i+1)=an3 kd r (ao3 kd l i) r.length:=by show (match l[i]? with|some r=>an3 kd r (ao3 kd l i) r.length|none=>ao3 kd l i)=_;rw [hr]
     generalize hK0:ao3 kd l i=K0 at *
     repeat' first|refine sq5 ?_|(intro b;conv=>whnf)|fail
     refine aa5 mixed aa0 (γ:=Nat × Value × aa1) (fun g=>[(83,iD g.1)]) (fun g=>(c,.cells 145 (ckC x w (aa4 x) rm lm g.2.1)) :: (g.2.2 ++ ((bk,.obj (MapO Tryz.prog 3 (KF (an3 kd r K0 g.1)))) :: R))) (fun g=>g.1≤r.length∧RowIs 135 4 ((L1 ++ L2 ++ L3 ++ upTo g.1 (fldP x w k kd l i r)).map prbC) g.2.1 g.2.2) (fun g=>r.length - g.1) (0,v,s) (aa2 cl3) (Sc.refl _) ⟨Nat.zero_le _,by simpa [upTo] using hrow⟩ ?_
     clear hrow
     rintro ⟨f,v,s⟩ ⟨hf,hrow⟩
     simp only at hf hrow ⊢
     by_cases hfl:f<r.length
     ·obtain ⟨n,hn⟩:∃ n,r[f]?=some n:=⟨_,List.getElem?_eq_getElem hfl⟩
      obtain ⟨d,hd⟩:∃ d,kd.fields[f]?=some d:=⟨_,List.getElem?_eq_getElem (by omega)⟩
      have hnb:=hrn n (List.mem_of_getElem? hn)
      have hKF:an3 kd r K0 (f+1)=keyF r f d (an3 kd r K0 f):=by show (match kd.fields[f]? with|some d=>keyF r f d (an3 kd r K0 f)|none=>an3 kd r K0 f)=_;rw [hd]
      have hSF:=ac4 f (fldP x w k kd l i r)
      have hlen4:=ab9 (aC7 x w k kd l i r) f
      have hFP:fldP x w k kd l i r f=one k i f (codeF x w k kd r i f d (an3 kd r K0 f)):=by unfold fldP;rw [hd,hK0]
      rw [hFP] at hSF
      have HF:=bG0 x w hw hp hfit c bk rm lm v (an3 kd r K0 f) hkd hd hl hr hn F sa hA
      repeat' first|refine sq5 ?_|(intro b;conv=>whnf)|fail
      refine CE.own HF (t:=s) cl11 (fun s'=>s' ++ s) (fun s'=>List.Perm.refl _) ?_
      rintro _ _ ⟨rfl,rfl⟩
      repeat' first|refine sq5 ?_|(intro b;conv=>whnf)|fail
      refine CE.own (aq2 x w (aa4 x) rm lm c _ _ _ _ _ _ _ hrow (by simp only [List.length_append];omega)) (t:=(bk,.obj (MapO Tryz.prog 3 (KF (keyF r f d (an3 kd r K0 f))))) :: R) cl11 (fun s'=>s' ++ _) (fun s'=>List.Perm.refl _) ?_
      rintro _ _ ⟨v',s',rfl,rfl,hr'⟩
      repeat' first|refine sq5 ?_|(intro b;conv=>whnf)|fail
      exact ⟨(f+1,v',s'),(aa2 cl3),by rw [hKF];exact Sc.refl _,⟨by simp only;omega,by rw [hSF,← List.append_assoc];exact hr'⟩,by simp only;omega⟩
     ·obtain rfl:f=r.length:=by omega
      rw [← hKK]
      have hlen4:=ab9 (aC7 x w k kd l i r) r.length
      generalize hL4:upTo r.length (fldP x w k kd l i r)=L4 at *
      repeat' first|refine sq5 ?_|(intro b;conv=>whnf)|fail
      refine aa5 mixed aa0 (γ:=Nat × Value × aa1) (fun g=>[(102,iD g.1)]) (fun g=>(c,.cells 145 (ckC x w (aa4 x) rm lm g.2.1)) :: (g.2.2 ++ ((bk,.obj (MapO Tryz.prog 3 (KF (ao3 kd l (i+1))))) :: R))) (fun g=>g.1≤x.rules.length∧RowIs 135 4 ((L1 ++ L2 ++ L3 ++ L4 ++ upTo g.1 (rulP x k kd i r)).map prbC) g.2.1 g.2.2) (fun g=>x.rules.length - g.1) (0,v,s) (aa2 cl3) (Sc.refl _) ⟨Nat.zero_le _,by simpa [upTo] using hrow⟩ ?_
      clear hrow
      rintro ⟨q,v,s⟩ ⟨hq,hrow⟩
      simp only at hq hrow ⊢
      by_cases hql:q<x.rules.length
      ·obtain ⟨u,hu⟩:∃ u,x.rules[q]?=some u:=⟨_,List.getElem?_eq_getElem hql⟩
       have hu':x.rules[((q:Nat):Int).toNat]?=some u:=hu
       have hlen5:=ab9 (bl6 x k kd i r) q
       have hSU:=ac4 q (rulP x k kd i r)
       have hUP:rulP x k kd i r q=one k i (-1) (if ab1 x u.kind=(k:Int)∧bo0 kd r u=false then 24 else 0):=by unfold rulP;rw [hu]
       rw [hUP] at hSU
       have HT:=ai0 x u.kind hl6
       have hun:=cm0 hV hu
       have hgb:=ce6 (kd:=kd) hrn u.b
       repeat' first|refine sq6 ?_|(intro b;conv=>whnf)|fail
       (refine Dr.r ?_;refine W.mk ?_)
       refine af2 (i:=16) (d:=.v (.pointer (some ⟨b,0,none⟩))) (d':=.ro (rulC u)) (τ:=(c,.cells 145 (ckC x w (aa4 x) rm lm v)) :: (s ++ ((bk,.obj (MapO Tryz.prog 3 (KF (ao3 kd l (i+1))))) :: R))) rfl (fun h=>by cases h) (Vs.ptr (tb:=92) (List.Perm.refl _)) ?_
       by_cases hku:ab1 x u.kind=(k:Int)
       ·obtain ⟨ha,hb⟩:=bJ8 hp hu hku hkd
        have HK:=bJ1 kd r u hrl (by omega) ha hb ⟨by omega,by omega⟩
        cases hkp:bo0 kd r u with
        | true=>
         rw [hkp] at HK
         rw [hkp,if_neg (by simp)] at hSU
         (refine ah2 mixed aa0 rfl [0,1,2,3,4,5,6,7,8,9,10,11,12,13,14,15,16,17,18,19,20,21] 1 (inE [22]) (.one 22 .done) (γ:=Value × aa1) (fun _=>[]) (fun g=>(c,.cells 145 (ckC x w (aa4 x) rm lm g.1)) :: (g.2 ++ ((bk,.obj (MapO Tryz.prog 3 (KF (ao3 kd l (i+1))))) :: R))) (fun g=>RowIs 135 4 ((L1 ++ L2 ++ L3 ++ L4 ++ upTo (q+1) (rulP x k kd i r)).map prbC) g.1 g.2) (by decide +kernel) ?_ ?_)
         ·repeat' first|refine sq5 ?_|(intro b;conv=>whnf)|fail
          (refine CE.own (aq2 x w (aa4 x) rm lm c _ _ _ _ _ _ _ hrow (by simp only [List.length_append];omega)) (List.Perm.refl _) (fun s'=>s' ++ _) (fun s'=>List.Perm.refl _) ?_;rintro _ _ ⟨v',s',rfl,rfl,hr'⟩)
          repeat' first|refine sq5 ?_|(intro b;conv=>whnf)|fail
          exact ⟨(v',s'),(aa2 cl3),Sc.refl _,by rw [hSU,← List.append_assoc];exact hr'⟩
         ·rintro ⟨v',s'⟩ hr'
          repeat' first|refine sq5 ?_|(intro b;conv=>whnf)|fail
          exact ⟨(q+1,v',s'),(aa2 cl3),Sc.refl _,⟨by simp only;omega,hr'⟩,by simp only;omega⟩
        | false=>
         rw [hkp] at HK
         rw [hkp,if_pos ⟨hku,rfl⟩] at hSU
         (refine ah2 mixed aa0 rfl [0,1,2,3,4,5,6,7,8,9,10,11,12,13,14,15,16,17,18,19,20,21] 1 (inE [22]) (.one 22 .done) (γ:=Value × aa1) (fun _=>[]) (fun g=>(c,.cells 145 (ckC x w (aa4 x) rm lm g.1)) :: (g.2 ++ ((bk,.obj (MapO Tryz.prog 3 (KF (ao3 kd l (i+1))))) :: R))) (fun g=>RowIs 135 4 ((L1 ++ L2 ++ L3 ++ L4 ++ upTo (q+1) (rulP x k kd i r)).map prbC) g.1 g.2) (by decide +kernel) ?_ ?_)
         ·repeat' first|refine sq5 ?_|(intro b;conv=>whnf)|fail
          (refine CE.own (aq2 x w (aa4 x) rm lm c _ _ _ _ _ _ _ hrow (by simp only [List.length_append];omega)) (List.Perm.refl _) (fun s'=>s' ++ _) (fun s'=>List.Perm.refl _) ?_;rintro _ _ ⟨v',s',rfl,rfl,hr'⟩)
          repeat' first|refine sq5 ?_|(intro b;conv=>whnf)|fail
          exact ⟨(v',s'),(aa2 cl3),Sc.refl _,by rw [hSU,← List.append_assoc];exact hr'⟩
         ·rintro ⟨v',s'⟩ hr'
          repeat' first|refine sq5 ?_|(intro b;conv=>whnf)|fail
          exact ⟨(q+1,v',s'),(aa2 cl3),Sc.refl _,⟨by simp only;omega,hr'⟩,by simp only;omega⟩
       ·rw [if_neg (fun h=>hku h.1)] at hSU
        have HK:=HT
        (refine ah2 mixed aa0 rfl [0,1,2,3,4,5,6,7,8,9,10,11,12,13,14,15,16,17,18,19,20,21] 1 (inE [22]) (.one 22 .done) (γ:=Value × aa1) (fun _=>[]) (fun g=>(c,.cells 145 (ckC x w (aa4 x) rm lm g.1)) :: (g.2 ++ ((bk,.obj (MapO Tryz.prog 3 (KF (ao3 kd l (i+1))))) :: R))) (fun g=>RowIs 135 4 ((L1 ++ L2 ++ L3 ++ L4 ++ upTo (q+1) (rulP x k kd i r)).map prbC) g.1 g.2) (by decide +kernel) ?_ ?_)
        ·repeat' first|refine sq5 ?_|(intro b;conv=>whnf)|fail
         (refine CE.own (aq2 x w (aa4 x) rm lm c _ _ _ _ _ _ _ hrow (by simp only [List.length_append];omega)) (List.Perm.refl _) (fun s'=>s' ++ _) (fun s'=>List.Perm.refl _) ?_;rintro _ _ ⟨v',s',rfl,rfl,hr'⟩)
         repeat' first|refine sq5 ?_|(intro b;conv=>whnf)|fail
         exact ⟨(v',s'),(aa2 cl3),Sc.refl _,by rw [hSU,← List.append_assoc];exact hr'⟩
        ·rintro ⟨v',s'⟩ hr'
         repeat' first|refine sq5 ?_|(intro b;conv=>whnf)|fail
         exact ⟨(q+1,v',s'),(aa2 cl3),Sc.refl _,⟨by simp only;omega,hr'⟩,by simp only;omega⟩
      ·obtain rfl:q=x.rules.length:=by omega
       repeat' first|refine sq5 ?_|(intro b;conv=>whnf)|fail
       exact ⟨(i+1,v,s),(aa2 cl3),Sc.refl _,⟨by simp only;omega,by rw [hSR];simpa [List.append_assoc] using hrow⟩,by simp only;omega⟩
    ·obtain rfl:i=l.length:=by omega
     repeat' first|refine sq5 ?_|(intro b;conv=>whnf)|fail
     exact ⟨(k+1,v,s),(aa2 cl3),Sc.sl ((List.Sublist.append_left (List.sublist_cons_self _ _) s).cons_cons _),⟨by simp only;omega,by rw [hSK,← List.append_assoc];exact hrow⟩,by simp only;omega⟩
   ·obtain rfl:k=w.length:=by omega
    have hlen2:(upTo w.length (knP x w)).length≤100000:=by have:=ab9 (aW3 hru hrows hnf) w.length;omega
    generalize hL2:upTo w.length (knP x w)=L2 at *
    repeat' first|refine sq5 ?_|(intro b;conv=>whnf)|fail
    refine aa5 mixed aa0 (γ:=Nat × Value × aa1) (fun g=>[(137,iD g.1)]) (fun g=>(c,.cells 145 (ckC x w (aa4 x) rm lm g.2.1)) :: (g.2.2 ++ R)) (fun g=>g.1≤(aa4 x).length∧RowIs 135 4 ((L1 ++ L2 ++ upTo g.1 (au8 x w)).map prbC) g.2.1 g.2.2) (fun g=>(aa4 x).length - g.1) (0,v,s) (aa2 cl3) (Sc.refl _) ⟨Nat.zero_le _,by simpa [upTo] using hrow⟩ ?_
    clear hrow
    rintro ⟨q,v,s⟩ ⟨hq,hrow⟩
    simp only at hq hrow ⊢
    by_cases hql:q<(aa4 x).length
    ·obtain ⟨r,hr⟩:∃ r,(aa4 x)[q]?=some r:=⟨_,List.getElem?_eq_getElem hql⟩
     have hr':(aa4 x)[((q:Nat):Int).toNat]?=some r:=hr
     have hrm:=List.mem_of_getElem? hr
     obtain ⟨u1,u2,u3⟩:=hS.up r hrm
     obtain ⟨kd,d,hkd,hd,_⟩:=aI2 hrm
     have hkd':x.kinds[((r.kind:Nat):Int).toNat]?=some kd:=hkd
     have hd':kd.fields[((r.field:Nat):Int).toNat]?=some d:=hd
     have hkf:=hnf kd (List.mem_of_getElem? hkd)
     have hfl:=(List.getElem?_eq_some_iff.1 hd).1
     obtain ⟨lu,hlu⟩:∃ l,w[r.up.toNat]?=some l:=⟨_,List.getElem?_eq_getElem (by omega)⟩
     obtain ⟨l,hl⟩:∃ l,w[r.kind]?=some l:=⟨_,List.getElem?_eq_getElem (by omega)⟩
     have hlul:=hw.nr lu (List.mem_of_getElem? hlu)
     have hll:=hw.nr l (List.mem_of_getElem? hl)
     have hadj:adjR w r=adjL l r.field lu.length:=by unfold adjR;rw [aa6 hl,aa6 hlu]
     have hSQ:=ac4 q (au8 x w)
     have hQP:au8 x w q=upTo lu.length (degP x w r):=by unfold au8;rw [hr];show upTo (w.getD r.up.toNat []).length _=_;rw [aa6 hlu]
     rw [hQP] at hSQ
     have hlen3:(upTo q (au8 x w)).length≤6000000:=by have:=ab9 (aN0 (x:=x) hw) q;omega
     generalize hL3:upTo q (au8 x w)=L3 at *
     obtain ⟨kl,hkl⟩:=bn5 (show (Lit.int .i64 (r.kind:Int)).wf=true from wf64 (by omega) (by omega)) (show (Lit.int .i64 (r.field:Int)).wf=true from wf64 (by omega) (by omega)) (show (Lit.int .i64 r.up).wf=true from wf64 (by omega) (by omega))
     obtain ⟨va,ta,τa,hFv,hRW,hpa⟩:=hA.at hr
     rw [hadj] at hRW
     obtain ⟨aa,ca,rfl⟩:=RowsOf.slice hRW
     rw [ap3] at *
     have om:(rm,Blk.obj (MapO Tryz.prog 147 F))∈R:=by rw [hR];exact List.mem_cons_self
     repeat' first|refine sq5 ?_|(intro b;conv=>whnf)|fail
     refine Ot.yd (ar2 (kv:=lnV r) (u:=.slice aa lu.length ca) rfl rfl (KeyD.agg3 _ _ _) (List.mem_cons_of_mem _ (List.mem_cons_of_mem _ (List.mem_cons_of_mem _ (List.mem_append_right _ om)))) (fun _ h=>h) aI3 Tryz.underlying142 bf1 hkl (by rw [hFv];rfl)) ?_
     repeat' first|refine sq5 ?_|(intro b;conv=>whnf)|fail
     rename_i b18
     refine af2 (i:=19) (d:=.v (.pointer (some ⟨b,0,none⟩))) (d':=.ro (fldC d)) (τ:=(b18,.cells 147 (lnC r)) :: (c,.cells 145 (ckC x w (aa4 x) rm lm v)) :: (s ++ R)) rfl (fun h=>by cases h) (Vs.ptr (tb:=97) (List.Perm.refl _)) ?_
     refine af2 (i:=18) (d:=.v (.pointer (some ⟨b18,0,none⟩))) (d':=.ro (lnC r)) (τ:=(c,.cells 145 (ckC x w (aa4 x) rm lm v)) :: (s ++ R)) rfl (fun h=>by cases h) (Vs.ptr (tb:=147) (List.Perm.refl _)) ?_
     refine aa5 mixed aa0 (γ:=Nat × Value × aa1) (fun g=>[(159,iD g.1)]) (fun g=>(c,.cells 145 (ckC x w (aa4 x) rm lm g.2.1)) :: (g.2.2 ++ R)) (fun g=>g.1≤lu.length∧RowIs 135 4 ((L1 ++ L2 ++ L3 ++ upTo g.1 (degP x w r)).map prbC) g.2.1 g.2.2) (fun g=>lu.length - g.1) (0,v,s) (aa2 cl3) (Sc.refl _) ⟨Nat.zero_le _,by simpa [upTo] using hrow⟩ ?_
     clear hrow
     rintro ⟨j,v,s⟩ ⟨hj,hrow⟩
     simp only at hj hrow ⊢
     by_cases hjl:j<lu.length
     ·obtain ⟨b0,cap0,cs0,u,t,τ,e0,p0,c0,hu,_⟩:=RowsOf.at hRW (aw2 (f:=r.field) l hjl)
      rw [ap3] at e0
      cases e0
      obtain ⟨a1,ca1,rfl⟩:=RowIs.slice hu
      rw [List.length_map] at c0
      have hlen5:=ab9 (aX2 x w r) j
      have hSJ:=ac4 j (degP x w r)
      have hdeg:degE w r j=(idxs l r.field j).length:=by rw [aC5];unfold degE;rw [aa6 hl]
      have hfa:fieldAt x r.kind r.field=some d:=by rw [af7 (by omega) (by omega) (by simpa using hkd)];simpa using hd
      have hJP:degP x w r j=one r.kind j r.field (if ((idxs l r.field j).length:Int)<d.lo∨d.hi<((idxs l r.field j).length:Int) then 11 else 0):=by unfold degP;rw [hfa,hdeg]
      rw [hJP] at hSJ
      generalize (idxs l r.field j).length=m at *
      have mo:(b0,Blk.cells 22 cs0)∈R:=by rw [hR];exact List.mem_cons_of_mem _ (List.mem_cons_of_mem _ (hpa.mem_iff.2 (List.mem_append_left _ (p0.mem_iff.2 List.mem_cons_self))))
      have lds:∀ z:Nat × Blk,(b0,Blk.cells 22 cs0)∈z :: (s ++ R):=fun z=>List.mem_cons_of_mem _ (List.mem_append_right _ mo)
      by_cases h1:(m:Int)<d.lo
      ·rw [if_pos (.inl h1)] at hSJ
       repeat' first|refine sq7 ?_|(intro b;conv=>whnf)|fail
       refine Ld.cellm (tb:=22) (cs:=cs0) (lds _) (by rw [ix1];exact c0) ?_
       ((repeat' (first|refine sq7 ?_|(intro b;conv=>whnf)|fail));(refine ah2 mixed aa0 rfl [0,1,2,3,4,5,6,7,8,9,10,11,12,13,14,15,16,17,18,19] 1 (inE [20]) (.one 20 .done) (γ:=Value × aa1) (fun _=>[]) (fun g=>(c,.cells 145 (ckC x w (aa4 x) rm lm g.1)) :: (g.2 ++ R)) (fun g=>RowIs 135 4 ((L1 ++ L2 ++ L3 ++ upTo (j+1) (degP x w r)).map prbC) g.1 g.2) (by decide +kernel) ?_ ?_))
       ·repeat' first|refine sq7 ?_|(intro b;conv=>whnf)|fail
        (refine CE.own (aq2 x w (aa4 x) rm lm c _ _ _ _ _ _ _ hrow (by (try simp only [List.length_append]);omega)) (List.Perm.refl _) (fun s'=>s' ++ _) (fun s'=>List.Perm.refl _) ?_;rintro _ _ ⟨v',s',rfl,rfl,hr'⟩)
        repeat' first|refine sq7 ?_|(intro b;conv=>whnf)|fail
        exact ⟨(v',s'),(aa2 cl3),Sc.refl _,by rw [hSJ,← List.append_assoc];exact hr'⟩
       ·rintro ⟨v',s'⟩ hr'
        repeat' first|refine sq7 ?_|(intro b;conv=>whnf)|fail
        exact ⟨(j+1,v',s'),(aa2 cl3),Sc.refl _,⟨by simp only;omega,hr'⟩,by simp only;omega⟩
      ·by_cases h2:d.hi<(m:Int)
       ·rw [if_pos (.inr h2)] at hSJ
        repeat' first|refine sq7 ?_|(intro b;conv=>whnf)|fail
        refine Ld.cellm (tb:=22) (cs:=cs0) (lds _) (by rw [ix1];exact c0) ?_
        ((repeat' (first|refine sq7 ?_|(intro b;conv=>whnf)|fail));(refine ah2 mixed aa0 rfl [0,1,2,3,4,5,6,7,8,9,10,11,12,13,14,15,16,17,18,19] 1 (inE [20]) (.one 20 .done) (γ:=Value × aa1) (fun _=>[]) (fun g=>(c,.cells 145 (ckC x w (aa4 x) rm lm g.1)) :: (g.2 ++ R)) (fun g=>RowIs 135 4 ((L1 ++ L2 ++ L3 ++ upTo (j+1) (degP x w r)).map prbC) g.1 g.2) (by decide +kernel) ?_ ?_))
        ·repeat' first|refine sq7 ?_|(intro b;conv=>whnf)|fail
         (refine CE.own (aq2 x w (aa4 x) rm lm c _ _ _ _ _ _ _ hrow (by (try simp only [List.length_append]);omega)) (List.Perm.refl _) (fun s'=>s' ++ _) (fun s'=>List.Perm.refl _) ?_;rintro _ _ ⟨v',s',rfl,rfl,hr'⟩)
         repeat' first|refine sq7 ?_|(intro b;conv=>whnf)|fail
         exact ⟨(v',s'),(aa2 cl3),Sc.refl _,by rw [hSJ,← List.append_assoc];simpa [h2] using hr'⟩
        ·rintro ⟨v',s'⟩ hr'
         repeat' first|refine sq7 ?_|(intro b;conv=>whnf)|fail
         exact ⟨(j+1,v',s'),(aa2 cl3),Sc.refl _,⟨by simp only;omega,hr'⟩,by simp only;omega⟩
       ·rw [if_neg (by omega)] at hSJ
        repeat' first|refine sq7 ?_|(intro b;conv=>whnf)|fail
        refine Ld.cellm (tb:=22) (cs:=cs0) (lds _) (by rw [ix1];exact c0) ?_
        ((repeat' (first|refine sq7 ?_|(intro b;conv=>whnf)|fail));(refine ah2 mixed aa0 rfl [0,1,2,3,4,5,6,7,8,9,10,11,12,13,14,15,16,17,18,19] 1 (inE [20]) (.one 20 .done) (γ:=Value × aa1) (fun _=>[]) (fun g=>(c,.cells 145 (ckC x w (aa4 x) rm lm g.1)) :: (g.2 ++ R)) (fun g=>RowIs 135 4 ((L1 ++ L2 ++ L3 ++ upTo (j+1) (degP x w r)).map prbC) g.1 g.2) (by decide +kernel) ?_ ?_))
        ·repeat' first|refine sq7 ?_|(intro b;conv=>whnf)|fail
         (refine CE.own (aq2 x w (aa4 x) rm lm c _ _ _ _ _ _ _ hrow (by (try simp only [List.length_append]);omega)) (List.Perm.refl _) (fun s'=>s' ++ _) (fun s'=>List.Perm.refl _) ?_;rintro _ _ ⟨v',s',rfl,rfl,hr'⟩)
         repeat' first|refine sq7 ?_|(intro b;conv=>whnf)|fail
         exact ⟨(v',s'),(aa2 cl3),Sc.refl _,by rw [hSJ,← List.append_assoc];simpa [h2] using hr'⟩
        ·rintro ⟨v',s'⟩ hr'
         repeat' first|refine sq7 ?_|(intro b;conv=>whnf)|fail
         exact ⟨(j+1,v',s'),(aa2 cl3),Sc.refl _,⟨by simp only;omega,hr'⟩,by simp only;omega⟩
     ·obtain rfl:j=lu.length:=by omega
      repeat' first|refine sq5 ?_|(intro b;conv=>whnf)|fail
      exact ⟨(q+1,v,s),(aa2 cl3),Sc.refl _,⟨by simp only;omega,by rw [hSQ,← List.append_assoc];exact hrow⟩,by simp only;omega⟩
    ·obtain rfl:q=(aa4 x).length:=by omega
     have hC:ak4 x w=L1 ++ L2 ++ upTo (aa4 x).length (au8 x w):=by unfold ak4;rw [if_pos hfit,hL1,hL2]
     repeat' first|refine sq5 ?_|(intro b;conv=>whnf)|fail
     rw [hC]
     exact Rt.vs (Vs.row hrow (τ:=(c,.cells 145 (ckC x w (aa4 x) rm lm v)) :: R) cl4)
end
end Go.Proofs.YtlcfiilejnnlnaaGreatDoor
namespace Go.Proofs.YtlcfiilejnnlnaaGreatDoor
open Go
inductive Cnd where
 | c0 (op:Int) (path other:List ByteArray) (n:Int)
 | c1 (op:Int) (path other:List ByteArray) (n:Int) (a:Cnd)
 | c2 (op:Int) (path other:List ByteArray) (n:Int) (a b:Cnd)
namespace Cnd
def op:Cnd→Int
 | c0 o ..=>o
 | c1 o ..=>o
 | c2 o ..=>o
def path:Cnd→List ByteArray
 | c0 _ p ..=>p
 | c1 _ p ..=>p
 | c2 _ p ..=>p
def other:Cnd→List ByteArray
 | c0 _ _ p ..=>p
 | c1 _ _ p ..=>p
 | c2 _ _ p ..=>p
def n:Cnd→Int
 | c0 _ _ _ n=>n
 | c1 _ _ _ n _=>n
 | c2 _ _ _ n _ _=>n
def kids:Cnd→List Cnd
 | c0 ..=>[]
 | c1 _ _ _ _ a=>[a]
 | c2 _ _ _ _ a b=>[a,b]
def size:Cnd→Nat
 | c0 ..=>1
 | c1 _ _ _ _ a=>1+a.size
 | c2 _ _ _ _ a b=>1+a.size+b.size
def deep:Cnd→Nat
 | c0 ..=>1
 | c1 _ _ _ _ a=>a.deep+1
 | c2 _ _ _ _ a b=>max a.deep b.deep+1
theorem kids_len (c:Cnd):c.kids.length≤2:=by cases c <;> simp [kids]
theorem kid_size {c k:Cnd} (h:k∈c.kids):k.size<c.size:=by
 cases c with
 | c0=>cases h
 | c1 _ _ _ _ a=>rw [kids,List.mem_singleton] at h;subst h;simp [size]
 | c2 _ _ _ _ a b=>
  rw [kids,List.mem_cons,List.mem_singleton] at h
  rcases h with rfl|rfl <;> simp only [size] <;> omega
theorem deep_le (c:Cnd):c.deep≤c.size:=by
 induction c with
 | c0=>simp [deep,size]
 | c1 _ _ _ _ a ih=>simp only [deep,size];omega
 | c2 _ _ _ _ a b h1 h2=>simp only [deep,size];omega
inductive All (p:Cnd→Prop):Cnd→Prop
 | mk {c:Cnd} (h:p c) (k:∀ a∈c.kids,All p a):All p c
theorem All.one {p:Cnd→Prop} {c:Cnd} (h:All p c):p c:=by cases h;assumption
theorem All.kid {p:Cnd→Prop} {c a:Cnd} (h:All p c) (ha:a∈c.kids):All p a:=by cases h with|mk _ k=>exact k a ha
end Cnd
structure Qry where
 op:Int
 kind:ByteArray
 path:List ByteArray
 cond:Cnd
def aC3 (op:Int):Int:=if op=3 then 1 else if op=4∨op=5 then 2 else 0
def au5 (l:List ByteArray):Bool:=decide (1≤l.length) && decide (l.length≤4) && l.all isNm
def bh9 (c:Cnd):Bool:=
 if c.op=1∨c.op=2 then au5 c.path && (c.other.isEmpty || au5 c.other) && aa7 c.n (-1048576) 1048576 else c.path.isEmpty && c.other.isEmpty && decide (c.n=0)
def bt3 (c:Cnd):Bool:=aa7 c.op 0 5 && decide ((c.kids.length:Int)=aC3 c.op)
def formedB:Cnd→Bool
 | .c0 o p q n=>bt3 (.c0 o p q n) && bh9 (.c0 o p q n)
 | .c1 o p q n a=>bt3 (.c1 o p q n a) && formedB a && bh9 (.c1 o p q n a)
 | .c2 o p q n a b=>bt3 (.c2 o p q n a b) && (formedB a && formedB b) && bh9 (.c2 o p q n a b)
theorem aQ7 (c:Cnd):formedB c=(bt3 c && c.kids.all formedB && bh9 c):=by
 cases c <;> simp [formedB,Cnd.kids]
def aJ8 (c:Cnd):Bool:=decide (c.size≤64) && decide (c.deep≤8)
def aO0 (q:Qry):Bool:=(aa7 q.op 1 3 && au5 q.path || decide (q.op=0) && q.path.isEmpty) && isNm q.kind && formedB q.cond
def cw5:Knd:=⟨ByteArray.empty,0,0,[]⟩
def kdOf (x:Sch) (k:Nat):Knd:=(x.kinds[k]?).getD cw5
def al3 (x:Sch) (k:Nat) (s:ByteArray):Int:=
 match (if 0≤aa3 (kdOf x k) s then (kdOf x k).fields[(aa3 (kdOf x k) s).toNat]? else none) with
 | some f=>if f.kind=1 then upIx x k (aa3 (kdOf x k) s) else -1
 | none=>-1
def ai4 (x:Sch):Nat→List ByteArray→Bool
 | _,[]=>true
 | k,[s]=>decide (0≤aa3 (kdOf x k) s)
 | k,s :: t :: l=>decide (0≤al3 x k s) && ai4 x (al3 x k s).toNat (t :: l)
def aE9 (x:Sch):Nat→List ByteArray→List (Int × Int)
 | _,[]=>[]
 | k,[s]=>[(aa3 (kdOf x k) s,-1)]
 | k,s :: t :: l=>(aa3 (kdOf x k) s,al3 x k s) :: aE9 x (al3 x k s).toNat (t :: l)
def leadsB (x:Sch) (k:Nat):Cnd→Bool
 | .c0 _ p q _=>ai4 x k p && ai4 x k q
 | .c1 _ p q _ a=>ai4 x k p && ai4 x k q && leadsB x k a
 | .c2 _ p q _ a b=>ai4 x k p && ai4 x k q && (leadsB x k a && leadsB x k b)
theorem bb6 (x:Sch) (k:Nat) (c:Cnd):leadsB x k c=(ai4 x k c.path && ai4 x k c.other && c.kids.all (leadsB x k)):=by
 cases c <;> simp [leadsB,Cnd.kids,Cnd.path,Cnd.other]
def az2 (x:Sch) (q:Qry):Int:=
 if aJ8 q.cond=false then 4 else if aO0 q=false then 1 else if ab1 x q.kind<0 then 12
 else if ai4 x (ab1 x q.kind).toNat q.path && leadsB x (ab1 x q.kind).toNat q.cond then 0 else 12
def endV (x:Sch) (w:Wd):Nat→List Int→List ByteArray→Int
 | _,_,[]=>0
 | k,r,[s]=>vatR r (aa3 (kdOf x k) s)
 | k,r,s :: t :: l=>endV x w (al3 x k s).toNat (aK9 w (al3 x k s).toNat (vatR r (aa3 (kdOf x k) s)).toNat) (t :: l)
def holdV (x:Sch) (w:Wd) (k:Nat) (r:List Int):Cnd→Bool
 | .c0 o p q n=>if o=1 then decide (endV x w k r p=(if q=[] then 0 else endV x w k r q)+n) else if o=2 then decide (endV x w k r p<(if q=[] then 0 else endV x w k r q)+n) else true
 | .c1 o p q n a=>if o=1 then decide (endV x w k r p=(if q=[] then 0 else endV x w k r q)+n) else if o=2 then decide (endV x w k r p<(if q=[] then 0 else endV x w k r q)+n) else if o=3 then !holdV x w k r a else true
 | .c2 o p q n a b=>if o=1 then decide (endV x w k r p=(if q=[] then 0 else endV x w k r q)+n) else if o=2 then decide (endV x w k r p<(if q=[] then 0 else endV x w k r q)+n) else if o=3 then !holdV x w k r a else if o=4 then holdV x w k r a && holdV x w k r b else if o=5 then holdV x w k r a || holdV x w k r b else true
def aS6 (x:Sch) (w:Wd) (k:Nat) (q:Qry):List Int:=((w.getD k []).filter fun r=>holdV x w k r q.cond).map fun r=>if q.op=0 then 1 else endV x w k r q.path
def ay1 (q:Qry) (l:List Int):Int × Bool:=
 if q.op=0∨q.op=1 then (l.sum,true) else if l=[] then (0,false) else if q.op=2 then (l.foldl min (l.headD 0),true) else (l.foldl max (l.headD 0),true)
def ao8 (x:Sch) (w:Wd) (q:Qry):Int × Bool × Int:=
 if fitW x w=false then (0,false,2) else if az2 x q≠0 then (0,false,az2 x q) else ((ay1 q (aS6 x w (ab1 x q.kind).toNat q)).1,(ay1 q (aS6 x w (ab1 x q.kind).toNat q)).2,0)
end Go.Proofs.YtlcfiilejnnlnaaGreatDoor
namespace Go.Proofs.YtlcfiilejnnlnaaGreatDoor
section
open Go
theorem ai7 (n a b:Int):APure Tryz.prog 173 [iD n,iD a,iD b] (bD (aa7 n a b)):=by
 refine eP7 Tryz.func173 Tryz.ntmps173 fun BB=>?_
 repeat' first|refine sk2 ?_|(intro b;conv=>whnf)|(with_reducible refine Br.d (fun hc=>?_) (fun hc=>?_))|(with_reducible refine Br.b (fun hc=>?_) (fun hc=>?_))
 all_goals (refine Rt.pure (congrArg bD ?_);first|(simp [aa7, *];done)|(simp [aa7];omega))
theorem ay4 (lo hi a b:Int):APure Tryz.prog 211 [iD lo,iD hi,iD a,iD b] (bD (an9 lo hi a b)):=by
 refine eP7 Tryz.func211 Tryz.ntmps211 fun BB=>?_
 repeat' first|refine sk2 ?_|(intro b;conv=>whnf)|(with_reducible refine Br.d (fun hc=>?_) (fun hc=>?_))|(with_reducible refine Br.b (fun hc=>?_) (fun hc=>?_))
 all_goals (refine Rt.pure (congrArg bD ?_);first|(simp [an9, *];done)|(simp [an9];omega))
theorem aP9 (c:UInt8):APure Tryz.prog 242 [.v (.int .u8 c.toNat)] (bD (an7 c)):=by
 refine eP7 Tryz.func242 Tryz.ntmps242 fun BB=>?_
 repeat' first|refine sk2 ?_|(intro b;conv=>whnf)|(with_reducible refine Br.d (fun hc=>?_) (fun hc=>?_))|(with_reducible refine Br.b (fun hc=>?_) (fun hc=>?_))
 all_goals (refine Rt.pure (congrArg bD ?_);first|(simp [an7, *];done)|(simp [an7];omega))
theorem ba3 (c:UInt8):APure Tryz.prog 243 [.v (.int .u8 c.toNat)] (bD (aX1 c)):=by
 refine eP7 Tryz.func243 Tryz.ntmps243 fun BB=>?_
 repeat' first|refine sk2 ?_|(intro b;conv=>whnf)|(with_reducible refine Br.d (fun hc=>?_) (fun hc=>?_))|(with_reducible refine Br.b (fun hc=>?_) (fun hc=>?_))
 all_goals (refine Rt.pure (congrArg bD ?_);first|(simp [aX1, *];done)|(simp [aX1];omega))
theorem ap2 {α:Type} {p:α→Bool} {l:List α} {q:Nat} {y:α} (hy:l[q]?=some y) (h:p y=false):l.all p=false:=by
 rw [List.all_eq_false];exact ⟨y,List.mem_of_getElem? hy,by simp [h]⟩
theorem aw1 {α:Type} {p:α→Bool} {l:List α} (h:∀ (m:Nat) y,m<l.length→l[m]?=some y→p y=true):l.all p=true:=by
 rw [List.all_eq_true]
 intro y hy
 obtain ⟨m,hm⟩:=List.getElem?_of_mem hy
 exact h m y (List.getElem?_eq_some_iff.1 hm).1 hm
theorem aA7 {α:Type} {p:α→Bool} {l:List α} {q:Nat} {y:α} (hno:∀ (m:Nat) y,m<q→l[m]?=some y→p y=true) (hy:l[q]?=some y) (h:p y=true):∀ (m:Nat) y,m<q+1→l[m]?=some y→p y=true:=by
 intro m z hm hz
 by_cases e:m=q
 ·subst e;rw [hy] at hz;cases hz;exact h
 ·exact hno m z (by omega) hz
theorem ar3 (s:ByteArray):(bytes s).length=s.size:=by unfold bytes;simp
theorem sk62 {A B:Prop} (k:B) (h:Hd7 B→A:=by intro hk7q;(first|refine sb0 ?_|refine sb1 ?_|((with_reducible refine' Cp.by ?hc ?_);(case hc=>first|exact aP9 _|exact ba3 _|exact ai7 _ _ _|exact ay4 _ _ _ _))|((with_reducible refine' CE.pure ?hc ?_);(case hc=>first|exact aP9 _|exact ba3 _|exact ai7 _ _ _|exact ay4 _ _ _ _)));exact hk7q.run):A:=h ⟨k⟩
theorem al9 (s:ByteArray):APure Tryz.prog 210 [sD s] (bD (isNm s)):=by
 refine eP7 Tryz.func210 Tryz.ntmps210 fun BB=>?_
 by_cases hs:1≤s.size∧s.size≤12
 ·have hw:aa7 s.size 1 12=true:=by simp [aa7];omega
  have h0:0<(bytes s).length:=by rw [ar3];omega
  obtain ⟨c,hc0⟩:∃ c,(bytes s)[(0:Int).toNat]?=some c:=⟨_,List.getElem?_eq_getElem h0⟩
  have hN:isNm s=(an7 c && (bytes s).all alnum):=by
   unfold isNm
   rw [hw]
   have hc1:(bytes s)[0]?=some c:=hc0
   cases hb:bytes s with
   | nil=>rw [hb] at h0;simp at h0
   | cons d r=>rw [hb] at hc1;simp at hc1;subst hc1;simp
  cases hlet:an7 c with
  | false=>
   repeat' first|refine sk62 ?_|(intro b;conv=>whnf)|(with_reducible refine Br.d (fun hc=>?_) (fun hc=>?_))|(with_reducible refine Br.b (fun hc=>?_) (fun hc=>?_))
   all_goals (refine Rt.pure (congrArg bD ?_);rw [hN,hlet];rfl)
  | true=>
   repeat' first|refine sk62 ?_|(intro b;conv=>whnf)|(with_reducible refine Br.d (fun hc=>?_) (fun hc=>?_))|(with_reducible refine Br.b (fun hc=>?_) (fun hc=>?_))
   refine ae2 mixed aa0 (γ:=Nat) (fun g=>[(3,iD g)]) (fun _=>[]) (fun q=>q≤s.size∧∀ (m:Nat) y,m<q→(bytes s)[m]?=some y→alnum y=true) (fun q=>s.size - q) 0 rfl rfl ⟨by omega,fun m y hm=>by omega⟩ ?_
   rintro q ⟨hq,hno⟩
   by_cases hlt:q<s.size
   ·obtain ⟨y,hy⟩:∃ y,(bytes s)[(q:Int).toNat]?=some y:=⟨_,List.getElem?_eq_getElem (by rw [ar3];simpa using hlt)⟩
    have hy':(bytes s)[q]?=some y:=hy
    repeat' first|refine sk62 ?_|(intro b;conv=>whnf)|(with_reducible refine Br.d (fun hc=>?_) (fun hc=>?_))|(with_reducible refine Br.b (fun hc=>?_) (fun hc=>?_))
    all_goals first
     | exact ⟨q+1,rfl,rfl,⟨by omega,aA7 hno hy' (by simp [alnum, *])⟩,by omega⟩
     | (refine Rt.pure (congrArg bD ?_);rw [hN,ap2 hy' (by simp [alnum, *]),Bool.and_false])
   ·repeat' first|refine sk62 ?_|(intro b;conv=>whnf)|(with_reducible refine Br.d (fun hc=>?_) (fun hc=>?_))|(with_reducible refine Br.b (fun hc=>?_) (fun hc=>?_))
    refine Rt.pure (congrArg bD ?_)
    rw [hN,hlet,aw1 (fun m y hm hy=>hno m y (by rw [ar3] at hm;omega) hy)];rfl
 ·have hN:isNm s=false:=by
   have hw:aa7 s.size 1 12=false:=by simp [aa7];omega
   unfold isNm;rw [hw];simp
  repeat' first|refine sk62 ?_|(intro b;conv=>whnf)|(with_reducible refine Br.d (fun hc=>?_) (fun hc=>?_))|(with_reducible refine Br.b (fun hc=>?_) (fun hc=>?_))
  all_goals first|(exfalso;omega)|(refine Rt.pure (congrArg bD ?_);exact hN.symm)
theorem sk63 {A B:Prop} (k:B) (h:Hd7 B→A:=by intro hk7q;(first|refine sb0 ?_|refine sb1 ?_|((with_reducible refine' Cp.by ?hc ?_);(case hc=>exact al9 _))|((with_reducible refine' CE.pure ?hc ?_);(case hc=>exact al9 _)));exact hk7q.run):A:=h ⟨k⟩
theorem aB2 (l:List ByteArray) (hl:l.length≤1000000):APure Tryz.prog 213 [slS l] (bD (l.all isNm)):=by
 refine eP7 Tryz.func213 Tryz.ntmps213 fun BB=>?_
 repeat' first|refine sk63 ?_|(intro b;conv=>whnf)|refine IxM.mk fun y hy=>?_
 refine ae2 mixed aa0 (γ:=Nat) (fun g=>[(3,iD g)]) (fun _=>[]) (fun q=>q≤l.length∧∀ (m:Nat) y,m<q→l[m]?=some y→isNm y=true) (fun q=>l.length - q) 0 rfl rfl ⟨by omega,fun m y hm=>by omega⟩ ?_
 rintro q ⟨hq,hno⟩
 repeat' first|refine sk63 ?_|(intro b;conv=>whnf)|refine IxM.mk fun y hy=>?_|(with_reducible refine Br.d (fun hc=>?_) (fun hc=>?_))|(with_reducible refine Br.b (fun hc=>?_) (fun hc=>?_))
 ·exact ⟨q+1,rfl,rfl,⟨by omega,aA7 hno hy (by assumption)⟩,by omega⟩
 ·refine Rt.pure (congrArg bD ?_);rw [ap2 hy (by assumption)]
 ·refine Rt.pure (congrArg bD ?_)
  rw [aw1 (fun m y hm hy=>hno m y (by omega) hy)]
def bY3 (k:Int):D:=.tup [bD (ag7 k),bD (ag6 k),bD (ag8 k),bD (ag3 k),bD (ag2 k)]
theorem ap0 (k:Int):APure Tryz.prog 244 [iD k] (bY3 k):=by
 refine eP7 Tryz.func244 Tryz.ntmps244 fun BB=>?_
 by_cases h:k=0∨k=1∨k=2∨k=3∨k=4∨k=5∨k=6∨k=7∨k=8
 ·rcases h with h|h|h|h|h|h|h|h|h
  all_goals
   repeat' first|refine sk63 ?_|(intro b;conv=>whnf)
   refine Rt.pure ?_
   subst h;rfl
 ·have n0:¬ k=0:=by omega
  have n1:¬ k=1:=by omega
  have n2:¬ k=2:=by omega
  have n3:¬ k=3:=by omega
  have n4:¬ k=4:=by omega
  have n5:¬ k=5:=by omega
  have n6:¬ k=6:=by omega
  have n7:¬ k=7:=by omega
  have n8:¬ k=8:=by omega
  repeat' first|refine sk63 ?_|(intro b;conv=>whnf)
  refine Rt.pure ?_
  show D.tup [bD (decide (k=8)),bD (decide (k=8)),bD (decide (k=0)),bD (decide (k=7)),bD (decide (k=3))]=_
  simp [bY3,ag7,ag6,ag8,ag3,ag2,n0,n1,n2,n3,n4,n5,n6,n7,n8]
theorem sk64 {A B:Prop} (k:B) (h:Hd7 B→A:=by intro hk7q;(first|refine sb0 ?_|refine sb1 ?_|((with_reducible refine' Cp.by ?hc ?_);(case hc=>first|exact ai7 _ _ _|exact aB2 _ (by assumption)))|((with_reducible refine' CE.pure ?hc ?_);(case hc=>first|exact ai7 _ _ _|exact aB2 _ (by assumption))));exact hk7q.run):A:=h ⟨k⟩
theorem aQ0 (f:Fld) (hw:f.words.length≤1000000) (hg:f.weights.length≤1000000):APure Tryz.prog 245 [fldD f] (bD (ae7 f.words f.weights)):=by
 refine eP7 Tryz.func245 Tryz.ntmps245 fun BB=>?_
 repeat' first|refine sk64 ?_|(intro b;conv=>whnf)
 refine ae2 mixed aa0 (γ:=Nat × Int) (fun g=>[(3,iD g.2),(4,iD g.1)]) (fun _=>[]) (fun g=>g.1≤f.weights.length∧g.2=(f.weights.take g.1).sum∧(∀ (m:Nat) y,m<g.1→f.weights[m]?=some y→aa7 y 0 1048576=true)∧0≤g.2∧g.2≤1048576*g.1) (fun g=>f.weights.length - g.1) (0,0) rfl rfl ⟨by omega,by simp,fun m y hm=>by omega,by simp,by simp⟩ ?_
 rintro ⟨q,u⟩ ⟨hq,hu,hno,hs0,hs1⟩
 simp only at hq hu hno hs0 hs1 ⊢
 by_cases hlt:q<f.weights.length
 ·obtain ⟨y,hy⟩:∃ y,f.weights[q]?=some y:=⟨_,List.getElem?_eq_getElem hlt⟩
  have hsum:(f.weights.take (q+1)).sum=(f.weights.take q).sum+y:=by
   rw [List.take_add_one,hy];simp
  cases h1:aa7 y 0 1048576 with
  | true=>
   have hy1:0≤y∧y≤1048576:=by simpa [aa7] using h1
   repeat' first|refine sk64 ?_|(intro b;conv=>whnf)|(with_reducible refine Br.d (fun hc=>?_) (fun hc=>?_))|(with_reducible refine Br.b (fun hc=>?_) (fun hc=>?_))
   exact ⟨(q+1,u+y),rfl,rfl,⟨by simp only;omega,by simp only;omega,aA7 hno hy h1,by simp only;omega,by simp only;omega⟩,by simp only;omega⟩
  | false=>
   repeat' first|refine sk64 ?_|(intro b;conv=>whnf)|(with_reducible refine Br.d (fun hc=>?_) (fun hc=>?_))|(with_reducible refine Br.b (fun hc=>?_) (fun hc=>?_))
   all_goals (refine Rt.pure (congrArg bD ?_);simp only [ae7,ap2 (p:=fun n=>aa7 n 0 1048576) hy h1];simp)
 ·obtain rfl:q=f.weights.length:=by omega
  have hall:f.weights.all (fun n=>aa7 n 0 1048576)=true:=aw1 hno
  rw [List.take_length] at hu
  have hB:ae7 f.words f.weights=(aa7 f.words.length 1 12 && decide (f.words.length=f.weights.length) && decide (0<f.weights.sum) && f.words.all isNm):=by simp [ae7,hall]
  rw [← hu] at hB
  clear hu hno hs0 hs1 hall hq hlt
  by_cases e2:f.words.length=f.weights.length
  ·by_cases e3:0<u
   ·repeat' first|refine sk64 ?_|(intro b;conv=>whnf)|(with_reducible refine Br.d (fun hc=>?_) (fun hc=>?_))|(with_reducible refine Br.b (fun hc=>?_) (fun hc=>?_))
    all_goals (refine Rt.pure (congrArg bD ?_);rw [hB];simp_all)
   ·rw [decide_eq_false e3] at hB
    repeat' first|refine sk64 ?_|(intro b;conv=>whnf)|(with_reducible refine Br.d (fun hc=>?_) (fun hc=>?_))|(with_reducible refine Br.b (fun hc=>?_) (fun hc=>?_))
    all_goals (refine Rt.pure (congrArg bD ?_);rw [hB];simp)
  ·repeat' first|refine sk64 ?_|(intro b;conv=>whnf)|(with_reducible refine Br.d (fun hc=>?_) (fun hc=>?_))|(with_reducible refine Br.b (fun hc=>?_) (fun hc=>?_))
   all_goals (refine Rt.pure (congrArg bD ?_);rw [hB,decide_eq_false e2];simp)
end
section
open Go
def bc0:Cnd→List (List D)
 | .c0 ..=>[]
 | .c1 _ _ _ _ a=>[[iD a.op,.sl 5 (bc0 a),slS a.path,slS a.other,iD a.n]]
 | .c2 _ _ _ _ a b=>[[iD a.op,.sl 5 (bc0 a),slS a.path,slS a.other,iD a.n],[iD b.op,.sl 5 (bc0 b),slS b.path,slS b.other,iD b.n]]
def cndC (c:Cnd):List D:=[iD c.op,.sl 5 (bc0 c),slS c.path,slS c.other,iD c.n]
abbrev cndD (c:Cnd):D:=.agg (cndC c)
theorem ay7 (c:Cnd):bc0 c=c.kids.map cndC:=by cases c <;> rfl
def slC (l:List Cnd):D:=.sl 5 (l.map cndC)
def qryC (q:Qry):List D:=[iD q.op,sD q.kind,slS q.path,iD q.cond.op,.sl 5 (bc0 q.cond),slS q.cond.path,slS q.cond.other,iD q.cond.n]
abbrev qryD (q:Qry):D:=.agg (qryC q)
theorem bm9 (s:ByteArray):APure Tryz.prog 156 [sD s] (bD (isNm s)):=by
 refine eP7 Tryz.func156 Tryz.ntmps156 fun BB=>?_
 by_cases hs:1≤s.size∧s.size≤12
 ·have hw:aa7 s.size 1 12=true:=by simp [aa7];omega
  have h0:0<(bytes s).length:=by rw [ar3];omega
  obtain ⟨c,hc0⟩:∃ c,(bytes s)[(0:Int).toNat]?=some c:=⟨_,List.getElem?_eq_getElem h0⟩
  have hN:isNm s=(an7 c && (bytes s).all alnum):=by
   unfold isNm
   rw [hw]
   have hc1:(bytes s)[0]?=some c:=hc0
   cases hb:bytes s with
   | nil=>rw [hb] at h0;simp at h0
   | cons d r=>rw [hb] at hc1;simp at hc1;subst hc1;simp
  by_cases hl:(c.toNat:Int)<97
  ·have hlet:an7 c=false:=by unfold an7;simp;omega
   repeat' first|refine sk2 ?_|(intro b;conv=>whnf)|(with_reducible refine Br.d (fun hc=>?_) (fun hc=>?_))|(with_reducible refine Br.b (fun hc=>?_) (fun hc=>?_))
   all_goals (refine Rt.pure (congrArg bD ?_);rw [hN,hlet];rfl)
  ·repeat' first|refine sk2 ?_|(intro b;conv=>whnf)|(with_reducible refine Br.d (fun hc=>?_) (fun hc=>?_))|(with_reducible refine Br.b (fun hc=>?_) (fun hc=>?_))
   refine ae2 mixed aa0 (γ:=Nat) (fun g=>[(20,iD g)]) (fun _=>[]) (fun q=>q≤s.size∧∀ (m:Nat) y,m<q→(bytes s)[m]?=some y→alnum y=true) (fun q=>s.size - q) 0 rfl rfl ⟨by omega,fun m y hm=>by omega⟩ ?_
   rintro q ⟨hq,hno⟩
   by_cases hql:q<s.size
   ·obtain ⟨y,hy0⟩:∃ y,(bytes s)[q]?=some y:=⟨_,List.getElem?_eq_getElem (by rw [ar3];omega)⟩
    have hy:(bytes s)[((q:Nat):Int).toNat]?=some y:=hy0
    cases ha:alnum y with
    | true=>
     have h2:=aA7 hno hy0 ha
     repeat' first|refine sk2 ?_|(intro b;conv=>whnf)|(with_reducible refine Br.d (fun hc=>?_) (fun hc=>?_))|(with_reducible refine Br.b (fun hc=>?_) (fun hc=>?_))
     all_goals first
      | exact ⟨q+1,rfl,rfl,⟨by omega,h2⟩,by omega⟩
      | (exfalso;simp [alnum,an7,aX1] at ha;omega)
    | false=>
     repeat' first|refine sk2 ?_|(intro b;conv=>whnf)|(with_reducible refine Br.d (fun hc=>?_) (fun hc=>?_))|(with_reducible refine Br.b (fun hc=>?_) (fun hc=>?_))
     all_goals first
      | (refine Rt.pure (congrArg bD ?_);rw [hN,ap2 hy0 ha,Bool.and_false])
      | (exfalso;simp [alnum,an7,aX1] at ha;omega)
   ·obtain rfl:q=s.size:=by omega
    repeat' first|refine sk2 ?_|(intro b;conv=>whnf)|(with_reducible refine Br.d (fun hc=>?_) (fun hc=>?_))|(with_reducible refine Br.b (fun hc=>?_) (fun hc=>?_))
    refine Rt.pure (congrArg bD ?_)
    have hall:(bytes s).all alnum=true:=aw1 fun m y hm hy=>hno m y (by rw [ar3] at hm;omega) hy
    have hc2:alnum c=true:=List.all_eq_true.1 hall c (List.mem_of_getElem? hc0)
    have hlet:an7 c=true:=by
     simp [alnum,an7,aX1] at hc2 ⊢;omega
    rw [hN,hall,hlet];rfl
 ·have hw:aa7 s.size 1 12=false:=by simp [aa7];omega
  have hN:isNm s=false:=by unfold isNm;rw [hw];rfl
  repeat' first|refine sk2 ?_|(intro b;conv=>whnf)|(with_reducible refine Br.d (fun hc=>?_) (fun hc=>?_))|(with_reducible refine Br.b (fun hc=>?_) (fun hc=>?_))
  all_goals (refine Rt.pure (congrArg bD ?_);rw [hN])
theorem bD2 {f:FuncId} (l:List ByteArray) (p:ByteArray→Bool) (hl:l.length≤1000000) (hp:∀ y∈l,APure Tryz.prog f [sD y] (bD (p y))):APure Tryz.prog 238 [slS l,.v (.func (.func f) #[] #[])] (iD (idx p l)):=by
 refine eP7 Tryz.func238 Tryz.ntmps238 fun BB=>?_
 repeat' first|refine sk5 ?_|(intro b;conv=>whnf)
 refine ae2 mixed aa0 (γ:=Nat) (fun k=>[(8,iD k)]) (fun _=>[]) (fun k=>k≤l.length∧∀ i y,i<k→l[i]?=some y→p y=false) (fun k=>l.length - k) 0 rfl rfl ⟨by omega,by omega⟩ ?_
 rintro k ⟨hk,hno⟩
 by_cases hlt:k<l.length
 ·obtain ⟨y,hy⟩:∃ y,l[(k:Int).toNat]?=some y:=⟨_,List.getElem?_eq_getElem hlt⟩
  repeat' first|refine sk5 ?_|(intro b;conv=>whnf)|(with_reducible refine Br.d (fun hc=>?_) (fun hc=>?_))|(with_reducible refine Br.b (fun hc=>?_) (fun hc=>?_))
  ·refine Rt.pure (congrArg iD ?_)
   exact (ac5 hy ‹_› hno).symm
  ·exact ⟨k+1,rfl,rfl,⟨by omega,fun i z hi hz=>by
    by_cases e:i=k
    ·subst e;rw [show ((i:Int)).toNat=i from rfl,hz] at hy;cases hy;assumption
    ·exact hno i z (by omega) hz⟩,by omega⟩
 ·repeat' first|refine sk5 ?_|(intro b;conv=>whnf)
  refine Rt.pure (congrArg iD ?_)
  exact (ag5 fun i y hy=>hno i y (by have:=(List.getElem?_eq_some_iff.1 hy).1;omega) hy).symm
theorem sk65 {A B:Prop} (k:B) (h:Hd7 B→A:=by intro hk7q;(first|refine sb0 ?_|refine sb1 ?_|((with_reducible refine' Cp.by ?hc ?_);(case hc=>exact bD2 l p hl hp))|((with_reducible refine' CE.pure ?hc ?_);(case hc=>exact bD2 l p hl hp)));exact hk7q.run):A:=h ⟨k⟩
theorem bq0 {f:FuncId} (l:List ByteArray) (p:ByteArray→Bool) (hl:l.length≤1000000) (hp:∀ y∈l,APure Tryz.prog f [sD y] (bD (p y))):APure Tryz.prog 200 [slS l,.v (.func (.func f) #[] #[])] (bD (l.any p)):=by
 refine eP7 Tryz.func200 Tryz.ntmps200 fun BB=>?_
 repeat' first|refine sk65 ?_|(intro b;conv=>whnf)
 refine Rt.pure (congrArg bD ?_)
 exact ai2 p l
theorem sk66 {A B:Prop} (k:B) (h:Hd7 B→A:=by intro hk7q;(first|refine sb0 ?_|refine sb1 ?_|((with_reducible refine' Cp.by ?hc ?_);(case hc=>exact bm9 _))|((with_reducible refine' CE.pure ?hc ?_);(case hc=>exact bm9 _)));exact hk7q.run):A:=h ⟨k⟩
theorem bz3 (s:ByteArray):APure Tryz.prog 201 [sD s] (bD (!isNm s)):=by
 refine eP7 Tryz.func201 Tryz.ntmps201 fun BB=>?_
 repeat' first|refine sk66 ?_|(intro b;conv=>whnf)
 refine Rt.pure (congrArg bD ?_);rfl
theorem cg9 {α:Type} (p:α→Bool) (l:List α):(!l.any fun a=>!p a)=l.all p:=by rw [List.all_eq_not_any_not]
theorem sk67 {A B:Prop} (k:B) (h:Hd7 B→A:=by intro hk7q;(first|refine sb0 ?_|refine sb1 ?_|((with_reducible refine' Cp.by ?hc ?_);(case hc=>exact bq0 _ _ (by omega) (fun y _=>bz3 y)))|((with_reducible refine' CE.pure ?hc ?_);(case hc=>exact bq0 _ _ (by omega) (fun y _=>bz3 y))));exact hk7q.run):A:=h ⟨k⟩
theorem bm7 (l:List ByteArray) (hl:l.length≤1000000):APure Tryz.prog 155 [slS l] (bD (au5 l)):=by
 refine eP7 Tryz.func155 Tryz.ntmps155 fun BB=>?_
 by_cases h:1≤l.length∧l.length≤4
 ·repeat' first|refine sk67 ?_|(intro b;conv=>whnf)|(with_reducible refine Br.d (fun hc=>?_) (fun hc=>?_))|(with_reducible refine Br.b (fun hc=>?_) (fun hc=>?_))
  refine Rt.pure (congrArg bD ?_)
  unfold au5
  rw [cg9,decide_eq_true h.1,decide_eq_true h.2];rfl
 ·have hN:au5 l=false:=by unfold au5;simp only [Bool.and_eq_false_iff,decide_eq_false_iff_not];omega
  repeat' first|refine sk67 ?_|(intro b;conv=>whnf)|(with_reducible refine Br.d (fun hc=>?_) (fun hc=>?_))|(with_reducible refine Br.b (fun hc=>?_) (fun hc=>?_))
  all_goals (refine Rt.pure (congrArg bD ?_);rw [hN])
theorem bm8 (n:Int):APure Tryz.prog 203 [iD n] (bD (aa7 n (-1048576) 1048576)):=by
 refine eP7 Tryz.func203 Tryz.ntmps203 fun BB=>?_
 repeat' first|refine sk67 ?_|(intro b;conv=>whnf)|(with_reducible refine Br.d (fun hc=>?_) (fun hc=>?_))|(with_reducible refine Br.b (fun hc=>?_) (fun hc=>?_))
 all_goals (refine Rt.pure (congrArg bD ?_);first|(simp [aa7, *];done)|(simp [aa7];omega))
theorem aT3 {c:Cnd} (h:c.size≤1000000):c.deep≤1000000:=Nat.le_trans c.deep_le h
def aH1 (l:List Cnd):Nat:=(l.map Cnd.size).sum
def bs6 (l:List Cnd):Nat:=l.foldl (fun m c=>max m c.deep) 0
theorem bs4 {l:List Cnd} {j:Nat} {y:Cnd} (h:l[j]?=some y):aH1 (l.take (j+1))=aH1 (l.take j)+y.size:=by
 unfold aH1;rw [List.take_add_one,h];simp
theorem bs5 {l:List Cnd} {j:Nat} {y:Cnd} (h:l[j]?=some y):bs6 (l.take (j+1))=max (bs6 (l.take j)) y.deep:=by
 unfold bs6;rw [List.take_add_one,h];simp
theorem bO1 (l:List Cnd) (j:Nat):aH1 (l.take j)≤aH1 l:=by
 have h:aH1 l=aH1 (l.take j)+aH1 (l.drop j):=by unfold aH1;rw [← List.sum_append,← List.map_append,List.take_append_drop]
 omega
theorem ar6 (c:Cnd):c.size=1+aH1 c.kids:=by cases c <;> simp [Cnd.size,Cnd.kids,aH1];omega
theorem bF5 (c:Cnd):c.deep=bs6 c.kids+1:=by cases c <;> simp [Cnd.deep,Cnd.kids,bs6]
theorem sk68 {A B:Prop} (k:B) (h:Hd7 B→A:=by intro hk7q;(first|refine sb0 ?_|refine sb1 ?_|((with_reducible refine' Cp.by ?hc ?_);(case hc=>exact HI))|((with_reducible refine' CE.pure ?hc ?_);(case hc=>exact HI)));exact hk7q.run):A:=h ⟨k⟩
theorem bz1:∀ (m:Nat) (c:Cnd),c.size≤m→m≤1000000→APure Tryz.prog 154 [cndD c] (.tup [iD c.size,iD c.deep])
 | 0,c,h,_=>by rw [ar6] at h;omega
 | m+1,c,h,hm=>by
  have hk:=c.kids_len
  have hs:=ar6 c
  have hd:=bF5 c
  have hdb:=aT3 (c:=c) (by omega)
  unfold cndD cndC
  rw [ay7 c]
  refine eP7 Tryz.func154 Tryz.ntmps154 fun BB=>?_
  repeat' first|refine sk68 ?_|(intro b;conv=>whnf)
  refine af0 mixed aa0 (γ:=Nat) (fun i=>[(4,iD ((1+aH1 (c.kids.take i):Nat):Int)),(5,iD ((bs6 (c.kids.take i):Nat):Int)),(13,iD i)]) (fun _=>[]) (fun i=>i≤c.kids.length) (fun i=>c.kids.length - i) 0 (aa2 cl3) cl2 (Nat.zero_le _) ?_
  intro i hi
  by_cases hil:i<c.kids.length
  ·obtain ⟨y,hy0⟩:∃ y,c.kids[i]?=some y:=⟨_,List.getElem?_eq_getElem hil⟩
   have hy:c.kids[((i:Nat):Int).toNat]?=some y:=hy0
   have hyl:=Cnd.kid_size (List.mem_of_getElem? hy0)
   have HI:=bz1 m y (by omega) (by omega)
   have e1:=bs4 hy0
   have e2:=bs5 hy0
   have hb:=aT3 (c:=y) (by omega)
   have hb2:=bO1 c.kids i
   repeat' first|refine sk68 ?_|(intro b;conv=>whnf)
   exact ⟨i+1,(aa2 cl6),cl2,by omega,by omega⟩
  ·obtain rfl:i=c.kids.length:=by omega
   rw [List.take_length]
   repeat' first|refine sk68 ?_|(intro b;conv=>whnf)
   refine Rt.pure ?_
   rw [hs,hd];rfl
end
section
open Go
def I64n (n:Int):Prop:=-9223372036854775808≤n∧n≤9223372036854775807
def posN (a:Int):Int:=if a<0 then -(a+1) else a
def arE (a n:Int):Int:=if n<1 then 0 else (posN a).tmod n
def atE (xs:List Int) (i n:Int):Int:=if i<0∨xs.length≤i then 0 else arE (xs.getD i.toNat 0) n
theorem bX2 (a n:Int):0≤arE a n∧(1≤n→arE a n<n)∧(n<1→arE a n=0):=by
 unfold arE
 have hp:0≤posN a:=by unfold posN;split <;> omega
 split
 ·exact ⟨by omega,fun h=>by omega,fun _=>rfl⟩
 ·refine ⟨Int.tmod_nonneg _ hp,fun h=>Int.tmod_lt_of_pos _ (by omega),fun h=>by omega⟩
theorem ac6 (xs:List Int) (i n:Int):0≤atE xs i n∧(1≤n→atE xs i n<n):=by
 unfold atE
 split
 ·exact ⟨by omega,fun h=>by omega⟩
 ·have:=bX2 (xs.getD i.toNat 0) n
  exact ⟨this.1,this.2.1⟩
theorem aQ1 (a n:Int) (ha:I64n a):APure Tryz.prog 17 [iD a,iD n] (iD (arE a n)):=by
 obtain ⟨h1,h2⟩:=ha
 refine eP7 Tryz.func17 Tryz.ntmps17 fun BB=>?_
 repeat' first|refine sk2 ?_|(intro b;conv=>whnf)|(with_reducible refine Br.d (fun hc=>?_) (fun hc=>?_))|(with_reducible refine Br.b (fun hc=>?_) (fun hc=>?_))
 all_goals
  refine Rt.pure (congrArg iD ?_)
  unfold arE posN
  simp [*]
def I64s (xs:List Int):Prop:=(∀ x∈xs,I64n x)∧xs.length≤140737488355328
theorem sk69 {A B:Prop} (k:B) (h:Hd7 B→A:=by intro hk7q;(first|refine sb0 ?_|refine sb1 ?_|((with_reducible refine' Cp.by ?hc ?_);(case hc=>exact HA))|((with_reducible refine' CE.pure ?hc ?_);(case hc=>exact HA)));exact hk7q.run):A:=h ⟨k⟩
theorem by9 (xs:List Int) (hx:I64s xs) (i n:Int):APure Tryz.prog 35 [slI xs,iD i,iD n] (iD (atE xs i n)):=by
 have hxl:=hx.2
 by_cases h0:i<0
 ·have HA:=True.intro
  refine eP7 Tryz.func35 Tryz.ntmps35 fun BB=>?_
  repeat' first|refine sk69 ?_|(intro b;conv=>whnf)
  refine Rt.pure (congrArg iD ?_)
  unfold atE;rw [if_pos (.inl h0)]
 ·by_cases h1:i.toNat<xs.length
  ·obtain ⟨a,ha⟩:∃ a,xs[i.toNat]?=some a:=⟨_,List.getElem?_eq_getElem h1⟩
   have HA:=aQ1 a n (hx.1 a (List.mem_of_getElem? ha))
   refine eP7 Tryz.func35 Tryz.ntmps35 fun BB=>?_
   repeat' first|refine sk69 ?_|(intro b;conv=>whnf)
   refine Rt.pure (congrArg iD ?_)
   unfold atE;rw [if_neg (by omega)]
   simp [List.getD_eq_getElem?_getD,ha]
  ·have HA:=True.intro
   refine eP7 Tryz.func35 Tryz.ntmps35 fun BB=>?_
   repeat' first|refine sk69 ?_|(intro b;conv=>whnf)
   refine Rt.pure (congrArg iD ?_)
   unfold atE;rw [if_pos (by omega)]
abbrev mkB (b:Nat) (xs:List Int) (pos:Int):Nat × Blk:=(b,.cells 81 [slI xs,iD pos])
abbrev ptr (b:Nat):D:=.v (.pointer (some ⟨b,0,none⟩))
theorem ACall.imp {P:Program} {f:FuncId} {args:List D} {σ:aa1} {R R':D→aa1→Prop} (h:ACall P f args σ R) (k:∀ d s,R d s→R' d s):ACall P f args σ R':=
 ⟨h.ent,fun w X vs hv hs=>(h.run w X vs hv hs).mono fun e w' ⟨u,d,s,g1,g2,g3⟩=>⟨u,d,s,g1,k d s g2,g3⟩⟩
theorem aa8 (xs:List Int) (hx:I64s xs) (bm:Nat) (pos n:Int) (hp:0≤pos∧pos≤1000000000):ACall Tryz.prog 32 [ptr bm,iD n] [mkB bm xs pos] (fun d σ=>d=iD (atE xs pos n)∧σ=[mkB bm xs (pos+1)]):=by
 have HA:=by9 xs hx (pos+1 - 1) n
 refine eC7 Tryz.func32 Tryz.ntmps32 fun BB=>?_
 repeat' first|refine sk69 ?_|(intro b;conv=>whnf)
 refine Rt.same ⟨?_,rfl⟩
 rw [show pos+1 - 1=pos by omega]
theorem am5 (xs:List Int) (hx:I64s xs) (bm:Nat) (pos n:Int) (hp:0≤pos∧pos≤1000000000):ACall Tryz.prog 32 [ptr bm,iD n] [mkB bm xs pos] (fun d σ=>∃ r,d=iD r∧(0≤r∧(1≤n→r<n))∧σ=[mkB bm xs (pos+1)]):=
 (aa8 xs hx bm pos n hp).imp fun d s ⟨h1,h2⟩=>⟨_,h1,ac6 xs pos n,h2⟩
end
section
open Go Go.Maps Go.MapKept
section
variable {P:Program} {r:Option Nat} {n:Nat} {df:Nat} {N:Nat} {σ τ:aa1} {ρ:Operand→D} {f:Frm} {L:List Oper} {k t e:TypeId} {F:Value→Option Value} {b:Nat} {kv z:Value} {kl:Lit}
theorem OtE.mapInsert {o:Oper} {m key x:Operand} {xv:Value} {K:Frm→aa1→Prop} (ho:o.op = .insert t m key x) (hm:evF f m = .v (.map (some b))) (hd:KeyD (evF f key) kv) (hx:evF f x = .v xv) (hb:σ.Perm ((b,Blk.obj (MapO P k F)) :: τ))
  (KK:Keyed P k) (ht:P.underlying t=some (.map k e)) (hkey:keyOf P k kv=some kl) (kk:W (putK N o.dst (.v undef) f (fun f'=>K f' ((b,.obj (MapO P k (updF F kv xv))) :: τ)))):OtE P r n df L N o f σ K:=by
 refine OtE.obj (by rw [ho];rfl) hb fun w fr X ob hη hob hok=>?_
 obtain ⟨es,c,nn,rfl,q3⟩:=hok
 obtain ⟨w',h1,⟨es',c',h2,h3⟩,h4⟩:=MapIs.update (v:=xv) (n:=nn) ⟨es,c,hob,q3⟩ KK ht hkey
 refine ⟨.v undef,undef,MapO P k (updF F kv xv),w',_,.inr ⟨?_,rfl,rfl⟩,fun _ _=>.v _,h4,h2,⟨es',c',_,rfl,h3⟩,kk.h⟩
 have p1:=(hη m).val hm
 have p2:=hd _ _ _ (hη key)
 have p3:=(hη x).val hx
 simp only [execOp,ho,p1,p2,p3]
 show (do let _ ← Instr.mapUpdate t (.map (some b)) kv xv;pure Next.skip).run P w=_
 simp only [Sem.run_bind,h1,Result.andThen,Sem.run_pure]
end
theorem bD3 {f:FuncId} (l:List Cnd) (p:Cnd→Bool) (hl:l.length≤1000000) (hp:∀ y∈l,APure Tryz.prog f [cndD y] (bD (p y))):APure Tryz.prog 204 [slC l,.v (.func (.func f) #[] #[])] (iD (idx p l)):=by
 refine eP7 Tryz.func204 Tryz.ntmps204 fun BB=>?_
 repeat' first|refine sk5 ?_|(intro b;conv=>whnf)
 refine ae2 mixed aa0 (γ:=Nat) (fun k=>[(8,iD k)]) (fun _=>[]) (fun k=>k≤l.length∧∀ i y,i<k→l[i]?=some y→p y=false) (fun k=>l.length - k) 0 rfl rfl ⟨by omega,by omega⟩ ?_
 rintro k ⟨hk,hno⟩
 by_cases hlt:k<l.length
 ·obtain ⟨y,hy⟩:∃ y,l[(k:Int).toNat]?=some y:=⟨_,List.getElem?_eq_getElem hlt⟩
  repeat' first|refine sk5 ?_|(intro b;conv=>whnf)|(with_reducible refine Br.d (fun hc=>?_) (fun hc=>?_))|(with_reducible refine Br.b (fun hc=>?_) (fun hc=>?_))
  ·refine Rt.pure (congrArg iD ?_)
   exact (ac5 hy ‹_› hno).symm
  ·exact ⟨k+1,rfl,rfl,⟨by omega,fun i z hi hz=>by
    by_cases e:i=k
    ·subst e;rw [show ((i:Int)).toNat=i from rfl,hz] at hy;cases hy;assumption
    ·exact hno i z (by omega) hz⟩,by omega⟩
 ·repeat' first|refine sk5 ?_|(intro b;conv=>whnf)
  refine Rt.pure (congrArg iD ?_)
  exact (ag5 fun i y hy=>hno i y (by have:=(List.getElem?_eq_some_iff.1 hy).1;omega) hy).symm
theorem sk70 {A B:Prop} (k:B) (h:Hd7 B→A:=by intro hk7q;(first|refine sb0 ?_|refine sb1 ?_|((with_reducible refine' Cp.by ?hc ?_);(case hc=>exact bD3 l p hl hp))|((with_reducible refine' CE.pure ?hc ?_);(case hc=>exact bD3 l p hl hp)));exact hk7q.run):A:=h ⟨k⟩
theorem bR6 {f:FuncId} (l:List Cnd) (p:Cnd→Bool) (hl:l.length≤1000000) (hp:∀ y∈l,APure Tryz.prog f [cndD y] (bD (p y))):APure Tryz.prog 158 [slC l,.v (.func (.func f) #[] #[])] (bD (l.any p)):=by
 refine eP7 Tryz.func158 Tryz.ntmps158 fun BB=>?_
 repeat' first|refine sk70 ?_|(intro b;conv=>whnf)
 refine Rt.pure (congrArg bD ?_)
 exact ai2 p l
theorem bW4 {f:FuncId} {c1 c2:List D} (l:List Cnd) (p:Cnd→Bool) (hl:l.length≤1000000) (hp:∀ y∈l,APure Tryz.prog f [cndD y,.ro c1,.ro c2] (bD (p y))):APure Tryz.prog 204 [slC l,.clo f [.ro c1,.ro c2]] (iD (idx p l)):=by
 refine eP7 Tryz.func204 Tryz.ntmps204 fun BB=>?_
 repeat' first|refine sk5 ?_|(intro b;conv=>whnf)
 refine ae2 mixed aa0 (γ:=Nat) (fun k=>[(8,iD k)]) (fun _=>[]) (fun k=>k≤l.length∧∀ i y,i<k→l[i]?=some y→p y=false) (fun k=>l.length - k) 0 rfl rfl ⟨by omega,by omega⟩ ?_
 rintro k ⟨hk,hno⟩
 by_cases hlt:k<l.length
 ·obtain ⟨y,hy⟩:∃ y,l[(k:Int).toNat]?=some y:=⟨_,List.getElem?_eq_getElem hlt⟩
  repeat' first|refine sk5 ?_|(intro b;conv=>whnf)|(with_reducible refine Br.d (fun hc=>?_) (fun hc=>?_))|(with_reducible refine Br.b (fun hc=>?_) (fun hc=>?_))
  ·refine Rt.pure (congrArg iD ?_)
   exact (ac5 hy ‹_› hno).symm
  ·exact ⟨k+1,rfl,rfl,⟨by omega,fun i z hi hz=>by
    by_cases e:i=k
    ·subst e;rw [show ((i:Int)).toNat=i from rfl,hz] at hy;cases hy;assumption
    ·exact hno i z (by omega) hz⟩,by omega⟩
 ·repeat' first|refine sk5 ?_|(intro b;conv=>whnf)
  refine Rt.pure (congrArg iD ?_)
  exact (ag5 fun i y hy=>hno i y (by have:=(List.getElem?_eq_some_iff.1 hy).1;omega) hy).symm
theorem sk71 {A B:Prop} (k:B) (h:Hd7 B→A:=by intro hk7q;(first|refine sb0 ?_|refine sb1 ?_|((with_reducible refine' Cp.by ?hc ?_);(case hc=>exact bW4 l p hl hp))|((with_reducible refine' CE.pure ?hc ?_);(case hc=>exact bW4 l p hl hp)));exact hk7q.run):A:=h ⟨k⟩
theorem ch2 {f:FuncId} {c1 c2:List D} (l:List Cnd) (p:Cnd→Bool) (hl:l.length≤1000000) (hp:∀ y∈l,APure Tryz.prog f [cndD y,.ro c1,.ro c2] (bD (p y))):APure Tryz.prog 158 [slC l,.clo f [.ro c1,.ro c2]] (bD (l.any p)):=by
 refine eP7 Tryz.func158 Tryz.ntmps158 fun BB=>?_
 repeat' first|refine sk71 ?_|(intro b;conv=>whnf)
 refine Rt.pure (congrArg bD ?_)
 exact ai2 p l
def CndS (c:Cnd):Prop:=I64n c.op∧c.path.length≤1000∧c.other.length≤1000
noncomputable def kidF:Value→Option Value:=updF (updF (updF (fun _=>none) (.int .i64 3) (.int .i64 1)) (.int .i64 4) (.int .i64 2)) (.int .i64 5) (.int .i64 2)
theorem bO2 (o:Int):((kidF (.int .i64 o)).getD (.int .i64 0)) = .int .i64 (aC3 o):=by
 unfold kidF updF aC3
 simp only [Value.int.injEq,true_and]
 by_cases h5:o=5
 ·subst h5;rfl
 ·by_cases h4:o=4
  ·subst h4;rfl
  ·by_cases h3:o=3
   ·subst h3;rfl
   ·rw [if_neg h5,if_neg h4,if_neg h3,if_neg h3,if_neg (by omega)];rfl
theorem bI0 {α:Type} (l:List α) (p:α→Bool):(l.any fun a=>!p a)=!l.all p:=by rw [List.all_eq_not_any_not,Bool.not_not]
theorem bF2 {α:Type} (l:List α):l.isEmpty=decide ((l.length:Int)=0):=by cases l <;> simp;omega
theorem bz5 (c:Cnd) (HI:APure Tryz.prog 157 [cndD c] (bD (formedB c))):APure Tryz.prog 202 [cndD c] (bD (!formedB c)):=by
 refine eP7 Tryz.func202 Tryz.ntmps202 fun BB=>?_
 repeat' first|refine sk68 ?_|(intro b;conv=>whnf)
 refine Rt.pure (congrArg bD ?_);rfl
theorem sk72 {A B:Prop} (k:B) (h:Hd7 B→A:=by intro hk7q;(first|refine sb0 ?_|refine sb1 ?_|((with_reducible refine' Cp.by ?hc ?_);(case hc=>first|exact HK|exact bm7 _ (by omega)|exact bm8 _))|((with_reducible refine' CE.pure ?hc ?_);(case hc=>first|exact HK|exact bm7 _ (by omega)|exact bm8 _)));exact hk7q.run):A:=h ⟨k⟩
theorem aV6:∀ (m:Nat) (c:Cnd),c.size≤m→c.All CndS→APure Tryz.prog 157 [cndD c] (bD (formedB c))
 | 0,c,h,_=>by rw [ar6] at h;omega
 | m+1,c,h,hA=>by
  have hk:=c.kids_len
  have hF:=aQ7 c
  obtain ⟨⟨ho1,ho2⟩,hp,hq⟩:=hA.one
  have HK:APure Tryz.prog 158 [slC c.kids,.v (.func (.func 202) #[] #[])] (bD (!c.kids.all formedB)):=bI0 c.kids formedB ▸ bR6 _ _ (by omega) fun y hy=>bz5 y (aV6 m y (by have:=Cnd.kid_size hy;omega) (hA.kid hy))
  unfold cndD cndC
  rw [ay7 c]
  unfold bt3 at hF
  have hkn:aC3 c.op=if c.op=3 then 1 else if c.op=4∨c.op=5 then 2 else 0:=rfl
  refine eP7 Tryz.func157 Tryz.ntmps157 fun BB=>?_
  repeat' first|refine sk72 ?_|(intro b;conv=>whnf)
  refine OtE.makeMap (k:=3) rfl (fun bm=>?_)
  repeat' first|refine sk72 ?_|(intro b;conv=>whnf)
  (refine OtE.mapInsert (k:=3) (e:=3) rfl rfl (KeyD.v _) rfl (List.Perm.refl _) am0 Tryz.underlying305 (ax4 (wf64 (by decide) (by decide))) ?_)
  repeat' first|refine sk72 ?_|(intro b;conv=>whnf)
  (refine OtE.mapInsert (k:=3) (e:=3) rfl rfl (KeyD.v _) rfl (List.Perm.refl _) am0 Tryz.underlying305 (ax4 (wf64 (by decide) (by decide))) ?_)
  repeat' first|refine sk72 ?_|(intro b;conv=>whnf)
  (refine OtE.mapInsert (k:=3) (e:=3) rfl rfl (KeyD.v _) rfl (List.Perm.refl _) am0 Tryz.underlying305 (ax4 (wf64 (by decide) (by decide))) ?_)
  repeat' first|refine sk72 ?_|(intro b;conv=>whnf)
  refine OtE.yd rfl (ar2 (kv:=.int .i64 c.op) (u:=.int .i64 (aC3 c.op)) rfl rfl (KeyD.v _) List.mem_cons_self (fun _ h=>h) am0 Tryz.underlying305 bI7 (ax4 (wf64 ho1 ho2)) (bO2 _)) ?_
  repeat' first|refine sk72 ?_|(intro b;conv=>whnf)|(with_reducible refine Br.d (fun hc=>?_) (fun hc=>?_))|(with_reducible refine Br.b (fun hc=>?_) (fun hc=>?_))
  all_goals (refine Rt.pure (congrArg bD ?_);rw [hF];clear hF hA HK;simp only [bh9,bF2,aa7];first|(simp [*];done)|(simp_all;done)|(simp [*];omega)|(simp_all;omega))
theorem sk73 {A B:Prop} (k:B) (h:Hd7 B→A:=by intro hk7q;(first|refine sb0 ?_|refine sb1 ?_|((with_reducible refine' Cp.by ?hc ?_);(case hc=>exact bz1 c.size c (Nat.le_refl _) hs))|((with_reducible refine' CE.pure ?hc ?_);(case hc=>exact bz1 c.size c (Nat.le_refl _) hs)));exact hk7q.run):A:=h ⟨k⟩
theorem cb3 (c:Cnd) (hs:c.size≤1000000):APure Tryz.prog 104 [cndD c] (bD (aJ8 c)):=by
 have hd:=aT3 hs
 by_cases h1:c.size≤64
 ·have hN:aJ8 c=decide ((c.deep:Int)≤8):=by unfold aJ8;rw [decide_eq_true h1,Bool.true_and];exact decide_eq_decide.2 (by omega)
  refine eP7 Tryz.func104 Tryz.ntmps104 fun BB=>?_
  repeat' first|refine sk73 ?_|(intro b;conv=>whnf)
  refine Rt.pure (congrArg bD ?_);rw [hN]
 ·have hN:aJ8 c=false:=by unfold aJ8;rw [decide_eq_false h1];rfl
  refine eP7 Tryz.func104 Tryz.ntmps104 fun BB=>?_
  repeat' first|refine sk73 ?_|(intro b;conv=>whnf)
  refine Rt.pure (congrArg bD ?_);rw [hN]
theorem sk74 {A B:Prop} (k:B) (h:Hd7 B→A:=by intro hk7q;(first|refine sb0 ?_|refine sb1 ?_|((with_reducible refine' Cp.by ?hc ?_);(case hc=>first|exact bm9 _|exact bm7 _ (by assumption)|exact aV6 q.cond.size q.cond (Nat.le_refl _) hA))|((with_reducible refine' CE.pure ?hc ?_);(case hc=>first|exact bm9 _|exact bm7 _ (by assumption)|exact aV6 q.cond.size q.cond (Nat.le_refl _) hA)));exact hk7q.run):A:=h ⟨k⟩
theorem bz2 (q:Qry) (hl:q.path.length≤1000000) (hA:q.cond.All CndS):APure Tryz.prog 105 [qryD q] (bD (aO0 q)):=by
 unfold aO0
 refine eP7 Tryz.func105 Tryz.ntmps105 fun BB=>?_
 repeat' first|refine sk74 ?_|(intro b;conv=>whnf)|(with_reducible refine Br.d (fun hc=>?_) (fun hc=>?_))|(with_reducible refine Br.b (fun hc=>?_) (fun hc=>?_))
 all_goals (refine Rt.pure (congrArg bD ?_);simp only [bF2,aa7];clear hA;first|(simp [*];done)|(simp_all;done)|(simp [*];omega)|(simp_all;omega))
end
section
open Go
def am7 (l:List Fld) (nm:ByteArray):Int:=idx (fun f=>seq f.name nm) l
def ap7 (n:Int):Bool:=!decide (n=0) && !decide (n=1) && !decide (n=6) && !decide (n=7)
def aq8 (k:Knd):Int:=idx (fun f=>ap7 f.kind) k.fields
theorem aL1 (l:List Fld) (nm:ByteArray) (hl:l.length≤1000000):APure Tryz.prog 77 [slF l,sD nm] (iD (am7 l nm)):=by
 refine eP7 Tryz.func77 Tryz.ntmps77 fun BB=>?_
 repeat' first|refine sk2 ?_|(intro b;conv=>whnf)|refine IxM.mk fun y hy=>?_
 refine ae2 mixed aa0 (γ:=Nat) (fun q=>[(5,iD q)]) (fun _=>[]) (fun q=>q≤l.length∧∀ i y,i<q→l[i]?=some y→seq y.name nm=false) (fun q=>l.length - q) 0 rfl rfl ⟨by omega,by omega⟩ ?_
 rintro q ⟨hq,hno⟩
 repeat' first|refine sk2 ?_|(intro b;conv=>whnf)|refine IxM.mk fun y hy=>?_|(with_reducible refine Br.d (fun hc=>?_) (fun hc=>?_))|(with_reducible refine Br.b (fun hc=>?_) (fun hc=>?_))
 ·refine Rt.pure (congrArg iD ?_)
  exact (ac5 hy ‹_› hno).symm
 ·exact ⟨q+1,rfl,rfl,⟨by omega,fun i z hi hz=>by
   by_cases e:i=q
   ·subst e;rw [show ((i:Int)).toNat=i from rfl,hz] at hy;cases hy;assumption
   ·exact hno i z (by omega) hz⟩,by omega⟩
 ·refine Rt.pure (congrArg iD ?_)
  exact (ag5 fun i y hy=>hno i y (by have:=(List.getElem?_eq_some_iff.1 hy).1;omega) hy).symm
theorem br3 (k:Knd) (hl:k.fields.length≤1000000):APure Tryz.prog 76 [kndD k] (iD (aq8 k)):=by
 refine eP7 Tryz.func76 Tryz.ntmps76 fun BB=>?_
 repeat' first|refine sk2 ?_|(intro b;conv=>whnf)
 refine af0 mixed aa0 (γ:=Nat) (fun q=>[(3,iD q)]) (fun _=>[]) (fun q=>q≤k.fields.length∧∀ i y,i<q→k.fields[i]?=some y→ap7 y.kind=false) (fun q=>k.fields.length - q) 0 (aa2 cl3) cl2 ⟨by omega,by omega⟩ ?_
 rintro q ⟨hq,hno⟩
 by_cases hql:q<k.fields.length
 ·obtain ⟨y,hy0⟩:∃ y,k.fields[q]?=some y:=⟨_,List.getElem?_eq_getElem hql⟩
  have hy:k.fields[((q:Nat):Int).toNat]?=some y:=hy0
  have nxt:ap7 y.kind=false→∀ i z,i<q+1→k.fields[i]?=some z→ap7 z.kind=false:=fun h i z hi hz=>by
   by_cases e:i=q
   ·subst e;cases hy0.symm.trans hz;exact h
   ·exact hno i z (by omega) hz
  by_cases h0:y.kind=0
  ·have hp:ap7 y.kind=false:=by unfold ap7;simp [h0]
   repeat' first|refine sk2 ?_|(intro b;conv=>whnf)
   exact ⟨q+1,(aa2 cl3),cl2,⟨by omega,nxt hp⟩,by omega⟩
  ·by_cases h1:y.kind=1
   ·have hp:ap7 y.kind=false:=by unfold ap7;simp [h1]
    repeat' first|refine sk2 ?_|(intro b;conv=>whnf)
    exact ⟨q+1,(aa2 cl3),cl2,⟨by omega,nxt hp⟩,by omega⟩
   ·by_cases h6:y.kind=6
    ·have hp:ap7 y.kind=false:=by unfold ap7;simp [h6]
     repeat' first|refine sk2 ?_|(intro b;conv=>whnf)
     exact ⟨q+1,(aa2 cl3),cl2,⟨by omega,nxt hp⟩,by omega⟩
    ·by_cases h7:y.kind=7
     ·have hp:ap7 y.kind=false:=by unfold ap7;simp [h7]
      repeat' first|refine sk2 ?_|(intro b;conv=>whnf)
      exact ⟨q+1,(aa2 cl3),cl2,⟨by omega,nxt hp⟩,by omega⟩
     ·have hp:ap7 y.kind=true:=by unfold ap7;simp [h0,h1,h6,h7]
      repeat' first|refine sk2 ?_|(intro b;conv=>whnf)
      refine Rt.pure (congrArg iD ?_)
      exact (ac5 hy0 hp hno).symm
 ·obtain rfl:q=k.fields.length:=by omega
  repeat' first|refine sk2 ?_|(intro b;conv=>whnf)
  refine Rt.pure (congrArg iD ?_)
  exact (ag5 fun i y hy=>hno i y (List.getElem?_eq_some_iff.1 hy).1 hy).symm
end
section
open Go
abbrev nE:ByteArray:=⟨#[]⟩
abbrev nSize:ByteArray:=⟨#[115,105,122,101]⟩
abbrev nTag:ByteArray:=⟨#[116,97,103]⟩
abbrev aH0:ByteArray:=⟨#[98,111,114,110]⟩
abbrev cc9:ByteArray:=⟨#[108,101,102,116]⟩
abbrev cp7:ByteArray:=⟨#[115,116,97,116,101]⟩
abbrev nLife:ByteArray:=⟨#[108,105,102,101]⟩
abbrev nLow:ByteArray:=⟨#[108,111,119]⟩
abbrev nHigh:ByteArray:=⟨#[104,105,103,104]⟩
abbrev nRed:ByteArray:=⟨#[114,101,100]⟩
abbrev aL8:ByteArray:=⟨#[103,114,101,101,110]⟩
abbrev bg8:ByteArray:=⟨#[98,108,117,101]⟩
inductive PlainF:List Fld→Prop
 | none:PlainF []
 | size (a b:Int) (ha:-5≤a∧a≤5) (hb:0≤b∧b<20):PlainF [⟨nSize,nE,nE,2,a,a+b,[],[]⟩]
 | tag (n:Nat) (ws:List Int) (hn:1≤n∧n≤3) (hw:ws.length=n) (h0:∀ w∈ws,0≤w∧w≤4) (h1:∃ w∈ws,1≤w):PlainF [⟨nTag,nE,nE,3,0,0,[nRed,aL8,bg8].take n,ws⟩]
 | born (a b c d:Int) (ha:-200≤a∧a<200) (hb:0≤b∧b<60) (hc:0≤c∧c<3) (hd:0≤d∧d<30):PlainF [⟨aH0,nE,nE,4,a,a+b,[],[]⟩,⟨cc9,aH0,nE,4,c,3+d,[],[]⟩]
 | state (a b:Int) (ha:0≤a∧a<3) (hb:0≤b∧b<4):PlainF [⟨cp7,nLife,nE,5,a,a+b,[],[]⟩]
 | low (a b c d:Int) (ha:0≤a∧a<5) (hb:0≤b∧b<10) (hc:0≤c∧c<5) (hd:0≤d∧d<10):PlainF [⟨nLow,nE,nE,2,a,5+b,[],[]⟩,⟨nHigh,nE,nE,2,c,10+d,[],[]⟩]
abbrev nilD:D:=.v (.slice .none 0 0)
abbrev fldR (f:Fld) (w g:D):List D:=[sD f.name,sD f.of,sD f.up,iD f.kind,iD f.lo,iD f.hi,w,g]
theorem Vd.nil {σ τ:aa1} (k:Nat):Vd σ τ (.v (.slice .none 0 0)) (.sl k []):=fun w X u _ h=>by
 rw [h.val rfl]
 exact .sl k [] .none 0 (fun _ _=>undef) (by simp) (fun y hy=>by cases hy) (fun i y hy=>by simp at hy) (fun i y hy=>by simp at hy)
theorem Vd.row {σ τ ρ:aa1} {e:TypeId} {k:Nat} {xs:List (List D)} {v:Value} {s:aa1} (h:RowIs e k xs v s) (hp:σ.Perm (s ++ ρ)) (hsub:∀ b,b∈aa9 τ→b∈aa9 ρ):Vd σ τ (.v v) (.sl k xs):=
 fun w X u hs hr=>aj5 ((Vs.row h hp).run w X u hs hr).2 hsub
theorem sb75 {A B:Prop} (k:B) (h:Hd7 B→A:=by intro hk7q;(first|(with_reducible refine Bc.l ?_)|(with_reducible refine Bx.l ?_)|fail|((with_reducible refine Cb.go ?h ?_);(case h=>decide +kernel)));exact hk7q.run):A:=h ⟨k⟩
theorem sk76 {A B:Prop} (k:B) (h:Hd7 B→A:=by intro hk7q;(first|refine sb0 ?_|refine sb75 ?_|((with_reducible refine' Cp.by ?hc ?_);(case hc=>fail))|((with_reducible refine' CE.pure ?hc ?_);(case hc=>fail)));exact hk7q.run):A:=h ⟨k⟩
theorem cl12 {p:Prop} (h:p:=by repeat' (first|exact Vd3.nil|exact Vd2.nil|refine Vd3.cons ?_ ?_|refine Vd2.cons ?_ ?_|exact Vd.nil _|exact Vd.same (fun _ h=>h) _)):p:=h
theorem cl13 {p:Prop} (h:p:=by (refine ad8 fun a=>?_;simp only [List.append_eq,List.nil_append,ad9,ah8,ah7,rfC,atC,iD,bD];omega)):p:=h
theorem aB1 (xs:List Int) (hx:I64s xs) (bm:Nat) (pos:Int) (hp:0≤pos∧pos≤100000000):ACall Tryz.prog 78 [ptr bm] [mkB bm xs pos] (fun d σ=>∃ pos' fs,(pos≤pos'∧pos'≤pos+20)∧d=slF fs∧σ=[mkB bm xs pos']∧PlainF fs):=by
 refine eC7 Tryz.func78 Tryz.ntmps78 fun BB=>?_
 repeat' first|refine sk76 ?_|(intro b;conv=>whnf)
 (refine CE.own (am5 xs hx bm _ _ ⟨by omega,by omega⟩) (List.Perm.refl ([mkB bm xs _] ++ _)) (fun s'=>s' ++ _) (fun s'=>List.Perm.refl _) ?_)
 rintro _ _ ⟨r,rfl,⟨hr,hr'⟩,rfl⟩
 have hr':=hr' (by omega)
 by_cases e0:r=0
 ·repeat' first|refine sk76 ?_|(intro b;conv=>whnf)
  (refine CE.own (am5 xs hx bm _ _ ⟨by omega,by omega⟩) (List.Perm.refl ([mkB bm xs _] ++ _)) (fun s'=>s' ++ _) (fun s'=>List.Perm.refl _) ?_)
  rintro _ _ ⟨a,rfl,⟨ha,ha'⟩,rfl⟩
  have ha':=ha' (by omega)
  repeat' first|refine sk76 ?_|(intro b;conv=>whnf)
  (refine CE.own (am5 xs hx bm _ _ ⟨by omega,by omega⟩) (List.Perm.refl ([mkB bm xs _] ++ _)) (fun s'=>s' ++ _) (fun s'=>List.Perm.refl _) ?_)
  rintro _ _ ⟨b,rfl,⟨hb,hb'⟩,rfl⟩
  have hb':=hb' (by omega)
  repeat' first|refine sk76 ?_|(intro b;conv=>whnf)
  exact Rt.by (Vs.vd ⟨[],List.Perm.refl _⟩ (Vd.sl (fun _ h=>h) cl12)) ⟨_,_,⟨by omega,by omega⟩,rfl,rfl,PlainF.size (a - 5) b ⟨by omega,by omega⟩ ⟨by omega,by omega⟩⟩
 by_cases e1:r=1
 ·repeat' first|refine sk76 ?_|(intro b;conv=>whnf)
  (refine CE.own (am5 xs hx bm _ _ ⟨by omega,by omega⟩) (List.Perm.refl ([mkB bm xs _] ++ _)) (fun s'=>s' ++ _) (fun s'=>List.Perm.refl _) ?_)
  rintro _ _ ⟨c,rfl,⟨hc,hc'⟩,rfl⟩
  have hc':=hc' (by omega)
  obtain ⟨n,hn,rfl⟩:∃ n:Nat,n<3∧c=n:=⟨c.toNat,by omega,by omega⟩
  repeat' first|refine sk76 ?_|(intro b;conv=>whnf)
  generalize hW:(List.take (1+(n:Int)).toNat [[D.v (Value.string nRed)],[D.v (Value.string aL8)],[D.v (Value.string bg8)]])=Wd
  have hWl:Wd.length=n+1:=by rw [← hW,List.length_take];simp;omega
  refine bB6 (List.Perm.swap _ _ _) ?_
  refine af0 mixed aa0 (γ:=List Int × Value × aa1) (fun g=>[(6,iD g.1.length)]) (fun g=>mkB bm xs (pos+2+g.1.length) :: (b,.cells 97 (fldR ⟨nTag,nE,nE,3,0,0,[],[]⟩ (.sl 1 Wd) (.v g.2.1))) :: g.2.2) (fun g=>g.1.length≤n+1∧(∀ z∈g.1,0≤z∧z≤4)∧RowIs 3 1 (g.1.map fun z=>[iD z]) g.2.1 g.2.2) (fun g=>n+1 - g.1.length) ([],.slice none 0 0,[]) (aa2 cl3) (by simp only [List.length_nil];rw [show pos+2+((0:Nat):Int)=pos+1+1 by omega];exact cl2) ⟨Nat.zero_le _,(by simp),RowIs.nil _ _⟩ ?_
  ·rintro ⟨ws,v,s⟩ ⟨hwl,hw,hrow⟩
   simp only at hwl hw hrow ⊢
   by_cases hlt:ws.length<n+1
   ·have hb:=ac6 xs (pos+2+ws.length) 5
    have hb':=hb.2 (by omega)
    repeat' first|refine sk76 ?_|(intro b;conv=>whnf)
    refine dr7 ?_
    refine aB7 mixed aa0 rfl [0,2] 6 (.two 1 (.one 3 (.one 4 (.one 5 (.one 6 (.one 7 .done))))) 3 (.two 1 (.one 4 (.one 5 (.one 6 (.one 7 .done)))) 4 (.one 1 (.one 5 (.one 6 (.one 7 .done)))))) (γ:=Value × aa1) (fun g=>[(39,.v v),(41,iD (atE xs (pos+2+ws.length) 5)),(42,.sl 1 [[iD (atE xs (pos+2+ws.length) 5)]]),(43,.v g.1),(44,.v (.pointer (some ⟨b,0+7,none⟩)))]) (fun g=>mkB bm xs (pos+2+ws.length+1) :: (b,.cells 97 (fldR ⟨nTag,nE,nE,3,0,0,[],[]⟩ (.sl 1 Wd) (.v g.1))) :: g.2) (fun g=>RowIs 3 1 ((ws ++ [atE xs (pos+2+ws.length) 5]).map fun z=>[iD z]) g.1 g.2) (by decide +kernel) ?_ ?_
    ·repeat' first|refine sk76 ?_|(intro b;conv=>whnf)
     repeat' first|refine sk76 ?_|(intro b;conv=>whnf)|(refine And.intro ?_ ?_ <;> (conv=>whnf))|((refine CE.own (aa8 xs hx bm _ _ ⟨by omega,by omega⟩) (List.Perm.refl ([mkB bm xs _] ++ _)) (fun s'=>s' ++ _) (fun s'=>List.Perm.refl _) ?_);(rintro _ _ ⟨rfl,rfl⟩))|((refine CE.own (aa8 xs hx bm _ _ ⟨by omega,by omega⟩) (show List.Perm (_ :: mkB bm xs _ :: _) ([mkB bm xs _] ++ (_ :: _)) from List.Perm.swap _ _ _) (fun s'=>s' ++ (_ :: _)) (fun s'=>List.Perm.refl _) ?_);(rintro _ _ ⟨rfl,rfl⟩))|(refine Ap.go rfl rfl rfl rfl hrow (τ:=[mkB bm xs (pos+2+ws.length+1),(b,.cells 97 (fldR ⟨nTag,nE,nE,3,0,0,[],[]⟩ (.sl 1 Wd) (.v v)))]) cl13 rfl (zs:=(ws ++ [atE xs (pos+2+ws.length) 5]).map fun z=>[iD z]) (by simp) (by simp;omega) (by simp;omega) (fun s'=>mkB bm xs (pos+2+ws.length+1) :: (b,.cells 97 (fldR ⟨nTag,nE,nE,3,0,0,[],[]⟩ (.sl 1 Wd) (.v v))) :: s') (fun s'=>cl9) (fun a2 c2 s2 hr2=>?_))
     all_goals exact ⟨(_,s2),(aa2 cl3),rfl,hr2⟩
    ·rintro ⟨v2,s2⟩ hr2
     generalize atE xs (pos+2+ws.length) 5=B at *
     simp only at hr2 ⊢
     repeat' first|refine sk76 ?_|(intro b;conv=>whnf)
     refine ⟨(ws ++ [B],v2,s2),?_,?_,⟨by simp;omega,fun z hz=>?_,hr2⟩,by simp only [List.length_append,List.length_cons,List.length_nil];omega⟩
     ·simp only [List.length_append,List.length_cons,List.length_nil];exact (aa2 cl6)
     ·simp only [List.length_append,List.length_cons,List.length_nil]
      rw [show pos+2+((ws.length+(0+1):Nat):Int)=pos+2+ws.length+1 by omega]
      exact cl2
     ·rcases List.mem_append.1 hz with h|h
      ·exact hw z h
      ·rw [List.mem_singleton] at h;subst h;exact ⟨hb.1,by omega⟩
   ·have hwn:ws.length=n+1:=by omega
    rw [hwn]
    have hcn:=ac6 xs (pos+2+(n+1:Nat)) (Wd.length:Nat)
    have hcn':=hcn.2 (by omega)
    have hdn:=ac6 xs (pos+2+(n+1:Nat)+1) 3
    have hdn':=hdn.2 (by omega)
    obtain ⟨c,hcc⟩:∃ c:Nat,atE xs (pos+2+(n+1:Nat)) (Wd.length:Nat)=c:=⟨(atE xs (pos+2+(n+1:Nat)) (Wd.length:Nat)).toNat,by omega⟩
    have hcl:c<ws.length:=by omega
    obtain ⟨z,hz⟩:∃ z,ws[c]?=some z:=⟨_,List.getElem?_eq_getElem hcl⟩
    obtain ⟨b1,cap1,cs1,rfl,rfl,hc1,hset⟩:=am4 (g:=iD) hrow hz
    have hc1l:=(List.getElem?_eq_some_iff.1 hc1).1
    repeat' first|refine sk76 ?_|(intro b;conv=>whnf)
    refine dr7 ?_
    refine aB7 mixed aa0 rfl [0,2,3,4,6] 6 (.two 1 (.one 5 (.one 7 (.one 8 (.one 9 (.one 10 .done))))) 5 (.two 1 (.one 7 (.one 8 (.one 9 (.one 10 .done)))) 7 (.two 1 (.one 8 (.one 9 (.one 10 .done))) 8 (.one 1 (.one 9 (.one 10 .done)))))) (γ:=Unit) (fun _=>[(46,.v (.slice (some ⟨b1,0,none⟩) ws.length cap1)),(50,iD (atE xs (pos+2+(n+1:Nat)) (Wd.length:Nat))),(52,iD (atE xs (pos+2+(n+1:Nat)+1) 3)),(53,iD (1+atE xs (pos+2+(n+1:Nat)+1) 3)),(54,.v (.pointer (some ⟨b1,0+(atE xs (pos+2+(n+1:Nat)) (Wd.length:Nat)).toNat*1,none⟩)))]) (fun _=>(b1,.cells 3 (cs1.set c (iD (1+atE xs (pos+2+(n+1:Nat)+1) 3)))) :: [mkB bm xs (pos+2+(n+1:Nat)+1+1),(b,.cells 97 (fldR ⟨nTag,nE,nE,3,0,0,[],[]⟩ (.sl 1 Wd) (.v (.slice (some ⟨b1,0,none⟩) ws.length cap1))))]) (fun _=>True) (by decide +kernel) ?_ ?_
    ·repeat' first|refine sk76 ?_|(intro b;conv=>whnf)
     repeat' first|refine sk76 ?_|(intro b;conv=>whnf)|(refine And.intro ?_ ?_ <;> (conv=>whnf))|((refine CE.own (aa8 xs hx bm _ _ ⟨by omega,by omega⟩) (List.Perm.refl ([mkB bm xs _] ++ _)) (fun s'=>s' ++ _) (fun s'=>List.Perm.refl _) ?_);(rintro _ _ ⟨rfl,rfl⟩))|((refine CE.own (aa8 xs hx bm _ _ ⟨by omega,by omega⟩) (show List.Perm (_ :: mkB bm xs _ :: _) ([mkB bm xs _] ++ (_ :: _)) from List.Perm.swap _ _ _) (fun s'=>s' ++ (_ :: _)) (fun s'=>List.Perm.refl _) ?_);(rintro _ _ ⟨rfl,rfl⟩))|(refine Sv.cellm (tb:=3) (cs:=cs1) (cs':=cs1.set c (iD (1+atE xs (pos+2+(n+1:Nat)+1) 3))) (τ:=[mkB bm xs (pos+2+(n+1:Nat)+1+1),(b,.cells 97 (fldR ⟨nTag,nE,nE,3,0,0,[],[]⟩ (.sl 1 Wd) (.v (.slice (some ⟨b1,0,none⟩) ws.length cap1))))]) cl13 (by rw [hcc,ix1];exact hc1l) rfl (by rw [hcc,ix1]) ?_)
     all_goals exact ⟨(),(aa2 cl3),rfl,trivial⟩
    ·rintro - -
     have hrow2:=hset (1+atE xs (pos+2+(n+1:Nat)+1) 3)
     generalize atE xs (pos+2+(n+1:Nat)+1) 3=E at *
     have hWd:Wd=([nRed,aL8,bg8].take (n+1)).map fun x=>[sD x]:=by
      rw [← hW,show (1+(n:Int)).toNat=n+1 by omega,List.map_take];rfl
     repeat' first|refine sk76 ?_|(intro b;conv=>whnf)
     rw [hWd]
     have hs:∀ x,x∈aa9 [mkB bm xs (pos+2+(n+1:Nat)+1+1)]→x∈aa9 ((b1,Blk.cells 3 (cs1.set c (iD (1+E)))) :: [mkB bm xs (pos+2+(n+1:Nat)+1+1),(b,.cells 97 (fldR ⟨nTag,nE,nE,3,0,0,[],[]⟩ (.sl 1 (([nRed,aL8,bg8].take (n+1)).map fun x=>[sD x])) (.v (.slice (some ⟨b1,0,none⟩) ws.length cap1))))]):=fun x h=>by simp [aa9] at h ⊢;exact .inr (.inl h)
     refine Rt.by (Vs.vd ⟨[(b1,Blk.cells 3 (cs1.set c (iD (1+E)))),(b,.cells 97 (fldR ⟨nTag,nE,nE,3,0,0,[],[]⟩ (.sl 1 (([nRed,aL8,bg8].take (n+1)).map fun x=>[sD x])) (.v (.slice (some ⟨b1,0,none⟩) ws.length cap1))))],by (refine ad8 fun a=>?_;simp only [List.append_eq,List.nil_append,ad9,ah8,ah7,rfC,atC,iD,bD];omega)⟩ (Vd.sl hs (.cons (.cons (Vd.same hs _) (.cons (Vd.same hs _) (.cons (Vd.same hs _) (.cons (Vd.same hs _) (.cons (Vd.same hs _) (.cons (Vd.same hs _) (.cons (Vd.same hs _) (.cons (Vd.row hrow2 (List.Perm.refl _) (fun x h=>by simp [aa9] at h ⊢;exact .inl h)) .nil)))))))) .nil))) ⟨_,_,⟨?_,?_⟩,rfl,rfl,PlainF.tag (n+1) (ws.set c (1+E)) ⟨by omega,by omega⟩ (by rw [List.length_set];omega) (fun z hz=>?_) ⟨1+E,?_,by omega⟩⟩
     ·omega
     ·omega
     ·rcases List.mem_or_eq_of_mem_set hz with h|rfl
      ·exact hw z h
      ·omega
     ·exact List.mem_set hcl _
 by_cases e2:r=2
 ·repeat' first|refine sk76 ?_|(intro b;conv=>whnf)
  (refine CE.own (am5 xs hx bm _ _ ⟨by omega,by omega⟩) (List.Perm.refl ([mkB bm xs _] ++ _)) (fun s'=>s' ++ _) (fun s'=>List.Perm.refl _) ?_)
  rintro _ _ ⟨a,rfl,⟨ha,ha'⟩,rfl⟩
  have ha':=ha' (by omega)
  repeat' first|refine sk76 ?_|(intro b;conv=>whnf)
  have hb:=ac6 xs (pos+1+1) 60
  have hb':=hb.2 (by omega)
  refine dr7 ?_
  refine aB7 mixed aa0 rfl [0,2] 5 (.two 1 (.one 3 (.one 4 (.one 5 (.one 6 .done)))) 3 (.one 1 (.one 4 (.one 5 (.one 6 .done))))) (γ:=Unit) (fun _=>[(64,iD (a - 200)),(66,iD (atE xs (pos+1+1) 60)),(67,iD (a - 200+atE xs (pos+1+1) 60)),(68,.v (.pointer (some ⟨b,0+5,none⟩)))]) (fun _=>[mkB bm xs (pos+1+1+1),(b,.cells 97 (fldR ⟨aH0,nE,nE,4,a - 200,a - 200+atE xs (pos+1+1) 60,[],[]⟩ nilD nilD))]) (fun _=>True) (by decide +kernel) ?_ ?_
  ·repeat' first|refine sk76 ?_|(intro b;conv=>whnf)
   repeat' first|refine sk76 ?_|(intro b;conv=>whnf)|(refine And.intro ?_ ?_ <;> (conv=>whnf))|((refine CE.own (aa8 xs hx bm _ _ ⟨by omega,by omega⟩) (List.Perm.refl ([mkB bm xs _] ++ _)) (fun s'=>s' ++ _) (fun s'=>List.Perm.refl _) ?_);(rintro _ _ ⟨rfl,rfl⟩))|((refine CE.own (aa8 xs hx bm _ _ ⟨by omega,by omega⟩) (show List.Perm (_ :: mkB bm xs _ :: _) ([mkB bm xs _] ++ (_ :: _)) from List.Perm.swap _ _ _) (fun s'=>s' ++ (_ :: _)) (fun s'=>List.Perm.refl _) ?_);(rintro _ _ ⟨rfl,rfl⟩))
   all_goals exact ⟨(),(aa2 cl3),rfl,trivial⟩
  ·rintro - -
   generalize atE xs (pos+1+1) 60=B at *
   have hc:=ac6 xs (pos+1+1+1) 3
   have hc':=hc.2 (by omega)
   have hd:=ac6 xs (pos+1+1+1+1) 30
   have hd':=hd.2 (by omega)
   repeat' first|refine sk76 ?_|(intro b;conv=>whnf)
   (refine Dr.r ?_;refine W.mk ?_)
   refine aB7 mixed aa0 rfl [1,3] 7 (.two 0 (.one 2 (.one 4 (.one 5 (.one 6 (.one 7 (.one 8 .done)))))) 2 (.two 0 (.one 4 (.one 5 (.one 6 (.one 7 (.one 8 .done))))) 4 (.two 0 (.one 5 (.one 6 (.one 7 (.one 8 .done)))) 5 (.two 0 (.one 6 (.one 7 (.one 8 .done))) 6 (.one 0 (.one 7 (.one 8 .done))))))) (γ:=Unit) (fun _=>[(2,.sl 8 [fldR ⟨aH0,nE,nE,4,a - 200,a - 200+B,[],[]⟩ nilD nilD,fldR ⟨cc9,aH0,nE,4,atE xs (pos+1+1+1) 3,3+atE xs (pos+1+1+1+1) 30,[],[]⟩ nilD nilD])]) (fun _=>[mkB bm xs (pos+1+1+1+1+1),(b,.cells 97 (fldR ⟨aH0,nE,nE,4,a - 200,a - 200+B,[],[]⟩ nilD nilD))]) (fun _=>True) (by decide +kernel) ?_ ?_
   ·repeat' first|refine sk76 ?_|(intro b;conv=>whnf)
    repeat' first|refine sk76 ?_|(intro b;conv=>whnf)|(refine And.intro ?_ ?_ <;> (conv=>whnf))|((refine CE.own (aa8 xs hx bm _ _ ⟨by omega,by omega⟩) (List.Perm.refl ([mkB bm xs _] ++ _)) (fun s'=>s' ++ _) (fun s'=>List.Perm.refl _) ?_);(rintro _ _ ⟨rfl,rfl⟩))|((refine CE.own (aa8 xs hx bm _ _ ⟨by omega,by omega⟩) (show List.Perm (_ :: mkB bm xs _ :: _) ([mkB bm xs _] ++ (_ :: _)) from List.Perm.swap _ _ _) (fun s'=>s' ++ (_ :: _)) (fun s'=>List.Perm.refl _) ?_);(rintro _ _ ⟨rfl,rfl⟩))
    all_goals exact ⟨(),(aa2 cl3),rfl,trivial⟩
   ·rintro - -
    generalize atE xs (pos+1+1+1) 3=C at *
    generalize atE xs (pos+1+1+1+1) 30=E at *
    repeat' first|refine sk76 ?_|(intro b;conv=>whnf)
    have hs:∀ x,x∈aa9 [mkB bm xs (pos+1+1+1+1+1)]→x∈aa9 [mkB bm xs (pos+1+1+1+1+1),(b,.cells 97 (fldR ⟨aH0,nE,nE,4,a - 200,a - 200+B,[],[]⟩ nilD nilD))]:=fun x h=>by simp [aa9] at h ⊢;exact .inl h
    exact Rt.by (Vs.vd ⟨[_],List.Perm.swap _ _ _⟩ (Vd.sl hs (by repeat' (first|exact Vd3.nil|exact Vd2.nil|refine Vd3.cons ?_ ?_|refine Vd2.cons ?_ ?_|exact Vd.nil _|exact Vd.same hs _)))) ⟨_,_,⟨by omega,by omega⟩,rfl,rfl,PlainF.born (a - 200) B C E ⟨by omega,by omega⟩ ⟨by omega,by omega⟩ ⟨by omega,by omega⟩ ⟨by omega,by omega⟩⟩
 by_cases e3:r=3
 ·repeat' first|refine sk76 ?_|(intro b;conv=>whnf)
  (refine CE.own (am5 xs hx bm _ _ ⟨by omega,by omega⟩) (List.Perm.refl ([mkB bm xs _] ++ _)) (fun s'=>s' ++ _) (fun s'=>List.Perm.refl _) ?_)
  rintro _ _ ⟨a,rfl,⟨ha,ha'⟩,rfl⟩
  have ha':=ha' (by omega)
  repeat' first|refine sk76 ?_|(intro b;conv=>whnf)
  (refine CE.own (am5 xs hx bm _ _ ⟨by omega,by omega⟩) (List.Perm.refl ([mkB bm xs _] ++ _)) (fun s'=>s' ++ _) (fun s'=>List.Perm.refl _) ?_)
  rintro _ _ ⟨b,rfl,⟨hb,hb'⟩,rfl⟩
  have hb':=hb' (by omega)
  repeat' first|refine sk76 ?_|(intro b;conv=>whnf)
  exact Rt.by (Vs.vd ⟨[],List.Perm.refl _⟩ (Vd.sl (fun _ h=>h) cl12)) ⟨_,_,⟨by omega,by omega⟩,rfl,rfl,PlainF.state a b ⟨by omega,by omega⟩ ⟨by omega,by omega⟩⟩
 by_cases e4:r=4
 ·repeat' first|refine sk76 ?_|(intro b;conv=>whnf)
  (refine CE.own (am5 xs hx bm _ _ ⟨by omega,by omega⟩) (List.Perm.refl ([mkB bm xs _] ++ _)) (fun s'=>s' ++ _) (fun s'=>List.Perm.refl _) ?_)
  rintro _ _ ⟨a,rfl,⟨ha,ha'⟩,rfl⟩
  have ha':=ha' (by omega)
  repeat' first|refine sk76 ?_|(intro b;conv=>whnf)
  (refine CE.own (am5 xs hx bm _ _ ⟨by omega,by omega⟩) (List.Perm.refl ([mkB bm xs _] ++ _)) (fun s'=>s' ++ _) (fun s'=>List.Perm.refl _) ?_)
  rintro _ _ ⟨b,rfl,⟨hb,hb'⟩,rfl⟩
  have hb':=hb' (by omega)
  repeat' first|refine sk76 ?_|(intro b;conv=>whnf)
  (refine CE.own (am5 xs hx bm _ _ ⟨by omega,by omega⟩) (List.Perm.refl ([mkB bm xs _] ++ _)) (fun s'=>s' ++ _) (fun s'=>List.Perm.refl _) ?_)
  rintro _ _ ⟨c,rfl,⟨hc,hc'⟩,rfl⟩
  have hc':=hc' (by omega)
  repeat' first|refine sk76 ?_|(intro b;conv=>whnf)
  (refine CE.own (am5 xs hx bm _ _ ⟨by omega,by omega⟩) (List.Perm.refl ([mkB bm xs _] ++ _)) (fun s'=>s' ++ _) (fun s'=>List.Perm.refl _) ?_)
  rintro _ _ ⟨d,rfl,⟨hd,hd'⟩,rfl⟩
  have hd':=hd' (by omega)
  repeat' first|refine sk76 ?_|(intro b;conv=>whnf)
  exact Rt.by (Vs.vd ⟨[],List.Perm.refl _⟩ (Vd.sl (fun _ h=>h) cl12)) ⟨_,_,⟨by omega,by omega⟩,rfl,rfl,PlainF.low a b c d ⟨by omega,by omega⟩ ⟨by omega,by omega⟩ ⟨by omega,by omega⟩ ⟨by omega,by omega⟩⟩
 ·repeat' first|refine sk76 ?_|(intro b;conv=>whnf)
  exact Rt.by (Vs.vd ⟨[],List.Perm.refl _⟩ (Vd.nil 8)) ⟨_,_,⟨by omega,by omega⟩,rfl,rfl,PlainF.none⟩
end
end Go.Proofs.YtlcfiilejnnlnaaGreatDoor
