/- A part of the proof: Gq Gr Gs Pa Sw Wl Wu. -/
import Derived.Test.YtjbbmjjildhfbaaGreatDoorP23
set_option maxRecDepth 100000
set_option maxHeartbeats 4000000
set_option linter.unusedVariables false
set_option linter.unusedSimpArgs false
namespace Go.Proofs.YtjbbmjjildhfbaaGreatDoor
section
open Go
theorem RefQ.nms {ks:List Knd} {i:Nat} {f1:List Fld} (h:RefQ ks i f1):(f1.map Fld.name).Sublist [nOf,nSame,nPart]:=by
 rcases h with rfl|⟨t,lo,hi,sm,pt,_,_,_,hs,hp,rfl⟩
 ·simp
 ·rcases hs with rfl|⟨y,n,g,_,_,_,rfl⟩ <;> rcases hp with rfl|⟨a,b,y2,n2,_,_,_,_,rfl⟩ <;> simp [ofN,at5,aj5]
theorem TotQ.nms {ks:List Knd} {i:Nat} {tt:List Fld} (h:TotQ ks i tt):(tt.map Fld.name).Sublist [ap4]:=by
 rcases h with rfl|⟨j,kj,_,_,_,rfl⟩ <;> simp [totF]
theorem KForm.nodup {ks:List Knd} {i:Nat} {k:Knd} (h:KForm ks i k):(k.fields.map Fld.name).Nodup:=by
 obtain ⟨lo,r,idl,f1,f2,p1,p2,tt,h1,h2,h3,rfl,h5,h6,h7,h8,h9,h10⟩:=h
 have s1:=h5.nms
 have s2:(f2.map Fld.name).Sublist [nBy]:=by rcases h6 with rfl|⟨_,rfl⟩ <;> simp [byN]
 have s3:=h10.nms
 have hS:(([nId] ++ (f1.map Fld.name ++ (f2.map Fld.name ++ (p1.map Fld.name ++ (p2.map Fld.name ++ tt.map Fld.name)))))).Sublist ([nId] ++ ([nOf,nSame,nPart] ++ ([nBy] ++ (p1.map Fld.name ++ (p2.map Fld.name ++ [ap4]))))):=
  (List.Sublist.refl _).append (s1.append (s2.append ((List.Sublist.refl _).append ((List.Sublist.refl _).append s3))))
 have hQ:∀ f∈p1,∀ g gs,p2=g :: gs→f.name≠g.name:=by
  intro f hf g gs e
  rcases h9 with h9|⟨g',gs',e',hn⟩
  ·rw [h9] at e;cases e
  ·rw [e'] at e;cases e
   exact has_neg hn f (by simp [hf])
 have hD:([nId] ++ ([nOf,nSame,nPart] ++ ([nBy] ++ (p1.map Fld.name ++ (p2.map Fld.name ++ [ap4]))))).Nodup:=by
  cases h7 <;> cases h8 <;> first|(simp only [List.map_cons,List.map_nil];decide)|exact (hQ _ List.mem_cons_self _ _ rfl rfl).elim
 refine List.Sublist.nodup (l₁:=_) ?_ hD
 simpa [idF] using hS
structure HX (x:Sch):Prop where
 nk:x.kinds.length≤3
 form:∀ (i:Nat) k,x.kinds[i]?=some k→KForm x.kinds i k
 kd:∀ k∈x.kinds,∀ f∈k.fields,0≤f.kind
 life:x.lives.any (fun l=>seq l.name nLife)=true
theorem knm_ne {i t:Nat} (h:i<t) (ht:t≤2):seq (knm i) (knm t)=false:=by
 obtain rfl|rfl:t=1∨t=2:=by omega
 ·obtain rfl:i=0:=by omega
  decide +kernel
 ·obtain rfl|rfl:i=0∨i=1:=by omega
  ·decide +kernel
  ·decide +kernel
variable {x:Sch} (H:HX x)
include H
theorem HX.kix {t:Nat} {y:Knd} (h:x.kinds[t]?=some y):ab3 x (knm t)=t:=
 ad6 h (by rw [(H.form t y h).name];exact ar9 _) fun i z hi hz=>by
  rw [(H.form i z hz).name]
  exact knm_ne hi (by have:=(List.getElem?_eq_some_iff.1 h).1;have:=H.nk;omega)
omit H in
theorem kat {i:Nat} {k:Knd} (hk:x.kinds[i]?=some k):ad9 x i=some k:=by simp [ad9,hk]
omit H in
theorem fat {i:Nat} {k:Knd} (hk:x.kinds[i]?=some k) (j:Nat):fieldAt x i j=k.fields[j]?:=by simp [fieldAt,ad9,hk]
theorem HX.refUp {i t:Nat} {y:Knd} {f:Fld} (hy:x.kinds[t]?=some y) (hti:t<i) (ho:f.of=knm t):refUp x i f=t:=by
 rw [Go.Proofs.YtjbbmjjildhfbaaGreatDoor.refUp,ho,H.kix hy,if_pos (by omega)]
theorem HX.up1 {i t j:Nat} {k y:Knd} {f:Fld} (hk:x.kinds[i]?=some k) (hf:k.fields[j]?=some f) (hy:x.kinds[t]?=some y) (hti:t<i) (h1:f.kind=1) (ho:f.of=knm t):upIx x i j=t:=by
 rw [aF6 ((fat hk j).trans hf) (kat hk),if_neg (by rw [h1];decide),if_pos h1,H.refUp hy hti ho]
theorem HX.up7 {i t j:Nat} {k y:Knd} {f:Fld} {lo hi:Int} (hk:x.kinds[i]?=some k) (hf:k.fields[j]?=some f) (hy:x.kinds[t]?=some y) (hti:t<i) (h7:f.kind=7∨f.kind=8) (ho:f.up=nOf) (h1:k.fields[1]?=some (ofN t lo hi)) (hj:1<j):upIx x i j=t:=by
 have e1:ab6 k f.up=((1:Nat):Int):=by rw [ho];exact aT7 (H.form i k hk).nodup h1
 rw [aF6 ((fat hk j).trans hf) (kat hk),if_pos h7,e1,fat hk 1,h1,aD4,if_pos ⟨by omega,rfl⟩,au6,H.refUp hy hti rfl]
omit H in
theorem HX.below {i t:Nat} {k:Knd} (hk:x.kinds[i]?=some k) (hti:t<i):∃ y,x.kinds[t]?=some y:=⟨_,List.getElem?_eq_getElem (by have:=(List.getElem?_eq_some_iff.1 hk).1;omega)⟩
omit H in
theorem single {l:List Nat} {c:Nat} (hn:l.Nodup) (h1:∀ a∈l,a=c) (h2:c∈l):l.length=1:=by
 match l,hn,h1,h2 with
 | [a],_,_,_=>rfl
 | a :: b :: r,hn,h1,_=>
  have e1:=h1 a (by simp)
  have e2:=h1 b (by simp)
  simp [e1,e2] at hn
theorem HX.shares {i j:Nat} {k kj:Knd} (hk:x.kinds[i]?=some k) (hij:i<j) (hkj:x.kinds[j]?=some kj) (hP:PartTo kj i):(ap7 x i (totF (knm j))).length=1:=by
 obtain ⟨n,lo,hi,a,b,g1,g2,g3,g4⟩:=hP
 have e:ab3 x (totF (knm j)).of=j:=H.kix hkj
 rw [ap7,e,kat hkj]
 simp only [List.length_map]
 refine single (c:=n) (List.Pairwise.filter _ List.nodup_range) (fun m hm=>?_) ?_
 ·obtain ⟨_,hq⟩:=List.mem_filter.1 hm
  cases hg:kj.fields[m]? with
  | none=>rw [hg] at hq;cases hq
  | some g=>
   rw [hg] at hq
   simp only [Bool.and_eq_true,decide_eq_true_eq] at hq
   exact g4 m g hg hq.1.1
 ·refine List.mem_filter.2 ⟨List.mem_range.2 (List.getElem?_eq_some_iff.1 g3).1,?_⟩
  rw [g3]
  simp only [Bool.and_eq_true,decide_eq_true_eq]
  exact ⟨⟨rfl,ar9 _⟩,H.up7 hkj g3 hk hij (.inl rfl) rfl g1 g2⟩
omit H in
theorem at_mem {F:List Fld} (hN:(F.map Fld.name).Nodup) {A B:List Fld} {c:Fld} (hF:F=A ++ c :: B) {j:Nat} {f:Fld} (hf:F[j]?=some f) (e:f.name=c.name):j=A.length∧f=c:=by
 have hc:F[A.length]?=some c:=by rw [hF,List.getElem?_append_right (Nat.le_refl _),Nat.sub_self];rfl
 have:=at_of hN hf hc e
 subst this
 rw [hf] at hc;cases hc
 exact ⟨rfl,rfl⟩
theorem HX.plain {i j:Nat} {k:Knd} {A p B:List Fld} {f:Fld} (hk:x.kinds[i]?=some k) (hp:PlainF p) (hF:k.fields=A ++ (p ++ B)) (hf:k.fields[j]?=some f) (hm:f∈p):ac2 x i j f=0:=by
 have hN:=(H.form i k hk).nodup
 cases hp with
 | none=>cases hm
 | size a b ha hb=>rw [List.mem_singleton] at hm;subst hm;simp [ac2]
 | tag n ws hn hw h0 h1=>rw [List.mem_singleton] at hm;subst hm;simp [ac2]
 | low a b c d ha hb hc hd=>
  simp only [List.mem_cons,List.not_mem_nil,or_false] at hm
  rcases hm with rfl|rfl <;> simp [ac2]
 | state a b ha hb=>
  rw [List.mem_singleton] at hm;subst hm
  simp only [ac2]
  rw [if_neg (by simp),if_neg (by simp),if_neg (by simp),if_neg (by simp),if_pos trivial,if_pos H.life]
 | born a b c d ha hb hc hd=>
  simp only [List.mem_cons,List.not_mem_nil,or_false] at hm
  rcases hm with rfl|rfl
  ·simp only [ac2]
   rw [if_neg (by simp),if_neg (by simp),if_neg (by simp),if_pos trivial,dayE,kat hk]
   simp only
   rw [if_pos (by decide +kernel)]
  ·obtain ⟨rfl,_⟩:=at_mem hN (A:=A ++ [⟨aJ0,nE,nE,4,a,a+b,[],[]⟩]) (B:=B) (c:=⟨nLeft,aJ0,nE,4,c,3+d,[],[]⟩) (by rw [hF];simp) hf rfl
   have hb:k.fields[A.length]?=some ⟨aJ0,nE,nE,4,a,a+b,[],[]⟩:=by rw [hF,List.getElem?_append_right (Nat.le_refl _),Nat.sub_self];rfl
   have e1:ab6 k aJ0=A.length:=aT7 hN hb
   simp only [ac2]
   rw [if_neg (by simp),if_neg (by simp),if_neg (by simp),if_pos trivial,dayE,kat hk]
   simp only
   rw [if_neg (by decide +kernel),e1,if_neg (by simp;omega),Int.toNat_natCast,hb]
   rfl
theorem HX.leads {i j:Nat} {k:Knd} {f:Fld} (hk:x.kinds[i]?=some k) (hf:k.fields[j]?=some f):ac2 x i j f=0:=by
 have hN:=(H.form i k hk).nodup
 have hF:=H.form i k hk
 have hmf:=List.mem_of_getElem? hf
 obtain ⟨lo,r,idl,f1,f2,p1,p2,tt,h1,h2,h3,h4,h5,h6,h7,h8,h9,h10⟩:=hF
 have hK:k.fields=idF idl :: (f1 ++ (f2 ++ (p1 ++ (p2 ++ tt)))):=by rw [h4]
 have hmf2:=hmf
 rw [hK] at hmf2
 rcases List.mem_cons.1 hmf2 with rfl|hm
 ·obtain ⟨rfl,_⟩:=at_mem hN (A:=[]) (c:=idF idl) hK hf rfl
  simp [ac2,idF]
 rcases List.mem_append.1 hm with hm|hm
 ·rcases h5 with rfl|⟨t,lo1,hi1,sm,pt,hti,hl1,hh1,hs,hp,rfl⟩
  ·cases hm
  obtain ⟨y,hy⟩:=HX.below hk hti
  have hof:k.fields[1]?=some (ofN t lo1 hi1):=by rw [hK];rfl
  rcases List.mem_cons.1 hm with rfl|hm
  ·simp only [ac2]
   rw [H.up1 hk hf hy hti rfl rfl,if_neg (by simp [ofN]),if_neg (by simp [ofN]),if_pos (by simp [ofN]),if_neg (by omega)]
  have hj:1<j:=by
   refine Nat.lt_of_not_le fun hle=>?_
   have h01:j=0∨j=1:=by omega
   rcases h01 with rfl|rfl
   ·rw [hK] at hf;cases hf
    rcases List.mem_append.1 hm with hm|hm
    ·rcases hs with rfl|⟨_,_,_,_,_,_,rfl⟩
     ·cases hm
     ·rw [List.mem_singleton] at hm;cases hm
    ·rcases hp with rfl|⟨_,_,_,_,_,_,_,_,rfl⟩
     ·cases hm
     ·rw [List.mem_singleton] at hm;cases hm
   ·rw [hof] at hf;cases hf
    rcases List.mem_append.1 hm with hm|hm
    ·rcases hs with rfl|⟨_,_,_,_,_,_,rfl⟩
     ·cases hm
     ·rw [List.mem_singleton] at hm;cases hm
    ·rcases hp with rfl|⟨_,_,_,_,_,_,_,_,rfl⟩
     ·cases hm
     ·rw [List.mem_singleton] at hm;cases hm
  rcases List.mem_append.1 hm with hm|hm
  ·rcases hs with rfl|⟨y',n,g,hy',hg,hpk,rfl⟩
   ·cases hm
   rw [hy] at hy';cases hy'
   rw [List.mem_singleton] at hm;subst hm
   have hu:=H.up7 hk hf hy hti (.inr rfl) rfl hof hj
   have hg0:=H.kd y (List.mem_of_getElem? hy) g (List.mem_of_getElem? hg)
   have hx:ab6 y g.name=n:=aT7 (H.form t y hy).nodup hg
   simp only [ao4,Bool.and_eq_true,Bool.not_eq_true',decide_eq_false_iff_not] at hpk
   have ha:abvR x i j (at5 g.name)=(g.kind,g):=by
    unfold abvR topF
    rw [hu,if_neg (by omega),kat hy]
    simp only [at5]
    rw [hx,fat hy,hg]
   simp only [ac2]
   rw [if_neg (by simp [at5]),if_neg (by simp [at5]),if_neg (by simp [at5]),if_neg (by simp [at5]),if_neg (by simp [at5]),if_neg (by simp [at5]),hu,aP8,if_neg (by omega),if_neg (by simp [at5]),ha,if_neg (by simp only;omega)]
  ·rcases hp with rfl|⟨a,b,y',n,_,_,hy',hg,rfl⟩
   ·cases hm
   rw [hy] at hy';cases hy'
   rw [List.mem_singleton] at hm;subst hm
   have hu:=H.up7 hk hf hy hti (.inl rfl) rfl hof hj
   have hx:ab6 y ap4=n:=aT7 (f:=totF (knm i)) (H.form t y hy).nodup hg
   have ha:abvR x i j (aj5 a b)=(6,totF (knm i)):=by
    unfold abvR topF
    rw [hu,if_neg (by omega),kat hy]
    simp only [aj5]
    rw [hx,fat hy,hg]
    rfl
   simp only [ac2]
   rw [if_neg (by simp [aj5]),if_neg (by simp [aj5]),if_neg (by simp [aj5]),if_neg (by simp [aj5]),if_neg (by simp [aj5]),if_neg (by simp [aj5]),hu,aP8,if_neg (by omega),if_pos (by simp [aj5]),ha,if_pos ⟨rfl,H.kix hk⟩]
 rcases List.mem_append.1 hm with hm|hm
 ·rcases h6 with rfl|⟨hi0,rfl⟩
  ·cases hm
  rw [List.mem_singleton] at hm;subst hm
  obtain ⟨y,hy⟩:=HX.below hk hi0
  simp only [ac2]
  rw [H.up1 hk hf hy hi0 rfl rfl,if_neg (by simp [byN]),if_neg (by simp [byN]),if_pos (by simp [byN]),if_neg (by omega)]
 rcases List.mem_append.1 hm with hm|hm
 ·exact H.plain hk h7 (A:=idF idl :: (f1 ++ f2)) (B:=p2 ++ tt) (by rw [hK];simp) hf hm
 rcases List.mem_append.1 hm with hm|hm
 ·exact H.plain hk h8 (A:=idF idl :: (f1 ++ (f2 ++ p1))) (B:=tt) (by rw [hK];simp) hf hm
 ·rcases h10 with rfl|⟨j',kj,hij,hkj,hP,rfl⟩
  ·cases hm
  rw [List.mem_singleton] at hm;subst hm
  have e:ab3 x (totF (knm j')).of=j':=H.kix hkj
  have hno:aj4 x i (totF (knm j'))=false:=by
   rw [aj4,e]
   simp [totF];omega
  simp only [ac2]
  rw [if_neg (by simp [totF]),if_neg (by simp [totF]),if_neg (by simp [totF]),if_neg (by simp [totF]),if_neg (by simp [totF]),if_pos (by simp [totF]),al7,hno]
  simp only [Bool.false_eq_true,if_false]
  rw [e,if_neg (by omega),if_pos (H.shares hk hij hkj hP)]
end
section
open Go
theorem GenX.hx {x:Sch} (h:GenX x):HX x where
 nk:=h.nk.2
 form:=h.ks.form
 kd:=fun k hk f hf=>((h.cls.ks k hk).fs f hf).kd.1
 life:=by
  obtain ⟨m,mv,_,_,hl,_⟩:=h.ls
  rw [hl];simp [ar9]
theorem be0 {t:Nat} (h:t≤2):isNm (knm t)=true:=by
 obtain rfl|rfl|rfl:t=0∨t=1∨t=2:=by omega
 all_goals decide +kernel
theorem eNE:isE nE=true:=by decide +kernel
theorem PlainF.ok {p:List Fld} (h:PlainF p):∀ f∈p,ab0 f=true:=by
 cases h with
 | none=>simp
 | size a b ha hb=>
  intro f hf;rw [List.mem_singleton] at hf;subst hf
  (simp only [ab0,Bool.and_eq_true];refine ⟨⟨by decide +kernel,?_⟩,?_⟩)
  ·(simp [an3,ag6,ag5,ag7,ag1,ag0,eNE])
  ·simp [al9,an2];omega
 | tag n ws hn hw h0 h1=>
  intro f hf;rw [List.mem_singleton] at hf;subst hf
  (simp only [ab0,Bool.and_eq_true];refine ⟨⟨by decide +kernel,?_⟩,?_⟩)
  ·(simp [an3,ag6,ag5,ag7,ag1,ag0,eNE])
  ·have hs:0<ws.sum:=by
    obtain ⟨w,hw1,hw2⟩:=h1
    clear hw
    induction ws with
    | nil=>cases hw1
    | cons z zs ih=>
     have hz:=h0 z (by simp)
     have hnn:∀ l:List Int,(∀ w∈l,0≤w∧w≤4)→0≤l.sum:=fun l=>by
      induction l with
      | nil=>simp
      | cons q l ih=>intro hl;have:=hl q (by simp);have:=ih fun w hw=>hl w (by simp [hw]);simp;omega
     rw [List.sum_cons]
     rcases List.mem_cons.1 hw1 with rfl|hw1
     ·have:=hnn zs fun w hw=>h0 w (by simp [hw]);omega
     ·have:=ih (fun w hw=>h0 w (by simp [hw])) hw1;omega
   have hg:ws.all (fun n=>ab5 n 0 1048576)=true:=by
    rw [List.all_eq_true];intro w hw;have:=h0 w hw;simp [ab5];omega
   have hwd:([nRed,aN4,nBlue].take n).all isNm=true:=by
    rw [List.all_eq_true];intro w hw
    have:=List.mem_of_mem_take hw
    simp only [List.mem_cons,List.not_mem_nil,or_false] at this
    rcases this with rfl|rfl|rfl <;> decide +kernel
   have hl:([nRed,aN4,nBlue].take n).length=n:=by rw [List.length_take];simp;omega
   simp only [al9]
   rw [if_neg (by simp),if_neg (by simp),if_neg (by simp),if_pos trivial,af1,hg,hwd,hl,hw]
   simp [ab5];omega
 | born a b c d ha hb hc hd=>
  intro f hf
  simp only [List.mem_cons,List.not_mem_nil,or_false] at hf
  rcases hf with rfl|rfl
  ·(simp only [ab0,Bool.and_eq_true];refine ⟨⟨by decide +kernel,?_⟩,?_⟩)
   ·(simp [an3,ag6,ag5,ag7,ag1,ag0,eNE])
   ·simp [al9,an2,eNE];omega
  ·(simp only [ab0,Bool.and_eq_true];refine ⟨⟨by decide +kernel,?_⟩,?_⟩)
   ·(simp [an3,ag6,ag5,ag7,ag1,ag0,eNE])
   ·have:isNm aJ0=true:=by decide +kernel
    simp [al9,an2,this];omega
 | state a b ha hb=>
  intro f hf;rw [List.mem_singleton] at hf;subst hf
  (simp only [ab0,Bool.and_eq_true];refine ⟨⟨by decide +kernel,?_⟩,?_⟩)
  ·(simp [an3,ag6,ag5,ag7,ag1,ag0,eNE])
  ·have:isNm nLife=true:=by decide +kernel
   simp [al9,an2,this];omega
 | low a b c d ha hb hc hd=>
  intro f hf
  simp only [List.mem_cons,List.not_mem_nil,or_false] at hf
  rcases hf with rfl|rfl
  ·(simp only [ab0,Bool.and_eq_true];refine ⟨⟨by decide +kernel,?_⟩,?_⟩)
   ·(simp [an3,ag6,ag5,ag7,ag1,ag0,eNE])
   ·simp [al9,an2];omega
  ·(simp only [ab0,Bool.and_eq_true];refine ⟨⟨by decide +kernel,?_⟩,?_⟩)
   ·(simp [an3,ag6,ag5,ag7,ag1,ag0,eNE])
   ·simp [al9,an2];omega
theorem PlainF.nm {p:List Fld} (h:PlainF p):∀ f∈p,isNm f.name=true:=fun f hf=>by
 have:=h.ok f hf
 simp only [ab0,Bool.and_eq_true] at this
 exact this.1.1
theorem KForm.nms {ks:List Knd} {i:Nat} {k:Knd} (h:KForm ks i k):∀ f∈k.fields,isNm f.name=true:=by
 obtain ⟨lo,r,idl,f1,f2,p1,p2,tt,h1,h2,h3,rfl,h5,h6,h7,h8,h9,h10⟩:=h
 intro f hf
 rcases List.mem_cons.1 hf with rfl|hf
 ·show isNm nId=true;decide +kernel
 rcases List.mem_append.1 hf with hf|hf
 ·have:=(h5.nms).subset (List.mem_map_of_mem (f:=Fld.name) hf)
  simp only [List.mem_cons,List.not_mem_nil,or_false] at this
  rcases this with e|e|e <;> rw [e] <;> decide +kernel
 rcases List.mem_append.1 hf with hf|hf
 ·rcases h6 with rfl|⟨_,rfl⟩
  ·cases hf
  ·rw [List.mem_singleton] at hf;subst hf;show isNm nBy=true;decide +kernel
 rcases List.mem_append.1 hf with hf|hf
 ·exact h7.nm f hf
 rcases List.mem_append.1 hf with hf|hf
 ·exact h8.nm f hf
 ·have:=(h10.nms).subset (List.mem_map_of_mem (f:=Fld.name) hf)
  simp only [List.mem_cons,List.not_mem_nil,or_false] at this
  rw [this];decide +kernel
theorem HX.field {x:Sch} (H:HX x) {i:Nat} {k:Knd} (hk:x.kinds[i]?=some k):∀ f∈k.fields,ab0 f=true:=by
 have hF:=H.form i k hk
 have hil:i≤2:=by have:=(List.getElem?_eq_some_iff.1 hk).1;have:=H.nk;omega
 have hnm:=hF.nms
 obtain ⟨lo,r,idl,f1,f2,p1,p2,tt,h1,h2,h3,rfl,h5,h6,h7,h8,h9,h10⟩:=hF
 intro f hf
 have hn:=hnm f hf
 rcases List.mem_cons.1 hf with rfl|hf
 ·simp only [ab0,hn,Bool.true_and,Bool.and_eq_true]
  refine ⟨by simp [an3,ag6,ag5,ag7,ag1,ag0,eNE,idF],?_⟩
  simp only [List.mem_cons,List.not_mem_nil,or_false] at h3
  rcases h3 with rfl|rfl|rfl|rfl <;> simp [al9,idF,ab5]
 rcases List.mem_append.1 hf with hf|hf
 ·rcases h5 with rfl|⟨t,lo1,hi1,sm,pt,hti,hl1,hh1,hs,hp,rfl⟩
  ·cases hf
  rcases List.mem_cons.1 hf with rfl|hf
  ·simp only [ab0,hn,Bool.true_and,Bool.and_eq_true]
   refine ⟨by simp [an3,ag6,ag5,ag7,ag1,ag0,eNE,ofN],?_⟩
   have:=be0 (t:=t) (by omega)
   simp only [List.mem_cons,List.not_mem_nil,or_false] at hh1
   rcases hl1 with rfl|rfl <;> rcases hh1 with rfl|rfl|rfl|rfl <;> simp [al9,ofN,this,an2]
  have eof:isNm nOf=true:=by decide +kernel
  have ett:isNm ap4=true:=by decide +kernel
  rcases List.mem_append.1 hf with hf|hf
  ·rcases hs with rfl|⟨y,n,g,hy,hg,hpk,rfl⟩
   ·cases hf
   rw [List.mem_singleton] at hf;subst hf
   have:=(H.form t y hy).nms g (List.mem_of_getElem? hg)
   simp only [ab0,hn,Bool.true_and,Bool.and_eq_true]
   exact ⟨by simp [an3,ag6,ag5,ag7,ag1,ag0,eNE,at5],by simp [al9,at5,this,eof]⟩
  ·rcases hp with rfl|⟨a,b,y,n,ha,hb,hy,hg,rfl⟩
   ·cases hf
   rw [List.mem_singleton] at hf;subst hf
   simp only [ab0,hn,Bool.true_and,Bool.and_eq_true]
   exact ⟨by simp [an3,ag6,ag5,ag7,ag1,ag0,eNE,aj5],by simp [al9,aj5,ett,eof,an2];exact ⟨decide_eq_true (by omega),decide_eq_true (by omega),decide_eq_true (by omega)⟩⟩
 rcases List.mem_append.1 hf with hf|hf
 ·rcases h6 with rfl|⟨_,rfl⟩
  ·cases hf
  ·rw [List.mem_singleton] at hf;subst hf
   have:=be0 (t:=0) (by omega)
   simp only [ab0,hn,Bool.true_and,Bool.and_eq_true]
   exact ⟨by simp [an3,ag6,ag5,ag7,ag1,ag0,eNE,byN],by simp [al9,byN,this,an2]⟩
 rcases List.mem_append.1 hf with hf|hf
 ·exact h7.ok f hf
 rcases List.mem_append.1 hf with hf|hf
 ·exact h8.ok f hf
 ·rcases h10 with rfl|⟨j,kj,hij,hkj,hP,rfl⟩
  ·cases hf
  ·rw [List.mem_singleton] at hf;subst hf
   have:=be0 (t:=j) (by have:=(List.getElem?_eq_some_iff.1 hkj).1;have:=H.nk;omega)
   simp only [ab0,hn,Bool.true_and,Bool.and_eq_true]
   exact ⟨by simp [an3,ag6,ag5,ag7,ag1,ag0,eNE,totF],by simp [al9,totF,this]⟩
def RName (n:ByteArray) (t:Nat):Prop:=n=aH7 ++ (knm t).extract 0 1∨n=be1 ++ (knm t).extract 0 1∨n=aH8 ++ (knm t).extract 0 1
theorem rname_ne {a b:ByteArray} {s t:Nat} (hst:s<t) (ht:t≤2) (h:RName a s) (k:RName b t):a≠b:=by
 obtain ⟨rfl,rfl⟩|⟨rfl,rfl⟩|⟨rfl,rfl⟩:(s=0∧t=1)∨(s=0∧t=2)∨(s=1∧t=2):=by omega
 all_goals rcases h with rfl|rfl|rfl <;> rcases k with rfl|rfl|rfl <;> decide +kernel
theorem rname_nm {a:ByteArray} {t:Nat} (ht:t≤2) (h:RName a t):isNm a=true:=by
 obtain rfl|rfl|rfl:t=0∨t=1∨t=2:=by omega
 all_goals rcases h with rfl|rfl|rfl <;> decide +kernel
theorem RuleF.rn {k:Knd} {r:Rul} {t:Nat} (h:RuleF k r) (hn:k.name=knm t):RName r.name t:=by
 cases h with
 | low n h hn'=>exact .inl (by rw [hn])
 | most f n h hf hn'=>exact .inr (.inl (by rw [hn]))
 | least f n h hf hn'=>exact .inr (.inr (by rw [hn]))
theorem RChain.facts {ks:List Knd} {i:Nat} {rs:List Rul} (h:RChain ks i rs) (hN:∀ (t:Nat) y,ks[t]?=some y→y.name=knm t) (hl:ks.length≤3) :
  rs.Pairwise (fun a b=>a.name≠b.name)∧∀ r∈rs,∃ t k,t<i∧ks[t]?=some k∧RuleF k r:=by
 induction h with
 | nil=>simp
 | skip h ih=>exact ⟨ih.1,fun r hr=>by obtain ⟨t,k,h1,h2⟩:=ih.2 r hr;exact ⟨t,k,by omega,h2⟩⟩
 | @take i rs k r h hk hr ih=>
  refine ⟨List.pairwise_append.2 ⟨ih.1,by simp,fun a ha b hb=>?_⟩,fun q hq=>?_⟩
  ·rw [List.mem_singleton] at hb;subst hb
   obtain ⟨t,k2,h1,h2,h3⟩:=ih.2 a ha
   exact rname_ne h1 (by have:=(List.getElem?_eq_some_iff.1 hk).1;omega) (h3.rn (hN t k2 h2)) (hr.rn (hN i k hk))
  ·rcases List.mem_append.1 hq with hq|hq
   ·obtain ⟨t,k2,h1,h2⟩:=ih.2 q hq;exact ⟨t,k2,by omega,h2⟩
   ·rw [List.mem_singleton] at hq;subst hq;exact ⟨i,k,by omega,hk,hr⟩
def LowOK (F:List Fld) (f:Fld):Prop:=(f.name=nLow→f.kind=2∧∃ g∈F,g.name=nHigh∧g.kind=2)∧(f.name=nSize→f.kind=2)
theorem PlainF.low_ok {p:List Fld} (h:PlainF p) {F:List Fld} (hs:∀ f∈p,f∈F):∀ f∈p,LowOK F f:=by
 cases h with
 | none=>simp
 | low a b c d ha hb hc hd=>
  intro f hf
  simp only [List.mem_cons,List.not_mem_nil,or_false] at hf
  rcases hf with rfl|rfl
  ·exact ⟨fun _=>⟨rfl,⟨nHigh,nE,nE,2,c,10+d,[],[]⟩,hs _ (by simp),rfl,rfl⟩,fun _=>rfl⟩
  ·exact ⟨fun h=>absurd h (by show ¬ nHigh=nLow;decide +kernel),fun _=>rfl⟩
 | _=>
  intro f hf
  simp only [List.mem_cons,List.not_mem_nil,or_false] at hf
  rcases hf with rfl|rfl <;> refine ⟨fun h=>?_,fun h=>?_⟩ <;> first|rfl|(exfalso;simp only at h;revert h;decide +kernel)
end
section
open Go
theorem KForm.low {ks:List Knd} {i:Nat} {k:Knd} (h:KForm ks i k):∀ f∈k.fields,LowOK k.fields f:=by
 obtain ⟨lo,r,idl,f1,f2,p1,p2,tt,h1,h2,h3,rfl,h5,h6,h7,h8,h9,h10⟩:=h
 intro f hf
 have hnot:∀ n∈[nId,nOf,nSame,nPart,nBy,ap4],n≠nLow∧n≠nSize:=by decide +kernel
 have no:f.name∈[nId,nOf,nSame,nPart,nBy,ap4]→LowOK (idF idl :: (f1 ++ (f2 ++ (p1 ++ (p2 ++ tt))))) f:=fun hm=>⟨fun e=>absurd e (hnot _ hm).1,fun e=>absurd e (hnot _ hm).2⟩
 have hf0:=hf
 rcases List.mem_cons.1 hf with rfl|hf
 ·exact no (by simp [idF])
 rcases List.mem_append.1 hf with hf|hf
 ·have:=(h5.nms).subset (List.mem_map_of_mem (f:=Fld.name) hf)
  exact no (by simp only [List.mem_cons,List.not_mem_nil,or_false] at this ⊢;rcases this with e|e|e <;> simp [e])
 rcases List.mem_append.1 hf with hf|hf
 ·rcases h6 with rfl|⟨_,rfl⟩
  ·cases hf
  ·rw [List.mem_singleton] at hf;subst hf;exact no (by simp [byN])
 rcases List.mem_append.1 hf with hf|hf
 ·exact h7.low_ok (fun f hf=>by simp [hf]) f hf
 rcases List.mem_append.1 hf with hf|hf
 ·exact h8.low_ok (fun f hf=>by simp [hf]) f hf
 ·have:=(h10.nms).subset (List.mem_map_of_mem (f:=Fld.name) hf)
  exact no (by simp only [List.mem_cons,List.not_mem_nil,or_false] at this ⊢;simp [this])
variable {x:Sch}
theorem HX.ruleNm (H:HX x) {i:Nat} {k:Knd} (hk:x.kinds[i]?=some k) {f:Fld} (hf:f∈k.fields) (h2:f.kind=2):ae9 x k i f.name=false∧ac7 x k i f.name=false:=by
 obtain ⟨j,hj⟩:=List.getElem?_of_mem hf
 have e:=aT7 (H.form i k hk).nodup hj
 have ha:atR x i (ab6 k f.name)=(f,true):=by rw [atR,e,fat hk,hj]
 exact ⟨by simp [ae9,ha],by simp [ac7,ha,h2]⟩
theorem nm_none (k:Knd) (i:Int):ae9 x k i nE=false∧ac7 x k i nE=false:=by simp [ae9,ac7,eNE]
theorem firstC0 {a b c d:Bool} (h1:a=false) (h2:b=false) (h3:c=false) (h4:d=false) {n1 n2 n3 n4:Int}:am5 [(a,n1),(b,n2),(c,n3),(d,n4)]=0:=by subst h1 h2 h3 h4;rfl
theorem GenX.rule0 (h:GenX x) {n:Nat} {r:Rul} (hr:x.rules[n]?=some r):aw6 x n r=0:=by
 have H:=h.hx
 obtain ⟨i,_,hc⟩:=h.rs
 have hN:∀ (t:Nat) y,x.kinds[t]?=some y→y.name=knm t:=fun t y hy=>(H.form t y hy).name
 obtain ⟨hp,hm⟩:=hc.facts hN H.nk
 obtain ⟨t,k,_,hk,hR⟩:=hm r (List.mem_of_getElem? hr)
 have htw:ae7 x n r=false:=by
  unfold ae7
  rw [List.any_eq_false]
  intro s hs e
  obtain ⟨m,hm⟩:=List.getElem?_of_mem hs
  have hlt:m<n:=by have:=(List.getElem?_eq_some_iff.1 hm).1;rw [List.length_take] at this;omega
  rw [List.getElem?_take_of_lt hlt] at hm
  obtain ⟨l1,e1⟩:=List.getElem?_eq_some_iff.1 hm
  obtain ⟨l2,e2⟩:=List.getElem?_eq_some_iff.1 hr
  exact List.pairwise_iff_getElem.1 hp m n l1 l2 hlt (by rw [e1,e2];exact (aG0 _ _).1 e)
 have hkr:∀ n:ByteArray,n=k.name→ab3 x n=t:=fun n e=>by rw [e,hN t k hk];exact H.kix hk
 have low:=(H.form t k hk).low
 unfold aw6
 cases hR with
 | low n2 hl hn=>
  rw [hkr _ rfl,kat hk]
  obtain ⟨f,hf,e⟩:=has_pos hl
  obtain ⟨k2,g,hg,e2,g2⟩:=(low f hf).1 e
  have a1:=H.ruleNm hk hf k2
  have a2:=H.ruleNm hk hg g2
  rw [e] at a1;rw [e2] at a2
  exact firstC0 htw (by simp only [a1.1,a2.1];rfl) (by simp only [a1.2,a2.2];rfl) (by show seq nLow nHigh=false;decide +kernel)
 | most f2 n2 hl hf2 hn=>
  rw [hkr _ rfl,kat hk]
  obtain ⟨f,hf,e⟩:=has_pos hl
  have a1:=H.ruleNm hk hf ((low f hf).2 e)
  have a2:=nm_none (x:=x) k t
  rw [e] at a1
  exact firstC0 htw (by simp only [a1.1,a2.1];rfl) (by simp only [a1.2,a2.2];rfl) (by show seq nSize nE=false;decide +kernel)
 | least f2 n2 hl hf2 hn=>
  rw [hkr _ rfl,kat hk]
  obtain ⟨f,hf,e⟩:=has_pos hl
  have a1:=H.ruleNm hk hf ((low f hf).2 e)
  have a2:=nm_none (x:=x) k t
  rw [e] at a1
  exact firstC0 htw (by simp only [a1.1,a2.1];rfl) (by simp only [a1.2,a2.2];rfl) (by show seq nE nSize=false;decide +kernel)
theorem GenX.valid (h:GenX x):al3 x=true:=by
 have H:=h.hx
 have C:=h.cls
 have hN:∀ (t:Nat) y,x.kinds[t]?=some y→y.name=knm t:=fun t y hy=>(H.form t y hy).name
 simp only [al3,Bool.and_eq_true,List.all_eq_true,decide_eq_true_eq]
 refine ⟨⟨⟨⟨⟨⟨?_,?_⟩,?_⟩,?_⟩,fun k hk=>?_⟩,fun l hl=>?_⟩,fun r hr=>?_⟩
 ·have:=h.ver;simp [ab5];omega
 ·have:=H.nk;omega
 ·have:=C.nl;omega
 ·have:=h.nr;omega
 ·obtain ⟨i,hi⟩:=List.getElem?_of_mem hk
  have hil:i≤2:=by have:=(List.getElem?_eq_some_iff.1 hi).1;have:=H.nk;omega
  have hnf:=(C.ks k hk).nf
  have hfa:=H.field hi
  simp only [ak9,Bool.and_eq_true,List.all_eq_true,decide_eq_true_eq]
  refine ⟨⟨⟨by rw [hN i k hi];exact be0 hil,?_⟩,hnf⟩,hfa⟩
  obtain ⟨lo,r,idl,f1,f2,p1,p2,tt,h1,h2,h3,rfl,_⟩:=H.form i k hi
  simp only [List.mem_cons,List.not_mem_nil,or_false] at h1
  simp [an2];omega
 ·obtain ⟨m,mv,hm1,hm2,he,hml,hmq⟩:=h.ls
  rw [he,List.mem_singleton] at hl
  subst hl
  have hlen:(stL.take m).length=m:=by rw [List.length_take];simp;omega
  have hst:(stL.take m).all isNm=true:=by
   rw [List.all_eq_true];intro w hw
   have:=List.mem_of_mem_take hw
   simp only [stL,List.mem_cons,List.not_mem_nil,or_false] at this
   rcases this with rfl|rfl|rfl|rfl <;> decide +kernel
  have hmv:mv.all (moveB m)=true:=by
   rw [List.all_eq_true];intro p hp
   have:=hmq p hp
   simp [moveB,ab5];omega
  have hnl:isNm nLife=true:=by decide +kernel
  simp only [an4,hlen,hst,hmv,hnl,Bool.true_and,Bool.and_true,Bool.and_eq_true,decide_eq_true_eq,ab5]
  omega
 ·obtain ⟨i,_,hc⟩:=h.rs
  obtain ⟨_,hm⟩:=hc.facts hN H.nk
  obtain ⟨t,k,_,hk,hR⟩:=hm r hr
  have htl:t≤2:=by have:=(List.getElem?_eq_some_iff.1 hk).1;have:=H.nk;omega
  have e1:=rname_nm htl (hR.rn (hN t k hk))
  have e2:isNm r.kind=true:=by
   have:r.kind=k.name:=by cases hR <;> rfl
   rw [this,hN t k hk];exact be0 htl
  have e3:ab5 r.n (-1048576) 1048576=true:=by have:=(C.rs r hr).n;simp [ab5];omega
  have e4:(isE r.a || isNm r.a)=true∧(isE r.b || isNm r.b)=true∧(!(isE r.a && isE r.b))=true:=by
   cases hR <;> (simp only;decide +kernel)
  simp only [aq9,e1,e2,e3,e4.1,e4.2.1,e4.2.2,Bool.and_self]
theorem aJ3 {α:Type} {q:Nat} {g:Nat→List α} (h:∀ i,i<q→g i=[]):upTo q g=[]:=by
 unfold upTo
 rw [List.flatMap_eq_nil_iff]
 intro i hi
 exact h i (List.mem_range.1 hi)
theorem GenX.probs0 (h:GenX x):au4 x=[]:=by
 have H:=h.hx
 have hv:af9 x=0:=by rw [af9,h.valid];rfl
 rw [au4,if_pos hv,aJ3,aJ3,aJ3]
 ·rfl
 ·intro i hi
  unfold aQ3
  rw [List.getElem?_eq_getElem hi]
  simp only
  rw [h.rule0 (List.getElem?_eq_getElem hi),one0]
 ·intro i hi
  have hk:=List.getElem?_eq_getElem hi
  unfold ak8
  rw [hk]
  simp only
  generalize x.kinds[i]=k at hk
  have hkE:am9 x i k=0:=by
   have hF:=H.form i k hk
   rw [am9,hF.name,H.kix hk,if_neg (by omega)]
   obtain ⟨lo,r,idl,f1,f2,p1,p2,tt,h1,h2,h3,rfl,_⟩:=hF
   rfl
  rw [hkE,one0,List.nil_append,aJ3]
  intro j hj
  have hf:=List.getElem?_eq_getElem hj
  unfold ag3
  rw [hf]
  simp only
  generalize k.fields[j]=f at hf
  rw [aI5,aT7 (H.form i k hk).nodup hf,if_neg (by omega),H.leads hk hf,one0]
 ·intro i hi
  obtain ⟨m,mv,_,_,he,_⟩:=h.ls
  rw [he] at hi
  obtain rfl:i=0:=by simp at hi;omega
  unfold aN7
  rw [he]
  simp [aE2,one0]
theorem total_le {w:Wd} {n:Nat} (h:∀ l∈w,l.length≤n):aA6 w≤w.length*n:=by
 unfold aA6
 induction w with
 | nil=>simp
 | cons a l ih=>
  have:=h a (by simp)
  have:=ih fun b hb=>h b (by simp [hb])
  simp only [List.map_cons,List.sum_cons,List.length_cons,Nat.add_mul];omega
theorem MadeW.fits {w:Wd} (h:GenX x) (m:MadeW x w):aw8 x w=true:=by
 have H:=h.hx
 simp only [aw8,be7,Bool.and_eq_true,List.all_eq_true,decide_eq_true_eq]
 refine ⟨⟨⟨m.len,fun k hk l hl=>?_⟩,fun r hr l hl=>?_⟩,?_⟩
 ·have hkw:=List.mem_range.1 hk
  have e:=List.getElem?_eq_getElem hkw
  have hkx:k<x.kinds.length:=by rw [← m.len];exact hkw
  have e2:x.kinds[k]?=some x.kinds[k]:=List.getElem?_eq_getElem hkx
  rw [aa3 e] at hl
  have:=((m.ok k _ e).recs _ e2 l hl).len
  simp [lenOk,e2,this]
 ·obtain ⟨kd,f,h1,h2,h3,h4,_⟩:=az5 hr
  have hkw:r.kind<w.length:=by rw [m.len];exact (List.getElem?_eq_some_iff.1 h1).1
  have e:=List.getElem?_eq_getElem hkw
  rw [aa3 e] at hl
  have hrec:=(m.ok _ _ e).recs _ h1 l hl
  have hlt:r.field<l.length:=by rw [hrec.len];exact (List.getElem?_eq_some_iff.1 h2).1
  have hv:=List.getElem?_eq_getElem hlt
  have hu:0≤upIx x r.kind r.field:=by
   have:=H.leads h1 h2
   simp only [ac2] at this
   rw [if_neg (by omega),if_neg (by omega),if_pos h3] at this
   refine Int.not_lt.1 fun hn=>?_
   rw [if_pos hn] at this;omega
  have b1:=hrec.sm _ (List.mem_of_getElem? hv)
  have b2:=hrec.ref _ _ _ h2 h3 hv hu
  simp only [refOk,h4,List.getD_eq_getElem?_getD,hv,Option.getD_some] at b2 ⊢
  simp;omega
 ·have h1:=total_le (w:=w) (n:=5) fun l hl=>by
   obtain ⟨k,hk⟩:=List.getElem?_of_mem hl
   exact (m.ok k l hk).few
  have:=H.nk;have:=m.len;omega
theorem av9 {w:Wd} {s:Sb} (h:GenX x) (m:MadeW x w) (hs:s.map List.length=w.map List.length):ab8 x w s=0:=by
 rw [ab8,h.probs0,m.fits h]
 simp [ap2,hs]
end
section
open Go
variable {x:Sch} {w:Wd} {s t u:Sb}
def IsBoth (s t u:Sb):Prop:=u.map List.length=s.map List.length∧∀ k i,keptB u k i=(keptB s k i && keptB t k (nowN s k i))
def BothTo (s t:Sb) (j i:Nat) (u:Sb):Prop:=u.map List.length=s.map List.length∧∀ k m,keptB u k m=if k<j∨(k=j∧m<i) then (keptB s k m && keptB t k (nowN s k m)) else keptB s k m
theorem BothTo.zero (s t:Sb):BothTo s t 0 0 s:=⟨rfl,fun k m=>by rw [if_neg (by omega)]⟩
theorem BothTo.next {j i:Nat} {l:List Bool} (h:BothTo s t j i u) (hl:u[j]?=some l) (hi:i<l.length) (hk:keptB s j i=true):BothTo s t j (i+1) (u.set j (l.set i (keptB t j (nowN s j i)))):=by
 refine ⟨?_,fun k m=>?_⟩
 ·rw [← h.1,List.map_set,List.length_set]
  refine List.ext_getElem? fun n=>?_
  by_cases e:n=j
  ·subst e
   rw [List.getElem?_set_self (by rw [List.length_map];exact (List.getElem?_eq_some_iff.1 hl).1),List.getElem?_map,hl];rfl
  ·rw [List.getElem?_set_ne (Ne.symm e)]
 ·rw [kept_set hl hi]
  by_cases e:k=j∧m=i
  ·obtain ⟨rfl,rfl⟩:=e
   rw [if_pos ⟨rfl,rfl⟩,if_pos (by omega),hk,Bool.true_and]
  ·rw [if_neg e,h.2 k m]
   by_cases e2:k<j∨(k=j∧m<i)
   ·rw [if_pos e2,if_pos (by omega)]
   ·rw [if_neg e2,if_neg (by omega)]
theorem BothTo.skip {j i:Nat} (h:BothTo s t j i u) (hk:keptB s j i=false):BothTo s t j (i+1) u:=by
 refine ⟨h.1,fun k m=>?_⟩
 rw [h.2 k m]
 by_cases e:k=j∧m=i
 ·obtain ⟨rfl,rfl⟩:=e
  rw [if_neg (by omega),if_pos (by omega),hk];rfl
 ·by_cases e2:k<j∨(k=j∧m<i)
  ·rw [if_pos e2,if_pos (by omega)]
  ·rw [if_neg e2,if_neg (by omega)]
theorem BothTo.row {j:Nat} {l:List Bool} (h:BothTo s t j l.length u) (hl:s[j]?=some l):BothTo s t (j+1) 0 u:=by
 refine ⟨h.1,fun k m=>?_⟩
 rw [h.2 k m]
 by_cases e:k=j∧l.length≤m
 ·have:keptB s k m=false:=by
   obtain ⟨rfl,e⟩:=e
   exact aJ8 fun l' hl'=>by rw [hl] at hl';cases hl';exact e
  rw [this];simp
 ·by_cases e2:k<j∨(k=j∧m<l.length)
  ·rw [if_pos e2,if_pos (by omega)]
  ·rw [if_neg e2,if_neg (by omega)]
theorem BothTo.all (h:BothTo s t u.length 0 u):IsBoth s t u:=by
 refine ⟨h.1,fun k m=>?_⟩
 rw [h.2 k m]
 have hl:u.length=s.length:=by have:=congrArg List.length h.1;simpa using this
 by_cases e:k<u.length
 ·rw [if_pos (.inl e)]
 ·have:keptB s k m=false:=aJ8 fun l hl2=>by
   have h1:=(List.getElem?_eq_some_iff.1 hl2).1
   omega
  rw [if_neg (by omega),this];rfl
theorem IsBoth.sub (h:IsBoth s t u):Sub u s:=fun k i hk=>by rw [h.2,Bool.and_eq_true] at hk;exact hk.1
theorem now_both (h:IsBoth s t u) (k:Nat):∀ i,nowN u k i=nowN t k (nowN s k i)
 | 0=>rfl
 | i+1=>by
  rw [ao5,ao5 s,now_both h k i,h.2 k i]
  cases hs:keptB s k i with
  | false=>simp
  | true=>simp only [Bool.true_and,if_true];rw [ao5]
def idxK (s:Sb) (k m:Nat):List Nat:=(List.range m).filter (keptB s k)
theorem idx_len (s:Sb) (k m:Nat):(idxK s k m).length=nowN s k m:=rfl
theorem idx_both (h:IsBoth s t u) (k:Nat):∀ i,idxK t k (nowN s k i)=(idxK u k i).map (nowN s k)
 | 0=>rfl
 | i+1=>by
  have ih:=idx_both h k i
  unfold idxK at ih ⊢
  rw [ao5,List.range_succ,List.filter_append,List.map_append]
  cases hs:keptB s k i with
  | false=>
   have hu:keptB u k i=false:=by rw [h.2,hs];rfl
   simp [hu,ih]
  | true=>
   rw [if_pos rfl,List.range_succ,List.filter_append,ih]
   have hu:keptB u k i=keptB t k (nowN s k i):=by rw [h.2,hs];rfl
   cases ht:keptB t k (nowN s k i) <;> simp [ht,hu]
theorem idx_at {k i:Nat} (hk:keptB s k i=true):∀ {m:Nat},i<m→(idxK s k m)[nowN s k i]?=some i
 | 0,h=>by omega
 | m+1,h=>by
  unfold idxK
  rw [List.range_succ,List.filter_append]
  by_cases e:i=m
  ·subst e
   rw [List.getElem?_append_right (by rw [← idx_len];exact Nat.le_refl _)]
   have:nowN s k i - (List.filter (keptB s k) (List.range i)).length=0:=Nat.sub_self _
   rw [this];simp [hk]
  ·have:=idx_at hk (m:=m) (by omega)
   unfold idxK at this
   rw [List.getElem?_append_left (List.getElem?_eq_some_iff.1 this).1]
   exact this
theorem aR6 (w:Wd) (s:Sb) (k m:Nat):ap3 w s k m=(idxK s k m).map fun i=>ar5 w k i:=rfl
theorem aO0 (hF:Fit x w s) {k i:Nat} (hk:keptB s k i=true):k<w.length∧i<wlen w k:=by
 have hp:=be3.1 (ax9 (p:=(k,i)) hk)
 have hl:w.length=s.length:=by have:=congrArg List.length hF.shp;simpa using this
 simp only at hp
 have hkw:k<w.length:=by omega
 obtain ⟨m,hm,e⟩:=ah8 hF.shp (List.getElem?_eq_getElem hkw)
 rw [aa3 hm] at hp
 refine ⟨hkw,?_⟩
 unfold wlen
 rw [aa3 (List.getElem?_eq_getElem hkw)]
 omega
theorem as1 {k:Nat} (h:k<w.length):(outA w s)[k]?=some (ap3 w s k (wlen w k)):=by
 have:=List.getElem?_eq_getElem h
 rw [aD7 this]
 unfold wlen
 rw [aa3 this]
def ac1 (x:Sch) (w:Wd) (s:Sb):Wd:=sumsE x (moved x w s)
theorem aL8:shp (ac1 x w s)=shp (outA w s):=(shp_K _ _ _).trans (ao3 x w s _ (Nat.le_refl _))
theorem aC5:(ac1 x w s).length=w.length:=by
 have:=congrArg List.length (aL8 (x:=x) (w:=w) (s:=s))
 simp only [shp,List.length_map] at this
 rw [this,as2]
theorem ay8 {k:Nat} (h:k<w.length):wlen (ac1 x w s) k=nowN s k (wlen w k):=by
 unfold wlen
 rw [ax2 aL8,aa3 (as1 h),ay9]
 rfl
theorem sum_le {α:Type} {f g:α→Nat}:∀ (l:List α),(∀ a∈l,f a≤g a)→(l.map f).sum≤(l.map g).sum
 | [],_=>Nat.le_refl _
 | a :: l,h=>by
  have:=sum_le l fun b hb=>h b (List.mem_cons_of_mem _ hb)
  have:=h a List.mem_cons_self
  simp only [List.map_cons,List.sum_cons];omega
theorem aS7 (o:Wd):o.map List.length=(List.range o.length).map (wlen o):=by
 refine List.ext_getElem? fun k=>?_
 by_cases h:k<o.length
 ·rw [List.getElem?_map,List.getElem?_map,List.getElem?_range h,List.getElem?_eq_getElem h]
  unfold wlen
  simp only [Option.map_some]
  rw [aa3 (List.getElem?_eq_getElem h)]
 ·rw [List.getElem?_eq_none (by simpa using h),List.getElem?_eq_none (by simpa using h)]
set_option linter.unusedSectionVars false
section
variable (hF:Fit x w s) (hv:ai0 x w s=true)
include hF
theorem out_rec {k i:Nat} (hk:keptB s k i=true):(ap3 w s k (wlen w k))[nowN s k i]?=some (ar5 w k i):=by
 rw [aR6,List.getElem?_map,idx_at hk (aO0 hF hk).2]
 rfl
theorem rec_len {k i:Nat} (hk:keptB s k i=true):(ar5 w k i).length=flen x k:=by
 obtain ⟨h1,h2⟩:=aO0 hF hk
 have hw:=List.getElem?_eq_getElem h1
 unfold wlen at h2
 rw [aa3 hw] at h2
 have hr:=List.getElem?_eq_getElem h2
 have:=aZ4 hF hw (List.mem_of_getElem? hr)
 unfold ar5
 rw [aa3 hw,aa3 hr]
 exact this
theorem aM5 {rf:Rf} (hrf:rf∈aa6 x) {i:Nat} (hk:keptB s rf.kind i=true):rf.field<(ar5 w rf.kind i).length:=by
 rw [rec_len hF hk]
 obtain ⟨kd,g,h1,h2,_⟩:=az5 hrf
 unfold flen
 rw [h1]
 exact (List.getElem?_eq_some_iff.1 h2).1
theorem world_cell {k i f:Nat} (hk:keptB s k i=true) (hn:(ac6 x k f).1<0) (hr:∀ rf∈aa6 x,rf.kind≠k∨rf.field≠f):af6 (ac1 x w s) k (nowN s k i) f=am0 w k i f:=by
 unfold ac1
 rw [bh4 hn]
 unfold moved
 rw [aK1 hr _ (Nat.le_refl _)]
 unfold af6 am0
 rw [aa3 (as1 (aO0 hF hk).1),aa3 (out_rec hF hk)]
theorem aK8 {rf:Rf} (hrf:rf∈aa6 x) {i:Nat} (hk:keptB s rf.kind i=true):af6 (ac1 x w s) rf.kind (nowN s rf.kind i) rf.field=nowN s rf.up.toNat (am0 w rf.kind i rf.field).toNat:=by
 unfold ac1
 rw [bh4 (aM4 hrf)]
 obtain ⟨p,hp⟩:=List.getElem?_of_mem hrf
 unfold moved
 have hl:=as1 (w:=w) (s:=s) (aO0 hF hk).1
 have hr:=out_rec hF hk
 rw [aF2 hp hl hr (aM5 hF hrf hk) _ (List.getElem?_eq_some_iff.1 hp).1 (Nat.le_refl _)]
 unfold aY5 orig am0
 rw [aa3 hl,aa3 hr]
include hv
theorem kept_val {rf:Rf} (hrf:rf∈aa6 x) {i:Nat} (hk:keptB s rf.kind i=true):0≤am0 w rf.kind i rf.field∧keptB s rf.up.toNat (am0 w rf.kind i rf.field).toNat=true:=by
 have hl:=as1 (w:=w) (s:=s) (aO0 hF hk).1
 obtain ⟨v,h1,_,h3⟩:=aY2 hF hv hrf hl (out_rec hF hk)
 have e:am0 w rf.kind i rf.field=(v:Int):=by unfold am0;rw [aa3 h1]
 rw [e]
 exact ⟨by omega,h3⟩
theorem world_in:RefIn x (ac1 x w s):=refIn_sums (moved_in hF hv)
theorem world_sh:Wsh x (ac1 x w s):=(outA_sh hF).shp aL8
theorem world_total:aA6 (ac1 x w s)≤aA6 w:=by
 unfold aA6
 rw [aS7 (ac1 x w s),aS7 w,aC5]
 exact sum_le _ fun k hk=>by rw [ay8 (List.mem_range.1 hk)];exact aY4 _ _ _
theorem aF5:aw8 x (ac1 x w s)=true:=by
 have hsh:=world_sh hF hv
 have hin:=world_in hF hv
 unfold aw8
 simp only [Bool.and_eq_true,decide_eq_true_eq,List.all_eq_true]
 refine ⟨⟨⟨hsh.len,?_⟩,fun rf hrf r hr=>?_⟩,Nat.le_trans (world_total hF hv) (aj6 hF.fit).2.2.2⟩
 ·unfold be7
  rw [List.all_eq_true]
  intro k hk
  rw [List.all_eq_true]
  intro r hr
  have hkl:=List.getElem?_eq_getElem (List.mem_range.1 hk)
  rw [aa3 hkl] at hr
  have:=hsh.row k _ hkl r hr
  unfold lenOk
  unfold flen at this
  rw [decide_eq_true_eq,this]
  cases x.kinds[k]? <;> rfl
 ·have:=hin rf hrf r hr
  unfold refOk
  simp only [Bool.not_eq_true',Bool.or_eq_false_iff,decide_eq_false_iff_not]
  omega
theorem aU9:Ws (ac1 x w s):=by
 have hsh:=world_sh hF hv
 refine ⟨by rw [aC5];exact hF.ws.nk,hsh.nr,fun l hl r hr=>?_⟩
 obtain ⟨k,hk⟩:=List.getElem?_of_mem hl
 rw [hsh.row k l hk r hr]
 unfold flen
 cases hx:x.kinds[k]? with
 | none=>simp
 | some kd=>have:=hF.snd.vld.nf kd (List.mem_of_getElem? hx);simp only;omega
theorem ba7 (ht:t.map List.length=(ac1 x w s).map List.length):Fit x (ac1 x w s) t:=by
 have hws:=aU9 hF hv
 refine ⟨hF.snd,hws,⟨?_,?_⟩,aF5 hF hv,ht.symm⟩
 ·have:=congrArg List.length ht
  simp at this
  rw [this];exact hws.nk
 ·intro l hl
  have:l.length∈t.map List.length:=List.mem_map.2 ⟨l,hl,rfl⟩
  rw [ht] at this
  obtain ⟨m,hm,e⟩:=List.mem_map.1 this
  rw [← e];exact hws.nr m hm
theorem count_both (h:IsBoth s t u) {rf:Rf} (hrf:rf∈aa6 x) {i:Nat} (hi:keptB s rf.up.toNat i=true):ad4 w u rf i=ad4 (ac1 x w s) t rf (nowN s rf.up.toNat i):=by
 obtain ⟨u1,u2,u3⟩:=hF.snd.up rf hrf
 have hkw:rf.kind<w.length:=by rw [(aj6 hF.fit).1];exact u3
 have hl:((ac1 x w s).getD rf.kind []).length=nowN s rf.kind (wlen w rf.kind):=ay8 hkw
 unfold ad4
 rw [hl]
 have key:∀ J,(List.range J).countP (fun j=>keptB u rf.kind j && decide (am0 w rf.kind j rf.field=i))=(List.range (nowN s rf.kind J)).countP (fun j=>keptB t rf.kind j && decide (am0 (ac1 x w s) rf.kind j rf.field=((nowN s rf.up.toNat i:Nat):Int))):=by
  intro J
  induction J with
  | zero=>rfl
  | succ J ih=>
   rw [av0,ih,ao5,h.2]
   cases hs:keptB s rf.kind J with
   | false=>simp
   | true=>
    simp only [Bool.true_and,if_true]
    rw [av0]
    have e:decide (am0 w rf.kind J rf.field=i)=decide (am0 (ac1 x w s) rf.kind (nowN s rf.kind J) rf.field=((nowN s rf.up.toNat i:Nat):Int)):=by
     have hc:am0 (ac1 x w s) rf.kind (nowN s rf.kind J) rf.field=_:=aK8 hF hrf hs
     obtain ⟨v0,vk⟩:=kept_val hF hv hrf hs
     rw [hc]
     obtain ⟨v,ev⟩:∃ v:Nat,am0 w rf.kind J rf.field=v:=⟨_,(Int.toNat_of_nonneg v0).symm⟩
     rw [ev,Int.toNat_natCast] at vk ⊢
     refine decide_eq_decide.2 ⟨fun e=>by rw [show v=i by omega],fun e=>?_⟩
     rcases Nat.lt_trichotomy v i with q|q|q
     ·have:=aY3 q vk;omega
     ·omega
     ·have:=aY3 q hi;omega
    rw [e]
 exact key _
theorem both_right (h:IsBoth s t u) (ht:Right x (ac1 x w s) t):Right x w u:=by
 have hs:=aW2 hv
 intro k i hk
 rw [h.2,Bool.and_eq_true] at hk
 obtain ⟨hks,hkt⟩:=hk
 have R:=ht _ _ hkt
 unfold aw3 at R ⊢
 rw [List.any_eq_false] at R ⊢
 intro rf hrf
 have R1:=R rf hrf
 unfold aA4 at R1 ⊢
 simp only [Bool.or_eq_true,Bool.and_eq_true,decide_eq_true_eq,Bool.not_eq_true',not_or,not_and,Bool.not_eq_false] at R1 ⊢
 refine ⟨fun e=>?_,fun e=>?_⟩
 ·subst e
  have h1:=R1.1 rfl
  rw [show am0 (ac1 x w s) rf.kind (nowN s rf.kind i) rf.field=_ from aK8 hF hrf hks,Int.toNat_natCast] at h1
  rw [h.2,(kept_val hF hv hrf hks).2,h1];rfl
 ·have h1:=R1.2 e
  have hu:rf.up.toNat=k:=by omega
  rw [count_both hF hv h hrf (by rw [hu];exact hks),hu]
  exact h1
theorem both_world (h:IsBoth s t u) (ht:t.map List.length=(ac1 x w s).map List.length) (hvt:ai0 x (ac1 x w s) t=true):ac1 x w u=ac1 x (ac1 x w s) t:=by
 have hFt:=ba7 hF hv ht
 have hFu:Fit x w u:=⟨hF.snd,hF.ws,Ss.lens h.1 hF.ss,hF.fit,hF.shp.trans h.1.symm⟩
 generalize hvv:ac1 x w s=v at *
 have hvl:v.length=w.length:=by rw [← hvv];exact aC5
 have hwl:∀ k,k<w.length→wlen v k=nowN s k (wlen w k):=fun k hk=>by rw [← hvv];exact ay8 hk
 have R1:∀ k,k<w.length→ap3 w u k (wlen w k)=(idxK u k (wlen w k)).map fun i=>ar5 w k i:=fun k _=>rfl
 have R2:∀ k,k<w.length→ap3 v t k (wlen v k)=(idxK u k (wlen w k)).map fun i=>ar5 v k (nowN s k i):=fun k hk=>by
  rw [aR6,hwl k hk,idx_both h,List.map_map];rfl
 have hmem:∀ {k i:Nat},i∈idxK u k (wlen w k)→keptB u k i=true∧keptB s k i=true∧keptB t k (nowN s k i)=true:=fun hi=>by
  obtain ⟨_,h2⟩:=List.mem_filter.1 hi
  have h3:=h2
  rw [h.2,Bool.and_eq_true] at h3
  exact ⟨h2,h3⟩
 have hshp:shp (outA w u)=shp (outA v t):=by
  unfold shp
  refine List.ext_getElem? fun k=>?_
  by_cases hk:k<w.length
  ·rw [List.getElem?_map,List.getElem?_map,as1 hk,as1 (show k<v.length by omega),R1 k hk,R2 k hk]
   simp only [Option.map_some,List.map_map,Option.some.injEq]
   refine List.map_congr_left fun i hi=>?_
   obtain ⟨_,h2,h3⟩:=hmem hi
   show (ar5 w k i).length=(ar5 v k (nowN s k i)).length
   rw [rec_len hF h2,rec_len hFt h3]
  ·rw [List.getElem?_eq_none (by rw [List.length_map,as2];omega),List.getElem?_eq_none (by rw [List.length_map,as2];omega)]
 unfold ac1
 have hs1:shp (moved x w u)=shp (outA w u):=ao3 x w u _ (Nat.le_refl _)
 have hs2:shp (moved x v t)=shp (outA v t):=ao3 x v t _ (Nat.le_refl _)
 refine sums_same (by rw [hs1,hs2,hshp]) fun k n f hn=>?_
 by_cases hkn:n<((outA w u).getD k []).length
 ·have hk:k<w.length:=by
   refine Nat.lt_of_not_le fun hle=>?_
   rw [List.getD_eq_getElem?_getD,List.getElem?_eq_none (by rw [as2];exact hle)] at hkn
   cases hkn
  have hr1:=as1 (s:=u) hk
  have hr2:=as1 (s:=t) (show k<v.length by omega)
  rw [aa3 hr1,R1 k hk,List.length_map] at hkn
  have hi:=List.getElem?_eq_getElem hkn
  generalize (idxK u k (wlen w k))[n]=i at hi
  obtain ⟨m1,m2,m3⟩:=hmem (List.mem_of_getElem? hi)
  have g1:(ap3 w u k (wlen w k))[n]?=some (ar5 w k i):=by rw [R1 k hk,List.getElem?_map,hi];rfl
  have g2:(ap3 v t k (wlen v k))[n]?=some (ar5 v k (nowN s k i)):=by rw [R2 k hk,List.getElem?_map,hi];rfl
  by_cases hr:∃ rf∈aa6 x,rf.kind=k∧rf.field=f
  ·obtain ⟨rf,hrf,rfl,rfl⟩:=hr
   obtain ⟨p,hp⟩:=List.getElem?_of_mem hrf
   have hpl:=(List.getElem?_eq_some_iff.1 hp).1
   unfold moved
   rw [aF2 hp hr1 g1 (aM5 hFu hrf m1) _ hpl (Nat.le_refl _),aF2 hp hr2 g2 (aM5 hFt hrf m3) _ hpl (Nat.le_refl _)]
   unfold aY5 orig
   rw [aa3 hr1,aa3 g1,aa3 hr2,aa3 g2]
   have hc:=aK8 hF hrf m2
   rw [hvv] at hc
   change (ar5 v rf.kind (nowN s rf.kind i)).getD rf.field 0=_ at hc
   rw [hc,Int.toNat_natCast,now_both h]
   rfl
  ·have hr':∀ rf∈aa6 x,rf.kind≠k∨rf.field≠f:=fun rf hrf=>by
    by_cases e:rf.kind=k
    ·exact .inr fun e2=>hr ⟨rf,hrf,e,e2⟩
    ·exact .inl e
   unfold moved
   rw [aK1 hr' _ (Nat.le_refl _),aK1 hr' _ (Nat.le_refl _)]
   have hc:=world_cell hF m2 hn hr'
   rw [hvv] at hc
   change (ar5 v k (nowN s k i)).getD f 0=_ at hc
   unfold af6
   rw [aa3 hr1,aa3 g1,aa3 hr2,aa3 g2,hc]
   rfl
 ·have e1:=ax2 hs1 k
  have e2:=ax2 (hs2.trans hshp.symm) k
  rw [cell_out (by omega),cell_out (by omega)]
end
end
section
open Go
theorem aS2 (a:List Int) (ha:a.length≤1000):APure Tryz.prog 63 [slI a,slI a] (bD true):=by
 refine APure.of_call (aa4 mixed aa0 Tryz.func63 (by kernel_rfl) rfl Tryz.ntmps63 rfl ?_);intro BB
 repeat' (first|refine sk2 ?_|(intro b;conv=>whnf)|(with_reducible refine Br.t (beq_self_eq_true _) ?_)|(with_reducible refine Br.f Bool.not_true ?_)|(with_reducible refine Br.f (bne_self_eq_false _) ?_)|(with_reducible refine Br.t (decide_eq_true trivial) ?_))
 refine aa9 mixed aa0 (γ:=Nat) (fun j=>[(5,iD j)]) (fun _=>[]) (fun j=>j≤a.length) (fun j=>a.length - j) 0 (aa2 cl2) cl3 (Nat.zero_le _) ?_
 rintro j hj
 by_cases hjl:j<a.length
 ·obtain ⟨x,hx⟩:∃ l,a[j]?=some l:=⟨_,List.getElem?_eq_getElem hjl⟩
  have hx':a[((j:Nat):Int).toNat]?=some x:=hx
  repeat' (first|refine sk2 ?_|(intro b;conv=>whnf)|(with_reducible refine Br.t (beq_self_eq_true _) ?_)|(with_reducible refine Br.f Bool.not_true ?_)|(with_reducible refine Br.f (bne_self_eq_false _) ?_)|(with_reducible refine Br.t (decide_eq_true trivial) ?_))
  exact ⟨j+1,(aa2 cl2),cl3,by omega,by omega⟩
 ·obtain rfl:j=a.length:=by omega
  repeat' (first|refine sk2 ?_|(intro b;conv=>whnf)|(with_reducible refine Br.t (beq_self_eq_true _) ?_)|(with_reducible refine Br.f Bool.not_true ?_)|(with_reducible refine Br.f (bne_self_eq_false _) ?_)|(with_reducible refine Br.t (decide_eq_true trivial) ?_))
  refine Rt.pure (congrArg bD ?_)
  rfl
theorem sk113 {A B:Prop} (k:B) (h:Hd7 B→A:=by intro hk7q;(first|refine sb0 ?_|refine sb1 ?_|((with_reducible refine' Cp.by ?hc ?_);(case hc=>exact aS2 _ (by assumption)))|((with_reducible refine' CE.pure ?hc ?_);(case hc=>exact aS2 _ (by assumption))));exact hk7q.run):A:=h ⟨k⟩
theorem r31_sameW_p (w:Wd) (hw:Ws w):APure Tryz.prog 36 [slW w,slW w] (bD true):=by
 have hwl:=hw.nk
 refine APure.of_call (aa4 mixed aa0 Tryz.func36 (by kernel_rfl) rfl Tryz.ntmps36 rfl ?_);intro BB
 repeat' (first|refine sk113 ?_|(intro b;conv=>whnf)|(with_reducible refine Br.t (beq_self_eq_true _) ?_)|(with_reducible refine Br.f Bool.not_true ?_)|(with_reducible refine Br.f (bne_self_eq_false _) ?_)|(with_reducible refine Br.t (decide_eq_true trivial) ?_))
 refine aa9 mixed aa0 (γ:=Nat) (fun j=>[(5,iD j)]) (fun _=>[]) (fun j=>j≤w.length) (fun j=>w.length - j) 0 (aa2 cl2) cl3 (Nat.zero_le _) ?_
 rintro j hj
 by_cases hjl:j<w.length
 ·obtain ⟨l,hl⟩:∃ l,w[j]?=some l:=⟨_,List.getElem?_eq_getElem hjl⟩
  have hl':w[((j:Nat):Int).toNat]?=some l:=hl
  have hll:=hw.nr l (List.mem_of_getElem? hl)
  repeat' (first|refine sk113 ?_|(intro b;conv=>whnf)|(with_reducible refine Br.t (beq_self_eq_true _) ?_)|(with_reducible refine Br.f Bool.not_true ?_)|(with_reducible refine Br.f (bne_self_eq_false _) ?_)|(with_reducible refine Br.t (decide_eq_true trivial) ?_))
  refine aa9 mixed aa0 (γ:=Nat) (fun i=>[(6,iD i)]) (fun _=>[]) (fun i=>i≤l.length) (fun i=>l.length - i) 0 (aa2 cl2) cl3 (Nat.zero_le _) ?_
  rintro i hi
  by_cases hil:i<l.length
  ·obtain ⟨r,hr⟩:∃ x,l[i]?=some x:=⟨_,List.getElem?_eq_getElem hil⟩
   have hr':l[((i:Nat):Int).toNat]?=some r:=hr
   have hrl:=hw.nf l (List.mem_of_getElem? hl) r (List.mem_of_getElem? hr)
   repeat' (first|refine sk113 ?_|(intro b;conv=>whnf)|(with_reducible refine Br.t (beq_self_eq_true _) ?_)|(with_reducible refine Br.f Bool.not_true ?_)|(with_reducible refine Br.f (bne_self_eq_false _) ?_)|(with_reducible refine Br.t (decide_eq_true trivial) ?_))
   exact ⟨i+1,(aa2 cl2),cl3,by omega,by omega⟩
  ·obtain rfl:i=l.length:=by omega
   repeat' (first|refine sk113 ?_|(intro b;conv=>whnf)|(with_reducible refine Br.t (beq_self_eq_true _) ?_)|(with_reducible refine Br.f Bool.not_true ?_)|(with_reducible refine Br.f (bne_self_eq_false _) ?_)|(with_reducible refine Br.t (decide_eq_true trivial) ?_))
   exact ⟨j+1,(aa2 cl2),cl3,by omega,by omega⟩
 ·obtain rfl:j=w.length:=by omega
  repeat' (first|refine sk113 ?_|(intro b;conv=>whnf)|(with_reducible refine Br.t (beq_self_eq_true _) ?_)|(with_reducible refine Br.f Bool.not_true ?_)|(with_reducible refine Br.f (bne_self_eq_false _) ?_)|(with_reducible refine Br.t (decide_eq_true trivial) ?_))
  refine Rt.pure (congrArg bD ?_)
  rfl
end
section
open Go Go.RowKit Go.Shelf
theorem Ws.nil:Ws []:=⟨by simp,fun l h=>(by cases h),fun l h=>(by cases h)⟩
theorem aG6 (x:Sch) (w:Wd) (s:Sb) (hw:Ws w) (hs:Ss s) (HV:APure Tryz.prog 81 [schD x] (iD (af9 x))):APure Tryz.prog 34 [schD x,slW w,slS2 s] (.tup [slW (aA5 x w s).1,iD (aA5 x w s).2]):=
 APure.of_call ((cl_world x w s hw hs HV).vs2 fun d σ ⟨v,e,h⟩=>by
  subst e
  exact ⟨_,[],Vs.vd ⟨σ,by simp⟩ (Vd.tup (.cons (Vd.frz (ρ:=[]) frz_w h (by simp) (fun b hb=>by cases hb)) (.cons (Vd.same (fun b hb=>by cases hb) _) .nil))),rfl⟩)
theorem sk114 {A B:Prop} (k:B) (h:Hd7 B→A:=by intro hk7q;(first|refine sb0 ?_|refine sb1 ?_|((with_reducible refine' Cp.by ?hc ?_);(case hc=>exact HG))|((with_reducible refine' CE.pure ?hc ?_);(case hc=>exact HG)));exact hk7q.run):A:=h ⟨k⟩
end
section
open Go Go.RowKit Go.Shelf
theorem ss_w {w:Wd} (hw:Ws w) {s:Sb} (h:s.map List.length=w.map List.length):Ss s:=by
 refine ⟨?_,fun l hl=>?_⟩
 ·have:=congrArg List.length h
  simp only [List.length_map] at this
  have:=hw.nk;omega
 ·have:l.length∈s.map List.length:=List.mem_map.2 ⟨l,hl,rfl⟩
  rw [h] at this
  obtain ⟨m,hm,e⟩:=List.mem_map.1 this
  have:=hw.nr m hm;omega
theorem RS.swp {u:Sb} {v:Value} {x y:Nat × Blk} {ρ:aa1} (h:RS u v (x :: y :: ρ)):RS u v (y :: x :: ρ):=RowsOf.perm h (List.Perm.swap _ _ _)
theorem CE.give {P:Program} {g:FuncId} {x y d d' e:D} {σ τ:aa1} {K:D→aa1→Prop} (hv:Vs σ d τ d') (h:APure P g [x,y,d'] e) (k:W (K e τ)):CE P g [x,y,d] σ K:=
 ⟨σ,[],fun a s'=>a=e∧s'=τ,by simp,⟨h.ent,fun w X vs hvs hs=>by
  match vs,hvs.1 with
  | [u1,u2,u3],_=>
  obtain ⟨_,q1,r1⟩:=hvs.get (j:=0) rfl
  obtain ⟨_,q2,r2⟩:=hvs.get (j:=1) rfl
  obtain ⟨_,q3,r3⟩:=hvs.get (j:=2) rfl
  cases q1;cases q2;cases q3
  obtain ⟨g1,g2⟩:=hv.run w X u3 hs r3
  exact (h.run w (Own τ X) _ (.cons (ah1 r1 hv.sub) (.cons (ah1 r2 hv.sub) (.cons g2 .nil))) g1.gok).mono fun e w' ⟨u,h1,h2,h3⟩=>⟨u,_,_,h1,⟨rfl,rfl⟩,h2,g1.ex h3,(Mv.of_ex h3).wider hv.sub⟩⟩,
  fun a s' ⟨h1,h2⟩=>by subst h1 h2;exact ⟨_,by simp,k.h⟩⟩
theorem sk115 {A B:Prop} (k:B) (h:Hd7 B→A:=by intro hk7q;(first|refine sb0 ?_|refine sb1 ?_|((with_reducible refine' Cp.by ?hc ?_);(case hc=>first|exact HC1|exact HC2|exact HA|exact HB))|((with_reducible refine' CE.pure ?hc ?_);(case hc=>first|exact HC1|exact HC2|exact HA|exact HB)));exact hk7q.run):A:=h ⟨k⟩
theorem sk116 {A B:Prop} (k:B) (h:Hd7 B→A:=by intro hk7q;(first|refine sb0 ?_|refine sb1 ?_|((with_reducible refine' Cp.by ?hc ?_);(case hc=>first|exact HSc|exact HW2|exact ai2))|((with_reducible refine' CE.pure ?hc ?_);(case hc=>first|exact HSc|exact HW2|exact ai2)));exact hk7q.run):A:=h ⟨k⟩
end
end Go.Proofs.YtjbbmjjildhfbaaGreatDoor
