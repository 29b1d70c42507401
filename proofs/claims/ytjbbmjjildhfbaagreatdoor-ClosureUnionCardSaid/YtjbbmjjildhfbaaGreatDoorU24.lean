/- A part of the proof: Gq Gr Gs Un Wu. -/
import Derived.Test.YtjbbmjjildhfbaaGreatDoorU23
set_option maxRecDepth 100000
set_option maxHeartbeats 4000000
set_option linter.unusedVariables false
set_option linter.unusedSimpArgs false
namespace Go.Proofs.YtjbbmjjildhfbaaGreatDoor
section
open Go
theorem RefQ.nms {ks : List Knd} {i : Nat} {f1 : List Fld} (h : RefQ ks i f1) : (f1.map Fld.name).Sublist [nOf,nSame,nPart]:=by
 rcases h with rfl | ⟨t,lo,hi,sm,pt,_,_,_,hs,hp,rfl⟩
 ·simp
 ·rcases hs with rfl | ⟨y,n,g,_,_,_,rfl⟩ <;> rcases hp with rfl | ⟨a,b,y2,n2,_,_,_,_,rfl⟩ <;> simp [ofN,sameF,partF]
theorem TotQ.nms {ks : List Knd} {i : Nat} {tt : List Fld} (h : TotQ ks i tt) : (tt.map Fld.name).Sublist [nTotal]:=by
 rcases h with rfl | ⟨j,kj,_,_,_,rfl⟩ <;> simp [totF]
theorem KForm.nodup {ks : List Knd} {i : Nat} {k : Knd} (h : KForm ks i k) : (k.fields.map Fld.name).Nodup:=by
 obtain ⟨lo,r,idl,f1,f2,p1,p2,tt,h1,h2,h3,rfl,h5,h6,h7,h8,h9,h10⟩:=h
 have s1:=h5.nms
 have s2 : (f2.map Fld.name).Sublist [nBy]:=by rcases h6 with rfl | ⟨_,rfl⟩ <;> simp [byN]
 have s3:=h10.nms
 have hS : (([nId] ++ (f1.map Fld.name ++ (f2.map Fld.name ++ (p1.map Fld.name ++ (p2.map Fld.name ++ tt.map Fld.name)))))).Sublist ([nId] ++ ([nOf,nSame,nPart] ++ ([nBy] ++ (p1.map Fld.name ++ (p2.map Fld.name ++ [nTotal]))))):=
  (List.Sublist.refl _).append (s1.append (s2.append ((List.Sublist.refl _).append ((List.Sublist.refl _).append s3))))
 have hQ : ∀ f ∈ p1,∀ g gs,p2 = g :: gs → f.name ≠ g.name:=by
  intro f hf g gs e
  rcases h9 with h9 | ⟨g',gs',e',hn⟩
  ·rw [h9] at e;cases e
  ·rw [e'] at e;cases e
   exact has_neg hn f (by simp [hf])
 have hD : ([nId] ++ ([nOf,nSame,nPart] ++ ([nBy] ++ (p1.map Fld.name ++ (p2.map Fld.name ++ [nTotal]))))).Nodup:=by
  cases h7 <;> cases h8 <;> first | (simp only [List.map_cons,List.map_nil];decide) | exact (hQ _ List.mem_cons_self _ _ rfl rfl).elim
 refine List.Sublist.nodup (l₁:=_) ?_ hD
 simpa [idF] using hS
structure HX (x : Sch) : Prop where
 nk : x.kinds.length ≤ 3
 form : ∀ (i : Nat) k,x.kinds[i]? = some k → KForm x.kinds i k
 kd : ∀ k ∈ x.kinds,∀ f ∈ k.fields,0 ≤ f.kind
 life : x.lives.any (fun l=>seq l.name nLife) = true
theorem knm_ne {i t : Nat} (h : i < t) (ht : t ≤ 2) : seq (knm i) (knm t) = false:=by
 obtain rfl | rfl : t = 1 ∨ t = 2:=by omega
 ·obtain rfl : i = 0:=by omega
  decide +kernel
 ·obtain rfl | rfl : i = 0 ∨ i = 1:=by omega
  ·decide +kernel
  ·decide +kernel
variable {x : Sch} (H : HX x)
include H
theorem HX.kix {t : Nat} {y : Knd} (h : x.kinds[t]? = some y) : kindIx x (knm t) = t:=
 idx_found h (by rw [(H.form t y h).name];exact seq_refl _) fun i z hi hz=>by
  rw [(H.form i z hz).name]
  exact knm_ne hi (by have:=(List.getElem?_eq_some_iff.1 h).1;have:=H.nk;omega)
omit H in
theorem kat {i : Nat} {k : Knd} (hk : x.kinds[i]? = some k) : kindAt x i = some k:=by simp [kindAt,hk]
omit H in
theorem fat {i : Nat} {k : Knd} (hk : x.kinds[i]? = some k) (j : Nat) : fieldAt x i j = k.fields[j]?:=by simp [fieldAt,kindAt,hk]
theorem HX.refUp {i t : Nat} {y : Knd} {f : Fld} (hy : x.kinds[t]? = some y) (hti : t < i) (ho : f.of = knm t) : refUp x i f = t:=by
 rw [Go.Proofs.YtjbbmjjildhfbaaGreatDoor.refUp,ho,H.kix hy,if_pos (by omega)]
theorem HX.up1 {i t j : Nat} {k y : Knd} {f : Fld} (hk : x.kinds[i]? = some k) (hf : k.fields[j]? = some f) (hy : x.kinds[t]? = some y) (hti : t < i) (h1 : f.kind = 1) (ho : f.of = knm t) : upIx x i j = t:=by
 rw [upIx_of ((fat hk j).trans hf) (kat hk),if_neg (by rw [h1];decide),if_pos h1,H.refUp hy hti ho]
theorem HX.up7 {i t j : Nat} {k y : Knd} {f : Fld} {lo hi : Int} (hk : x.kinds[i]? = some k) (hf : k.fields[j]? = some f) (hy : x.kinds[t]? = some y) (hti : t < i) (h7 : f.kind = 7 ∨ f.kind = 8) (ho : f.up = nOf) (h1 : k.fields[1]? = some (ofN t lo hi)) (hj : 1 < j) : upIx x i j = t:=by
 have e1 : fieldIx k f.up = ((1 : Nat) : Int):=by rw [ho];exact fix_of (H.form i k hk).nodup h1
 rw [upIx_of ((fat hk j).trans hf) (kat hk),if_pos h7,e1,fat hk 1,h1,pickUp,if_pos ⟨by omega,rfl⟩,orNone,H.refUp hy hti rfl]
omit H in
theorem HX.below {i t : Nat} {k : Knd} (hk : x.kinds[i]? = some k) (hti : t < i) : ∃ y,x.kinds[t]? = some y:=⟨_,List.getElem?_eq_getElem (by have:=(List.getElem?_eq_some_iff.1 hk).1;omega)⟩
omit H in
theorem single {l : List Nat} {c : Nat} (hn : l.Nodup) (h1 : ∀ a ∈ l,a = c) (h2 : c ∈ l) : l.length = 1:=by
 match l,hn,h1,h2 with
 | [a],_,_,_=>rfl
 | a :: b :: r,hn,h1,_=>
  have e1:=h1 a (by simp)
  have e2:=h1 b (by simp)
  simp [e1,e2] at hn
theorem HX.shares {i j : Nat} {k kj : Knd} (hk : x.kinds[i]? = some k) (hij : i < j) (hkj : x.kinds[j]? = some kj) (hP : PartTo kj i) : (sharesOf x i (totF (knm j))).length = 1:=by
 obtain ⟨n,lo,hi,a,b,g1,g2,g3,g4⟩:=hP
 have e : kindIx x (totF (knm j)).of = j:=H.kix hkj
 rw [sharesOf,e,kat hkj]
 simp only [List.length_map]
 refine single (c:=n) (List.Pairwise.filter _ List.nodup_range) (fun m hm=>?_) ?_
 ·obtain ⟨_,hq⟩:=List.mem_filter.1 hm
  cases hg : kj.fields[m]? with
  | none=>rw [hg] at hq;cases hq
  | some g=>
   rw [hg] at hq
   simp only [Bool.and_eq_true,decide_eq_true_eq] at hq
   exact g4 m g hg hq.1.1
 ·refine List.mem_filter.2 ⟨List.mem_range.2 (List.getElem?_eq_some_iff.1 g3).1,?_⟩
  rw [g3]
  simp only [Bool.and_eq_true,decide_eq_true_eq]
  exact ⟨⟨rfl,seq_refl _⟩,H.up7 hkj g3 hk hij (.inl rfl) rfl g1 g2⟩
omit H in
theorem at_mem {F : List Fld} (hN : (F.map Fld.name).Nodup) {A B : List Fld} {c : Fld} (hF : F = A ++ c :: B) {j : Nat} {f : Fld} (hf : F[j]? = some f) (e : f.name = c.name) : j = A.length ∧ f = c:=by
 have hc : F[A.length]? = some c:=by rw [hF,List.getElem?_append_right (Nat.le_refl _),Nat.sub_self];rfl
 have:=at_of hN hf hc e
 subst this
 rw [hf] at hc;cases hc
 exact ⟨rfl,rfl⟩
theorem HX.plain {i j : Nat} {k : Knd} {A p B : List Fld} {f : Fld} (hk : x.kinds[i]? = some k) (hp : PlainF p) (hF : k.fields = A ++ (p ++ B)) (hf : k.fields[j]? = some f) (hm : f ∈ p) : leadsE x i j f = 0:=by
 have hN:=(H.form i k hk).nodup
 cases hp with
 | none=>cases hm
 | size a b ha hb=>rw [List.mem_singleton] at hm;subst hm;simp [leadsE]
 | tag n ws hn hw h0 h1=>rw [List.mem_singleton] at hm;subst hm;simp [leadsE]
 | low a b c d ha hb hc hd=>
  simp only [List.mem_cons,List.not_mem_nil,or_false] at hm
  rcases hm with rfl | rfl <;> simp [leadsE]
 | state a b ha hb=>
  rw [List.mem_singleton] at hm;subst hm
  simp only [leadsE]
  rw [if_neg (by simp),if_neg (by simp),if_neg (by simp),if_neg (by simp),if_pos trivial,if_pos H.life]
 | born a b c d ha hb hc hd=>
  simp only [List.mem_cons,List.not_mem_nil,or_false] at hm
  rcases hm with rfl | rfl
  ·simp only [leadsE]
   rw [if_neg (by simp),if_neg (by simp),if_neg (by simp),if_pos trivial,dayE,kat hk]
   simp only
   rw [if_pos (by decide +kernel)]
  ·obtain ⟨rfl,_⟩:=at_mem hN (A:=A ++ [⟨nBorn,nE,nE,4,a,a + b,[],[]⟩]) (B:=B) (c:=⟨nLeft,nBorn,nE,4,c,3 + d,[],[]⟩) (by rw [hF];simp) hf rfl
   have hb : k.fields[A.length]? = some ⟨nBorn,nE,nE,4,a,a + b,[],[]⟩:=by rw [hF,List.getElem?_append_right (Nat.le_refl _),Nat.sub_self];rfl
   have e1 : fieldIx k nBorn = A.length:=fix_of hN hb
   simp only [leadsE]
   rw [if_neg (by simp),if_neg (by simp),if_neg (by simp),if_pos trivial,dayE,kat hk]
   simp only
   rw [if_neg (by decide +kernel),e1,if_neg (by simp;omega),Int.toNat_natCast,hb]
   rfl
theorem HX.leads {i j : Nat} {k : Knd} {f : Fld} (hk : x.kinds[i]? = some k) (hf : k.fields[j]? = some f) : leadsE x i j f = 0:=by
 have hN:=(H.form i k hk).nodup
 have hF:=H.form i k hk
 have hmf:=List.mem_of_getElem? hf
 obtain ⟨lo,r,idl,f1,f2,p1,p2,tt,h1,h2,h3,h4,h5,h6,h7,h8,h9,h10⟩:=hF
 have hK : k.fields = idF idl :: (f1 ++ (f2 ++ (p1 ++ (p2 ++ tt)))):=by rw [h4]
 have hmf2:=hmf
 rw [hK] at hmf2
 rcases List.mem_cons.1 hmf2 with rfl | hm
 ·obtain ⟨rfl,_⟩:=at_mem hN (A:=[]) (c:=idF idl) hK hf rfl
  simp [leadsE,idF]
 rcases List.mem_append.1 hm with hm | hm
 ·rcases h5 with rfl | ⟨t,lo1,hi1,sm,pt,hti,hl1,hh1,hs,hp,rfl⟩
  ·cases hm
  obtain ⟨y,hy⟩:=HX.below hk hti
  have hof : k.fields[1]? = some (ofN t lo1 hi1):=by rw [hK];rfl
  rcases List.mem_cons.1 hm with rfl | hm
  ·simp only [leadsE]
   rw [H.up1 hk hf hy hti rfl rfl,if_neg (by simp [ofN]),if_neg (by simp [ofN]),if_pos (by simp [ofN]),if_neg (by omega)]
  have hj : 1 < j:=by
   refine Nat.lt_of_not_le fun hle=>?_
   have h01 : j = 0 ∨ j = 1:=by omega
   rcases h01 with rfl | rfl
   ·rw [hK] at hf;cases hf
    rcases List.mem_append.1 hm with hm | hm
    ·rcases hs with rfl | ⟨_,_,_,_,_,_,rfl⟩
     ·cases hm
     ·rw [List.mem_singleton] at hm;cases hm
    ·rcases hp with rfl | ⟨_,_,_,_,_,_,_,_,rfl⟩
     ·cases hm
     ·rw [List.mem_singleton] at hm;cases hm
   ·rw [hof] at hf;cases hf
    rcases List.mem_append.1 hm with hm | hm
    ·rcases hs with rfl | ⟨_,_,_,_,_,_,rfl⟩
     ·cases hm
     ·rw [List.mem_singleton] at hm;cases hm
    ·rcases hp with rfl | ⟨_,_,_,_,_,_,_,_,rfl⟩
     ·cases hm
     ·rw [List.mem_singleton] at hm;cases hm
  rcases List.mem_append.1 hm with hm | hm
  ·rcases hs with rfl | ⟨y',n,g,hy',hg,hpk,rfl⟩
   ·cases hm
   rw [hy] at hy';cases hy'
   rw [List.mem_singleton] at hm;subst hm
   have hu:=H.up7 hk hf hy hti (.inr rfl) rfl hof hj
   have hg0:=H.kd y (List.mem_of_getElem? hy) g (List.mem_of_getElem? hg)
   have hx : fieldIx y g.name = n:=fix_of (H.form t y hy).nodup hg
   simp only [plainK,Bool.and_eq_true,Bool.not_eq_true',decide_eq_false_iff_not] at hpk
   have ha : abvR x i j (sameF g.name) = (g.kind,g):=by
    unfold abvR topF
    rw [hu,if_neg (by omega),kat hy]
    simp only [sameF]
    rw [hx,fat hy,hg]
   simp only [leadsE]
   rw [if_neg (by simp [sameF]),if_neg (by simp [sameF]),if_neg (by simp [sameF]),if_neg (by simp [sameF]),if_neg (by simp [sameF]),if_neg (by simp [sameF]),hu,aboveE,if_neg (by omega),if_neg (by simp [sameF]),ha,if_neg (by simp only;omega)]
  ·rcases hp with rfl | ⟨a,b,y',n,_,_,hy',hg,rfl⟩
   ·cases hm
   rw [hy] at hy';cases hy'
   rw [List.mem_singleton] at hm;subst hm
   have hu:=H.up7 hk hf hy hti (.inl rfl) rfl hof hj
   have hx : fieldIx y nTotal = n:=fix_of (f:=totF (knm i)) (H.form t y hy).nodup hg
   have ha : abvR x i j (partF a b) = (6,totF (knm i)):=by
    unfold abvR topF
    rw [hu,if_neg (by omega),kat hy]
    simp only [partF]
    rw [hx,fat hy,hg]
    rfl
   simp only [leadsE]
   rw [if_neg (by simp [partF]),if_neg (by simp [partF]),if_neg (by simp [partF]),if_neg (by simp [partF]),if_neg (by simp [partF]),if_neg (by simp [partF]),hu,aboveE,if_neg (by omega),if_pos (by simp [partF]),ha,if_pos ⟨rfl,H.kix hk⟩]
 rcases List.mem_append.1 hm with hm | hm
 ·rcases h6 with rfl | ⟨hi0,rfl⟩
  ·cases hm
  rw [List.mem_singleton] at hm;subst hm
  obtain ⟨y,hy⟩:=HX.below hk hi0
  simp only [leadsE]
  rw [H.up1 hk hf hy hi0 rfl rfl,if_neg (by simp [byN]),if_neg (by simp [byN]),if_pos (by simp [byN]),if_neg (by omega)]
 rcases List.mem_append.1 hm with hm | hm
 ·exact H.plain hk h7 (A:=idF idl :: (f1 ++ f2)) (B:=p2 ++ tt) (by rw [hK];simp) hf hm
 rcases List.mem_append.1 hm with hm | hm
 ·exact H.plain hk h8 (A:=idF idl :: (f1 ++ (f2 ++ p1))) (B:=tt) (by rw [hK];simp) hf hm
 ·rcases h10 with rfl | ⟨j',kj,hij,hkj,hP,rfl⟩
  ·cases hm
  rw [List.mem_singleton] at hm;subst hm
  have e : kindIx x (totF (knm j')).of = j':=H.kix hkj
  have hno : sharesNo x i (totF (knm j')) = false:=by
   rw [sharesNo,e]
   simp [totF];omega
  simp only [leadsE]
  rw [if_neg (by simp [totF]),if_neg (by simp [totF]),if_neg (by simp [totF]),if_neg (by simp [totF]),if_neg (by simp [totF]),if_pos (by simp [totF]),sumsR,hno]
  simp only [Bool.false_eq_true,if_false]
  rw [e,if_neg (by omega),if_pos (H.shares hk hij hkj hP)]
end
section
open Go
theorem GenX.hx {x : Sch} (h : GenX x) : HX x where
 nk:=h.nk.2
 form:=h.ks.form
 kd:=fun k hk f hf=>((h.cls.ks k hk).fs f hf).kd.1
 life:=by
  obtain ⟨m,mv,_,_,hl,_⟩:=h.ls
  rw [hl];simp [seq_refl]
theorem nm_knm {t : Nat} (h : t ≤ 2) : isNm (knm t) = true:=by
 obtain rfl | rfl | rfl : t = 0 ∨ t = 1 ∨ t = 2:=by omega
 all_goals decide +kernel
theorem eNE : isE nE = true:=by decide +kernel
theorem PlainF.ok {p : List Fld} (h : PlainF p) : ∀ f ∈ p,isFieldB f = true:=by
 cases h with
 | none=>simp
 | size a b ha hb=>
  intro f hf;rw [List.mem_singleton] at hf;subst hf
  (simp only [isFieldB,Bool.and_eq_true];refine ⟨⟨by decide +kernel,?_⟩,?_⟩)
  ·(simp [onlyB,usesOf,usesUp,usesLo,usesHi,usesWd,eNE])
  ·simp [kindB,spanB];omega
 | tag n ws hn hw h0 h1=>
  intro f hf;rw [List.mem_singleton] at hf;subst hf
  (simp only [isFieldB,Bool.and_eq_true];refine ⟨⟨by decide +kernel,?_⟩,?_⟩)
  ·(simp [onlyB,usesOf,usesUp,usesLo,usesHi,usesWd,eNE])
  ·have hs : 0 < ws.sum:=by
    obtain ⟨w,hw1,hw2⟩:=h1
    clear hw
    induction ws with
    | nil=>cases hw1
    | cons z zs ih=>
     have hz:=h0 z (by simp)
     have hnn : ∀ l : List Int,(∀ w ∈ l,0 ≤ w ∧ w ≤ 4) → 0 ≤ l.sum:=fun l=>by
      induction l with
      | nil=>simp
      | cons q l ih=>intro hl;have:=hl q (by simp);have:=ih fun w hw=>hl w (by simp [hw]);simp;omega
     rw [List.sum_cons]
     rcases List.mem_cons.1 hw1 with rfl | hw1
     ·have:=hnn zs fun w hw=>h0 w (by simp [hw]);omega
     ·have:=ih (fun w hw=>h0 w (by simp [hw])) hw1;omega
   have hg : ws.all (fun n=>withinB n 0 1048576) = true:=by
    rw [List.all_eq_true];intro w hw;have:=h0 w hw;simp [withinB];omega
   have hwd : ([nRed,nGreen,nBlue].take n).all isNm = true:=by
    rw [List.all_eq_true];intro w hw
    have:=List.mem_of_mem_take hw
    simp only [List.mem_cons,List.not_mem_nil,or_false] at this
    rcases this with rfl | rfl | rfl <;> decide +kernel
   have hl : ([nRed,nGreen,nBlue].take n).length = n:=by rw [List.length_take];simp;omega
   simp only [kindB]
   rw [if_neg (by simp),if_neg (by simp),if_neg (by simp),if_pos trivial,isPickB,hg,hwd,hl,hw]
   simp [withinB];omega
 | born a b c d ha hb hc hd=>
  intro f hf
  simp only [List.mem_cons,List.not_mem_nil,or_false] at hf
  rcases hf with rfl | rfl
  ·(simp only [isFieldB,Bool.and_eq_true];refine ⟨⟨by decide +kernel,?_⟩,?_⟩)
   ·(simp [onlyB,usesOf,usesUp,usesLo,usesHi,usesWd,eNE])
   ·simp [kindB,spanB,eNE];omega
  ·(simp only [isFieldB,Bool.and_eq_true];refine ⟨⟨by decide +kernel,?_⟩,?_⟩)
   ·(simp [onlyB,usesOf,usesUp,usesLo,usesHi,usesWd,eNE])
   ·have : isNm nBorn = true:=by decide +kernel
    simp [kindB,spanB,this];omega
 | state a b ha hb=>
  intro f hf;rw [List.mem_singleton] at hf;subst hf
  (simp only [isFieldB,Bool.and_eq_true];refine ⟨⟨by decide +kernel,?_⟩,?_⟩)
  ·(simp [onlyB,usesOf,usesUp,usesLo,usesHi,usesWd,eNE])
  ·have : isNm nLife = true:=by decide +kernel
   simp [kindB,spanB,this];omega
 | low a b c d ha hb hc hd=>
  intro f hf
  simp only [List.mem_cons,List.not_mem_nil,or_false] at hf
  rcases hf with rfl | rfl
  ·(simp only [isFieldB,Bool.and_eq_true];refine ⟨⟨by decide +kernel,?_⟩,?_⟩)
   ·(simp [onlyB,usesOf,usesUp,usesLo,usesHi,usesWd,eNE])
   ·simp [kindB,spanB];omega
  ·(simp only [isFieldB,Bool.and_eq_true];refine ⟨⟨by decide +kernel,?_⟩,?_⟩)
   ·(simp [onlyB,usesOf,usesUp,usesLo,usesHi,usesWd,eNE])
   ·simp [kindB,spanB];omega
theorem PlainF.nm {p : List Fld} (h : PlainF p) : ∀ f ∈ p,isNm f.name = true:=fun f hf=>by
 have:=h.ok f hf
 simp only [isFieldB,Bool.and_eq_true] at this
 exact this.1.1
theorem KForm.nms {ks : List Knd} {i : Nat} {k : Knd} (h : KForm ks i k) : ∀ f ∈ k.fields,isNm f.name = true:=by
 obtain ⟨lo,r,idl,f1,f2,p1,p2,tt,h1,h2,h3,rfl,h5,h6,h7,h8,h9,h10⟩:=h
 intro f hf
 rcases List.mem_cons.1 hf with rfl | hf
 ·show isNm nId = true;decide +kernel
 rcases List.mem_append.1 hf with hf | hf
 ·have:=(h5.nms).subset (List.mem_map_of_mem (f:=Fld.name) hf)
  simp only [List.mem_cons,List.not_mem_nil,or_false] at this
  rcases this with e | e | e <;> rw [e] <;> decide +kernel
 rcases List.mem_append.1 hf with hf | hf
 ·rcases h6 with rfl | ⟨_,rfl⟩
  ·cases hf
  ·rw [List.mem_singleton] at hf;subst hf;show isNm nBy = true;decide +kernel
 rcases List.mem_append.1 hf with hf | hf
 ·exact h7.nm f hf
 rcases List.mem_append.1 hf with hf | hf
 ·exact h8.nm f hf
 ·have:=(h10.nms).subset (List.mem_map_of_mem (f:=Fld.name) hf)
  simp only [List.mem_cons,List.not_mem_nil,or_false] at this
  rw [this];decide +kernel
theorem HX.field {x : Sch} (H : HX x) {i : Nat} {k : Knd} (hk : x.kinds[i]? = some k) : ∀ f ∈ k.fields,isFieldB f = true:=by
 have hF:=H.form i k hk
 have hil : i ≤ 2:=by have:=(List.getElem?_eq_some_iff.1 hk).1;have:=H.nk;omega
 have hnm:=hF.nms
 obtain ⟨lo,r,idl,f1,f2,p1,p2,tt,h1,h2,h3,rfl,h5,h6,h7,h8,h9,h10⟩:=hF
 intro f hf
 have hn:=hnm f hf
 rcases List.mem_cons.1 hf with rfl | hf
 ·simp only [isFieldB,hn,Bool.true_and,Bool.and_eq_true]
  refine ⟨by simp [onlyB,usesOf,usesUp,usesLo,usesHi,usesWd,eNE,idF],?_⟩
  simp only [List.mem_cons,List.not_mem_nil,or_false] at h3
  rcases h3 with rfl | rfl | rfl | rfl <;> simp [kindB,idF,withinB]
 rcases List.mem_append.1 hf with hf | hf
 ·rcases h5 with rfl | ⟨t,lo1,hi1,sm,pt,hti,hl1,hh1,hs,hp,rfl⟩
  ·cases hf
  rcases List.mem_cons.1 hf with rfl | hf
  ·simp only [isFieldB,hn,Bool.true_and,Bool.and_eq_true]
   refine ⟨by simp [onlyB,usesOf,usesUp,usesLo,usesHi,usesWd,eNE,ofN],?_⟩
   have:=nm_knm (t:=t) (by omega)
   simp only [List.mem_cons,List.not_mem_nil,or_false] at hh1
   rcases hl1 with rfl | rfl <;> rcases hh1 with rfl | rfl | rfl | rfl <;> simp [kindB,ofN,this,spanB]
  have eof : isNm nOf = true:=by decide +kernel
  have ett : isNm nTotal = true:=by decide +kernel
  rcases List.mem_append.1 hf with hf | hf
  ·rcases hs with rfl | ⟨y,n,g,hy,hg,hpk,rfl⟩
   ·cases hf
   rw [List.mem_singleton] at hf;subst hf
   have:=(H.form t y hy).nms g (List.mem_of_getElem? hg)
   simp only [isFieldB,hn,Bool.true_and,Bool.and_eq_true]
   exact ⟨by simp [onlyB,usesOf,usesUp,usesLo,usesHi,usesWd,eNE,sameF],by simp [kindB,sameF,this,eof]⟩
  ·rcases hp with rfl | ⟨a,b,y,n,ha,hb,hy,hg,rfl⟩
   ·cases hf
   rw [List.mem_singleton] at hf;subst hf
   simp only [isFieldB,hn,Bool.true_and,Bool.and_eq_true]
   exact ⟨by simp [onlyB,usesOf,usesUp,usesLo,usesHi,usesWd,eNE,partF],by simp [kindB,partF,ett,eof,spanB];exact ⟨decide_eq_true (by omega),decide_eq_true (by omega),decide_eq_true (by omega)⟩⟩
 rcases List.mem_append.1 hf with hf | hf
 ·rcases h6 with rfl | ⟨_,rfl⟩
  ·cases hf
  ·rw [List.mem_singleton] at hf;subst hf
   have:=nm_knm (t:=0) (by omega)
   simp only [isFieldB,hn,Bool.true_and,Bool.and_eq_true]
   exact ⟨by simp [onlyB,usesOf,usesUp,usesLo,usesHi,usesWd,eNE,byN],by simp [kindB,byN,this,spanB]⟩
 rcases List.mem_append.1 hf with hf | hf
 ·exact h7.ok f hf
 rcases List.mem_append.1 hf with hf | hf
 ·exact h8.ok f hf
 ·rcases h10 with rfl | ⟨j,kj,hij,hkj,hP,rfl⟩
  ·cases hf
  ·rw [List.mem_singleton] at hf;subst hf
   have:=nm_knm (t:=j) (by have:=(List.getElem?_eq_some_iff.1 hkj).1;have:=H.nk;omega)
   simp only [isFieldB,hn,Bool.true_and,Bool.and_eq_true]
   exact ⟨by simp [onlyB,usesOf,usesUp,usesLo,usesHi,usesWd,eNE,totF],by simp [kindB,totF,this]⟩
def RName (n : ByteArray) (t : Nat) : Prop:=n = nOrder ++ (knm t).extract 0 1 ∨ n = nMost ++ (knm t).extract 0 1 ∨ n = nLeast ++ (knm t).extract 0 1
theorem rname_ne {a b : ByteArray} {s t : Nat} (hst : s < t) (ht : t ≤ 2) (h : RName a s) (k : RName b t) : a ≠ b:=by
 obtain ⟨rfl,rfl⟩ | ⟨rfl,rfl⟩ | ⟨rfl,rfl⟩ : (s = 0 ∧ t = 1) ∨ (s = 0 ∧ t = 2) ∨ (s = 1 ∧ t = 2):=by omega
 all_goals rcases h with rfl | rfl | rfl <;> rcases k with rfl | rfl | rfl <;> decide +kernel
theorem rname_nm {a : ByteArray} {t : Nat} (ht : t ≤ 2) (h : RName a t) : isNm a = true:=by
 obtain rfl | rfl | rfl : t = 0 ∨ t = 1 ∨ t = 2:=by omega
 all_goals rcases h with rfl | rfl | rfl <;> decide +kernel
theorem RuleF.rn {k : Knd} {r : Rul} {t : Nat} (h : RuleF k r) (hn : k.name = knm t) : RName r.name t:=by
 cases h with
 | low n h hn'=>exact .inl (by rw [hn])
 | most f n h hf hn'=>exact .inr (.inl (by rw [hn]))
 | least f n h hf hn'=>exact .inr (.inr (by rw [hn]))
theorem RChain.facts {ks : List Knd} {i : Nat} {rs : List Rul} (h : RChain ks i rs) (hN : ∀ (t : Nat) y,ks[t]? = some y → y.name = knm t) (hl : ks.length ≤ 3) :
  rs.Pairwise (fun a b=>a.name ≠ b.name) ∧ ∀ r ∈ rs,∃ t k,t < i ∧ ks[t]? = some k ∧ RuleF k r:=by
 induction h with
 | nil=>simp
 | skip h ih=>exact ⟨ih.1,fun r hr=>by obtain ⟨t,k,h1,h2⟩:=ih.2 r hr;exact ⟨t,k,by omega,h2⟩⟩
 | @take i rs k r h hk hr ih=>
  refine ⟨List.pairwise_append.2 ⟨ih.1,by simp,fun a ha b hb=>?_⟩,fun q hq=>?_⟩
  ·rw [List.mem_singleton] at hb;subst hb
   obtain ⟨t,k2,h1,h2,h3⟩:=ih.2 a ha
   exact rname_ne h1 (by have:=(List.getElem?_eq_some_iff.1 hk).1;omega) (h3.rn (hN t k2 h2)) (hr.rn (hN i k hk))
  ·rcases List.mem_append.1 hq with hq | hq
   ·obtain ⟨t,k2,h1,h2⟩:=ih.2 q hq;exact ⟨t,k2,by omega,h2⟩
   ·rw [List.mem_singleton] at hq;subst hq;exact ⟨i,k,by omega,hk,hr⟩
def LowOK (F : List Fld) (f : Fld) : Prop:=(f.name = nLow → f.kind = 2 ∧ ∃ g ∈ F,g.name = nHigh ∧ g.kind = 2) ∧ (f.name = nSize → f.kind = 2)
theorem PlainF.low_ok {p : List Fld} (h : PlainF p) {F : List Fld} (hs : ∀ f ∈ p,f ∈ F) : ∀ f ∈ p,LowOK F f:=by
 cases h with
 | none=>simp
 | low a b c d ha hb hc hd=>
  intro f hf
  simp only [List.mem_cons,List.not_mem_nil,or_false] at hf
  rcases hf with rfl | rfl
  ·exact ⟨fun _=>⟨rfl,⟨nHigh,nE,nE,2,c,10 + d,[],[]⟩,hs _ (by simp),rfl,rfl⟩,fun _=>rfl⟩
  ·exact ⟨fun h=>absurd h (by show ¬ nHigh = nLow;decide +kernel),fun _=>rfl⟩
 | _=>
  intro f hf
  simp only [List.mem_cons,List.not_mem_nil,or_false] at hf
  rcases hf with rfl | rfl <;> refine ⟨fun h=>?_,fun h=>?_⟩ <;> first | rfl | (exfalso;simp only at h;revert h;decide +kernel)
end
section
open Go
theorem KForm.low {ks : List Knd} {i : Nat} {k : Knd} (h : KForm ks i k) : ∀ f ∈ k.fields,LowOK k.fields f:=by
 obtain ⟨lo,r,idl,f1,f2,p1,p2,tt,h1,h2,h3,rfl,h5,h6,h7,h8,h9,h10⟩:=h
 intro f hf
 have hnot : ∀ n ∈ [nId,nOf,nSame,nPart,nBy,nTotal],n ≠ nLow ∧ n ≠ nSize:=by decide +kernel
 have no : f.name ∈ [nId,nOf,nSame,nPart,nBy,nTotal] → LowOK (idF idl :: (f1 ++ (f2 ++ (p1 ++ (p2 ++ tt))))) f:=fun hm=>⟨fun e=>absurd e (hnot _ hm).1,fun e=>absurd e (hnot _ hm).2⟩
 have hf0:=hf
 rcases List.mem_cons.1 hf with rfl | hf
 ·exact no (by simp [idF])
 rcases List.mem_append.1 hf with hf | hf
 ·have:=(h5.nms).subset (List.mem_map_of_mem (f:=Fld.name) hf)
  exact no (by simp only [List.mem_cons,List.not_mem_nil,or_false] at this ⊢;rcases this with e | e | e <;> simp [e])
 rcases List.mem_append.1 hf with hf | hf
 ·rcases h6 with rfl | ⟨_,rfl⟩
  ·cases hf
  ·rw [List.mem_singleton] at hf;subst hf;exact no (by simp [byN])
 rcases List.mem_append.1 hf with hf | hf
 ·exact h7.low_ok (fun f hf=>by simp [hf]) f hf
 rcases List.mem_append.1 hf with hf | hf
 ·exact h8.low_ok (fun f hf=>by simp [hf]) f hf
 ·have:=(h10.nms).subset (List.mem_map_of_mem (f:=Fld.name) hf)
  exact no (by simp only [List.mem_cons,List.not_mem_nil,or_false] at this ⊢;simp [this])
variable {x : Sch}
theorem HX.ruleNm (H : HX x) {i : Nat} {k : Knd} (hk : x.kinds[i]? = some k) {f : Fld} (hf : f ∈ k.fields) (h2 : f.kind = 2) : nameNo x k i f.name = false ∧ nameBad x k i f.name = false:=by
 obtain ⟨j,hj⟩:=List.getElem?_of_mem hf
 have e:=fix_of (H.form i k hk).nodup hj
 have ha : atR x i (fieldIx k f.name) = (f,true):=by rw [atR,e,fat hk,hj]
 exact ⟨by simp [nameNo,ha],by simp [nameBad,ha,h2]⟩
theorem nm_none (k : Knd) (i : Int) : nameNo x k i nE = false ∧ nameBad x k i nE = false:=by simp [nameNo,nameBad,eNE]
theorem firstC0 {a b c d : Bool} (h1 : a = false) (h2 : b = false) (h3 : c = false) (h4 : d = false) {n1 n2 n3 n4 : Int} : firstC [(a,n1),(b,n2),(c,n3),(d,n4)] = 0:=by subst h1 h2 h3 h4;rfl
theorem GenX.rule0 (h : GenX x) {n : Nat} {r : Rul} (hr : x.rules[n]? = some r) : ruleE x n r = 0:=by
 have H:=h.hx
 obtain ⟨i,_,hc⟩:=h.rs
 have hN : ∀ (t : Nat) y,x.kinds[t]? = some y → y.name = knm t:=fun t y hy=>(H.form t y hy).name
 obtain ⟨hp,hm⟩:=hc.facts hN H.nk
 obtain ⟨t,k,_,hk,hR⟩:=hm r (List.mem_of_getElem? hr)
 have htw : ruleTwice x n r = false:=by
  unfold ruleTwice
  rw [List.any_eq_false]
  intro s hs e
  obtain ⟨m,hm⟩:=List.getElem?_of_mem hs
  have hlt : m < n:=by have:=(List.getElem?_eq_some_iff.1 hm).1;rw [List.length_take] at this;omega
  rw [List.getElem?_take_of_lt hlt] at hm
  obtain ⟨l1,e1⟩:=List.getElem?_eq_some_iff.1 hm
  obtain ⟨l2,e2⟩:=List.getElem?_eq_some_iff.1 hr
  exact List.pairwise_iff_getElem.1 hp m n l1 l2 hlt (by rw [e1,e2];exact (seq_iff _ _).1 e)
 have hkr : ∀ n : ByteArray,n = k.name → kindIx x n = t:=fun n e=>by rw [e,hN t k hk];exact H.kix hk
 have low:=(H.form t k hk).low
 unfold ruleE
 cases hR with
 | low n2 hl hn=>
  rw [hkr _ rfl,kat hk]
  obtain ⟨f,hf,e⟩:=has_pos hl
  obtain ⟨k2,g,hg,e2,g2⟩:=(low f hf).1 e
  have a1:=H.ruleNm hk hf k2
  have a2:=H.ruleNm hk hg g2
  rw [e] at a1;rw [e2] at a2
  exact firstC0 htw (by simp only [a1.1,a2.1];rfl) (by simp only [a1.2,a2.2];rfl) (by show seq nLow nHigh = false;decide +kernel)
 | most f2 n2 hl hf2 hn=>
  rw [hkr _ rfl,kat hk]
  obtain ⟨f,hf,e⟩:=has_pos hl
  have a1:=H.ruleNm hk hf ((low f hf).2 e)
  have a2:=nm_none (x:=x) k t
  rw [e] at a1
  exact firstC0 htw (by simp only [a1.1,a2.1];rfl) (by simp only [a1.2,a2.2];rfl) (by show seq nSize nE = false;decide +kernel)
 | least f2 n2 hl hf2 hn=>
  rw [hkr _ rfl,kat hk]
  obtain ⟨f,hf,e⟩:=has_pos hl
  have a1:=H.ruleNm hk hf ((low f hf).2 e)
  have a2:=nm_none (x:=x) k t
  rw [e] at a1
  exact firstC0 htw (by simp only [a1.1,a2.1];rfl) (by simp only [a1.2,a2.2];rfl) (by show seq nE nSize = false;decide +kernel)
theorem GenX.valid (h : GenX x) : validB x = true:=by
 have H:=h.hx
 have C:=h.cls
 have hN : ∀ (t : Nat) y,x.kinds[t]? = some y → y.name = knm t:=fun t y hy=>(H.form t y hy).name
 simp only [validB,Bool.and_eq_true,List.all_eq_true,decide_eq_true_eq]
 refine ⟨⟨⟨⟨⟨⟨?_,?_⟩,?_⟩,?_⟩,fun k hk=>?_⟩,fun l hl=>?_⟩,fun r hr=>?_⟩
 ·have:=h.ver;simp [withinB];omega
 ·have:=H.nk;omega
 ·have:=C.nl;omega
 ·have:=h.nr;omega
 ·obtain ⟨i,hi⟩:=List.getElem?_of_mem hk
  have hil : i ≤ 2:=by have:=(List.getElem?_eq_some_iff.1 hi).1;have:=H.nk;omega
  have hnf:=(C.ks k hk).nf
  have hfa:=H.field hi
  simp only [isKindB,Bool.and_eq_true,List.all_eq_true,decide_eq_true_eq]
  refine ⟨⟨⟨by rw [hN i k hi];exact nm_knm hil,?_⟩,hnf⟩,hfa⟩
  obtain ⟨lo,r,idl,f1,f2,p1,p2,tt,h1,h2,h3,rfl,_⟩:=H.form i k hi
  simp only [List.mem_cons,List.not_mem_nil,or_false] at h1
  simp [spanB];omega
 ·obtain ⟨m,mv,hm1,hm2,he,hml,hmq⟩:=h.ls
  rw [he,List.mem_singleton] at hl
  subst hl
  have hlen : (stL.take m).length = m:=by rw [List.length_take];simp;omega
  have hst : (stL.take m).all isNm = true:=by
   rw [List.all_eq_true];intro w hw
   have:=List.mem_of_mem_take hw
   simp only [stL,List.mem_cons,List.not_mem_nil,or_false] at this
   rcases this with rfl | rfl | rfl | rfl <;> decide +kernel
  have hmv : mv.all (moveB m) = true:=by
   rw [List.all_eq_true];intro p hp
   have:=hmq p hp
   simp [moveB,withinB];omega
  have hnl : isNm nLife = true:=by decide +kernel
  simp only [isLifeB,hlen,hst,hmv,hnl,Bool.true_and,Bool.and_true,Bool.and_eq_true,decide_eq_true_eq,withinB]
  omega
 ·obtain ⟨i,_,hc⟩:=h.rs
  obtain ⟨_,hm⟩:=hc.facts hN H.nk
  obtain ⟨t,k,_,hk,hR⟩:=hm r hr
  have htl : t ≤ 2:=by have:=(List.getElem?_eq_some_iff.1 hk).1;have:=H.nk;omega
  have e1:=rname_nm htl (hR.rn (hN t k hk))
  have e2 : isNm r.kind = true:=by
   have : r.kind = k.name:=by cases hR <;> rfl
   rw [this,hN t k hk];exact nm_knm htl
  have e3 : withinB r.n (-1048576) 1048576 = true:=by have:=(C.rs r hr).n;simp [withinB];omega
  have e4 : (isE r.a || isNm r.a) = true ∧ (isE r.b || isNm r.b) = true ∧ (!(isE r.a && isE r.b)) = true:=by
   cases hR <;> (simp only;decide +kernel)
  simp only [isRuleB,e1,e2,e3,e4.1,e4.2.1,e4.2.2,Bool.and_self]
theorem upto_nil {α : Type} {q : Nat} {g : Nat → List α} (h : ∀ i,i < q → g i = []) : upTo q g = []:=by
 unfold upTo
 rw [List.flatMap_eq_nil_iff]
 intro i hi
 exact h i (List.mem_range.1 hi)
theorem GenX.probs0 (h : GenX x) : probs x = []:=by
 have H:=h.hx
 have hv : validE x = 0:=by rw [validE,h.valid];rfl
 rw [probs,if_pos hv,upto_nil,upto_nil,upto_nil]
 ·rfl
 ·intro i hi
  unfold ruleP
  rw [List.getElem?_eq_getElem hi]
  simp only
  rw [h.rule0 (List.getElem?_eq_getElem hi),one0]
 ·intro i hi
  have hk:=List.getElem?_eq_getElem hi
  unfold kindP
  rw [hk]
  simp only
  generalize x.kinds[i] = k at hk
  have hkE : kindE x i k = 0:=by
   have hF:=H.form i k hk
   rw [kindE,hF.name,H.kix hk,if_neg (by omega)]
   obtain ⟨lo,r,idl,f1,f2,p1,p2,tt,h1,h2,h3,rfl,_⟩:=hF
   rfl
  rw [hkE,one0,List.nil_append,upto_nil]
  intro j hj
  have hf:=List.getElem?_eq_getElem hj
  unfold fieldP
  rw [hf]
  simp only
  generalize k.fields[j] = f at hf
  rw [fieldE,fix_of (H.form i k hk).nodup hf,if_neg (by omega),H.leads hk hf,one0]
 ·intro i hi
  obtain ⟨m,mv,_,_,he,_⟩:=h.ls
  rw [he] at hi
  obtain rfl : i = 0:=by simp at hi;omega
  unfold liveP
  rw [he]
  simp [liveTwice,one0]
theorem total_le {w : Wd} {n : Nat} (h : ∀ l ∈ w,l.length ≤ n) : totalW w ≤ w.length * n:=by
 unfold totalW
 induction w with
 | nil=>simp
 | cons a l ih=>
  have:=h a (by simp)
  have:=ih fun b hb=>h b (by simp [hb])
  simp only [List.map_cons,List.sum_cons,List.length_cons,Nat.add_mul];omega
theorem MadeW.fits {w : Wd} (h : GenX x) (m : MadeW x w) : fitsB x w = true:=by
 have H:=h.hx
 simp only [fitsB,lensB,Bool.and_eq_true,List.all_eq_true,decide_eq_true_eq]
 refine ⟨⟨⟨m.len,fun k hk l hl=>?_⟩,fun r hr l hl=>?_⟩,?_⟩
 ·have hkw:=List.mem_range.1 hk
  have e:=List.getElem?_eq_getElem hkw
  have hkx : k < x.kinds.length:=by rw [← m.len];exact hkw
  have e2 : x.kinds[k]? = some x.kinds[k]:=List.getElem?_eq_getElem hkx
  rw [getD_get e] at hl
  have:=((m.ok k _ e).recs _ e2 l hl).len
  simp [lenOk,e2,this]
 ·obtain ⟨kd,f,h1,h2,h3,h4,_⟩:=mem_refs hr
  have hkw : r.kind < w.length:=by rw [m.len];exact (List.getElem?_eq_some_iff.1 h1).1
  have e:=List.getElem?_eq_getElem hkw
  rw [getD_get e] at hl
  have hrec:=(m.ok _ _ e).recs _ h1 l hl
  have hlt : r.field < l.length:=by rw [hrec.len];exact (List.getElem?_eq_some_iff.1 h2).1
  have hv:=List.getElem?_eq_getElem hlt
  have hu : 0 ≤ upIx x r.kind r.field:=by
   have:=H.leads h1 h2
   simp only [leadsE] at this
   rw [if_neg (by omega),if_neg (by omega),if_pos h3] at this
   refine Int.not_lt.1 fun hn=>?_
   rw [if_pos hn] at this;omega
  have b1:=hrec.sm _ (List.mem_of_getElem? hv)
  have b2:=hrec.ref _ _ _ h2 h3 hv hu
  simp only [refOk,h4,List.getD_eq_getElem?_getD,hv,Option.getD_some] at b2 ⊢
  simp;omega
 ·have h1:=total_le (w:=w) (n:=5) fun l hl=>by
   obtain ⟨k,hk⟩:=List.getElem?_of_mem hl
   exact (m.ok k l hk).few
  have:=H.nk;have:=m.len;omega
theorem gen_checked {w : Wd} {s : Sb} (h : GenX x) (m : MadeW x w) (hs : s.map List.length = w.map List.length) : checkedE x w s = 0:=by
 rw [checkedE,h.probs0,m.fits h]
 simp [shapedB,hs]
end
section
open Go
variable {x : Sch} {w : Wd}
theorem count_mono {v t : Sb} (h : Sub v t) (r : Rf) (i : Int) : countE w v r i ≤ countE w t r i:=by
 unfold countE
 refine List.countP_mono_left fun j _ hj=>?_
 simp only [Bool.and_eq_true] at hj ⊢
 exact ⟨h _ _ hj.1,hj.2⟩
theorem wrong_anti {v t : Sb} (h : Sub v t) {k i : Nat} (ht : wrongE x w t k i = true) : wrongE x w v k i = true:=by
 unfold wrongE at *
 rw [List.any_eq_true] at *
 obtain ⟨r,hr,h1⟩:=ht
 refine ⟨r,hr,?_⟩
 simp only [wrong1,Bool.or_eq_true,Bool.and_eq_true,decide_eq_true_eq,Bool.not_eq_true'] at h1 ⊢
 rcases h1 with ⟨h1,h2⟩ | ⟨h1,h2⟩
 ·refine .inl ⟨h1,?_⟩
  cases hv : keptB v r.up.toNat (valOf w k i r.field).toNat with
  | false=>rfl
  | true=>rw [h _ _ hv] at h2;cases h2
 ·have:=count_mono (w:=w) h r i
  exact .inr ⟨h1,by omega⟩
def Right (x : Sch) (w : Wd) (v : Sb) : Prop:=∀ k i,keptB v k i = true → wrongE x w v k i = false
theorem right_sweep1 {v : Sb} (hv : Right x w v) {t : Sb × Bool} (h : Sub v t.1) (p : Nat × Nat) : Sub v (sweep1 x w t p).1:=by
 unfold sweep1
 split
 ·rename_i hc
  simp only [Bool.and_eq_true] at hc
  intro k i hk
  show keptB (clearB t.1 p.1 p.2) k i = true
  rw [keptB_clear,h k i hk,Bool.true_and]
  cases e : (decide (p.1 = k) && decide (p.2 = i)) with
  | false=>rfl
  | true=>
   simp only [Bool.and_eq_true,decide_eq_true_eq] at e
   have:=wrong_anti h hc.2
   rw [e.1,e.2,hv _ _ hk] at this;cases this
 ·exact h
theorem right_fold {v : Sb} (hv : Right x w v) : ∀ (l : List (Nat × Nat)) (t : Sb × Bool),Sub v t.1 → Sub v (l.foldl (sweep1 x w) t).1
 | [],_,h=>h
 | p :: l,t,h=>right_fold hv l _ (right_sweep1 hv h p)
theorem right_shrinkN {v : Sb} (hv : Right x w v) : ∀ (n : Nat) (t : Sb),Sub v t → Sub v (shrinkN x w n t)
 | 0,t,h=>h
 | n + 1,t,h=>by
  unfold shrinkN
  split
  ·exact right_shrinkN hv n _ (right_fold hv _ _ h)
  ·exact right_fold hv _ _ h
theorem right_shrink {v t : Sb} (hv : Right x w v) (h : Sub v t) : Sub v (shrinkE x w t):=right_shrinkN hv _ _ h
theorem right_of {v : Sb} (h : validS x w v = true) : Right x w v:=by
 intro k i hk
 unfold validS at h
 simp only [Bool.and_eq_true,List.all_eq_true] at h
 have:=h.2 (k,i) (keptB_pos hk)
 simp only [hk,Bool.true_and,Bool.not_eq_true'] at this
 exact this
theorem valid_of {v : Sb} (hc : checkedE x w v = 0) (h : Right x w v) : validS x w v = true:=by
 unfold validS
 simp only [Bool.and_eq_true,List.all_eq_true,decide_eq_true_eq]
 refine ⟨hc,fun p _=>?_⟩
 cases hk : keptB v p.1 p.2 with
 | false=>rfl
 | true=>rw [h _ _ hk];rfl
theorem within_of {a b : Sb} (h : Sub a b) : withinE a b = true:=by
 unfold withinE
 rw [List.all_eq_true]
 intro p _
 cases e : keptB a p.1 p.2 with
 | false=>rfl
 | true=>rw [h _ _ e];rfl
def OrTo (a b : Sb) (j i : Nat) (u : Sb) : Prop:=u.map List.length = a.map List.length ∧ ∀ k m,keptB u k m = (keptB a k m || (decide (k < j ∨ (k = j ∧ m < i)) && keptB b k m))
def IsOr (a b u : Sb) : Prop:=u.map List.length = a.map List.length ∧ ∀ k m,keptB u k m = (keptB a k m || keptB b k m)
theorem OrTo.zero (a b : Sb) : OrTo a b 0 0 a:=⟨rfl,fun k m=>by
 have : decide (k < 0 ∨ (k = 0 ∧ m < 0)) = false:=by simp
 rw [this];simp⟩
theorem kept_out {s : Sb} {k i : Nat} (h : ∀ l,s[k]? = some l → l.length ≤ i) : keptB s k i = false:=by
 unfold keptB
 rw [List.getD_eq_getElem?_getD,List.getD_eq_getElem?_getD]
 cases e : s[k]? with
 | none=>rfl
 | some l=>rw [Option.getD_some,List.getElem?_eq_none (h l e)];rfl
theorem kept_set {s : Sb} {k i : Nat} {l : List Bool} (hl : s[k]? = some l) (hi : i < l.length) (v : Bool) (k' i' : Nat) : keptB (s.set k (l.set i v)) k' i' = if k' = k ∧ i' = i then v else keptB s k' i':=by
 unfold keptB
 simp only [List.getD_eq_getElem?_getD]
 by_cases e : k' = k
 ·subst e
  rw [List.getElem?_set_self (List.getElem?_eq_some_iff.1 hl).1,hl]
  simp only [Option.getD_some,true_and]
  by_cases e2 : i' = i
  ·subst e2;rw [List.getElem?_set_self hi];simp
  ·rw [List.getElem?_set_ne (Ne.symm e2),if_neg e2]
 ·rw [List.getElem?_set_ne (Ne.symm e),if_neg (by simp [e])]
theorem OrTo.next {a b u : Sb} {j i : Nat} {l : List Bool} (h : OrTo a b j i u) (hl : u[j]? = some l) (hi : i < l.length) : OrTo a b j (i + 1) (u.set j (l.set i (keptB u j i || keptB b j i))):=by
 refine ⟨?_,fun k m=>?_⟩
 ·rw [← h.1,List.map_set,List.length_set]
  refine List.ext_getElem? fun n=>?_
  by_cases e : n = j
  ·subst e
   rw [List.getElem?_set_self (by rw [List.length_map];exact (List.getElem?_eq_some_iff.1 hl).1),List.getElem?_map,hl];rfl
  ·rw [List.getElem?_set_ne (Ne.symm e)]
 ·rw [kept_set hl hi]
  by_cases e : k = j ∧ m = i
  ·obtain ⟨rfl,rfl⟩:=e
   rw [if_pos ⟨rfl,rfl⟩,h.2 k m]
   have h1 : decide (k < k ∨ (k = k ∧ m < m)) = false:=by simp
   have h2 : decide (k < k ∨ (k = k ∧ m < m + 1)) = true:=by simp
   rw [h1,h2];simp
  ·rw [if_neg e,h.2 k m]
   have : decide (k < j ∨ (k = j ∧ m < i)) = decide (k < j ∨ (k = j ∧ m < i + 1)):=decide_eq_decide.2 ⟨fun h=>by omega,fun h=>by omega⟩
   rw [this]
theorem OrTo.row {a b u : Sb} {j : Nat} {l : List Bool} (h : OrTo a b j l.length u) (hb : b.map List.length = a.map List.length) (hl : u[j]? = some l) : OrTo a b (j + 1) 0 u:=by
 refine ⟨h.1,fun k m=>?_⟩
 rw [h.2 k m]
 by_cases e : k = j ∧ l.length ≤ m
 ·have : keptB b k m = false:=by
   obtain ⟨rfl,e⟩:=e
   refine kept_out fun l' hl'=>?_
   obtain ⟨l2,h2,e2⟩:=lens_get (hb.trans h.1.symm) hl'
   rw [hl] at h2;cases h2;omega
  rw [this];simp
 ·have : decide (k < j ∨ (k = j ∧ m < l.length)) = decide (k < j + 1 ∨ (k = j + 1 ∧ m < 0)):=decide_eq_decide.2 ⟨fun h=>by omega,fun h=>by omega⟩
  rw [this]
theorem OrTo.all {a b u : Sb} (h : OrTo a b u.length 0 u) (hb : b.map List.length = a.map List.length) : IsOr a b u:=by
 refine ⟨h.1,fun k m=>?_⟩
 rw [h.2 k m]
 by_cases e : k < u.length
 ·have : decide (k < u.length ∨ (k = u.length ∧ m < 0)) = true:=by simp [e]
  rw [this,Bool.true_and]
 ·have : keptB b k m = false:=kept_out fun l hl=>by
   have h1:=(List.getElem?_eq_some_iff.1 hl).1
   have h2:=congrArg List.length (hb.trans h.1.symm)
   simp at h2;omega
  rw [this];simp
theorem union_law {s t a b u v : Sb} (ha : a = shrinkE x w s) (hb : b = shrinkE x w t) (hcs : checkedE x w s = 0) (hct : checkedE x w t = 0) (hu : IsOr a b u) (hv : IsOr s t v) (hcu : checkedE x w u = 0) :
  validS x w u = true ∧ withinE u (shrinkE x w v) = true ∧ withinE a (shrinkE x w v) = true:=by
 subst ha hb
 have ra:=right_of (valid_shrink (x:=x) (w:=w) hcs)
 have rb:=right_of (valid_shrink (x:=x) (w:=w) hct)
 have sa : Sub (shrinkE x w s) u:=fun k i h=>by rw [hu.2,h];rfl
 have sb : Sub (shrinkE x w t) u:=fun k i h=>by rw [hu.2,h];simp
 have ru : Right x w u:=fun k i h=>by
  cases e : wrongE x w u k i with
  | false=>rfl
  | true=>
   rw [hu.2,Bool.or_eq_true] at h
   rcases h with h | h
   ·have:=wrong_anti sa e;rw [ra _ _ h] at this;cases this
   ·have:=wrong_anti sb e;rw [rb _ _ h] at this;cases this
 have uv : Sub u v:=fun k i h=>by
  rw [hu.2,Bool.or_eq_true] at h
  rw [hv.2]
  rcases h with h | h
  ·rw [sub_shrink s _ _ h];rfl
  ·rw [sub_shrink t _ _ h];simp
 have us:=right_shrink ru uv
 exact ⟨valid_of hcu ru,within_of us,within_of (sa.trans us)⟩
end
section
open Go Go.RowKit Go.Shelf
theorem ss_w {w : Wd} (hw : Ws w) {s : Sb} (h : s.map List.length = w.map List.length) : Ss s:=by
 refine ⟨?_,fun l hl=>?_⟩
 ·have:=congrArg List.length h
  simp only [List.length_map] at this
  have:=hw.nk;omega
 ·have : l.length ∈ s.map List.length:=List.mem_map.2 ⟨l,hl,rfl⟩
  rw [h] at this
  obtain ⟨m,hm,e⟩:=List.mem_map.1 this
  have:=hw.nr m hm;omega
theorem orNext {a b u : Sb} {j i : Nat} {l lb : List Bool} {c d : Bool} (h : OrTo a b j i u) (hl : u[j]? = some l) (hc : l[i]? = some c) (hb : b[j]? = some lb) (hd : lb[i]? = some d) : OrTo a b j (i + 1) (u.set j (l.set i (c || d))):=by
 have:=h.next hl (List.getElem?_eq_some_iff.1 hc).1
 rw [kept_of hl hc,kept_of hb hd] at this
 exact this
theorem RS.swp {u : Sb} {v : Value} {x y : Nat × Blk} {ρ : Store} (h : RS u v (x :: y :: ρ)) : RS u v (y :: x :: ρ):=RowsOf.perm h (List.Perm.swap _ _ _)
theorem CE.give {P : Program} {g : FuncId} {x y d d' e : D} {σ τ : Store} {K : D → Store → Prop} (hv : Vs σ d τ d') (h : APure P g [x,y,d'] e) (k : W (K e τ)) : CE P g [x,y,d] σ K:=
 ⟨σ,[],fun a s'=>a = e ∧ s' = τ,by simp,⟨h.ent,fun w X vs hvs hs=>by
  match vs,hvs.1 with
  | [u1,u2,u3],_=>
  obtain ⟨_,q1,r1⟩:=hvs.get (j:=0) rfl
  obtain ⟨_,q2,r2⟩:=hvs.get (j:=1) rfl
  obtain ⟨_,q3,r3⟩:=hvs.get (j:=2) rfl
  cases q1;cases q2;cases q3
  obtain ⟨g1,g2⟩:=hv.run w X u3 hs r3
  exact (h.run w (Own τ X) _ (.cons (rd_own_sub r1 hv.sub) (.cons (rd_own_sub r2 hv.sub) (.cons g2 .nil))) g1.gok).mono fun e w' ⟨u,h1,h2,h3⟩=>⟨u,_,_,h1,⟨rfl,rfl⟩,h2,g1.ex h3,(Mv.of_ex h3).wider hv.sub⟩⟩,
  fun a s' ⟨h1,h2⟩=>by subst h1 h2;exact ⟨_,by simp,k.h⟩⟩
theorem sk97 {A B : Prop} (k : B) (h : Hd7 B → A:=by intro hk7q;(first | refine sb0 ?_ | refine sb1 ?_ | ((with_reducible refine' Cp.by ?hc ?_);(case hc=>first | exact HC1 | exact HC2 | exact HA | exact HB)) | ((with_reducible refine' CE.pure ?hc ?_);(case hc=>first | exact HC1 | exact HC2 | exact HA | exact HB)));exact hk7q.run) : A:=h ⟨k⟩
theorem sk98 {A B : Prop} (k : B) (h : Hd7 B → A:=by intro hk7q;(first | refine sb0 ?_ | refine sb1 ?_ | ((with_reducible refine' Cp.by ?hc ?_);(case hc=>first | exact HSc | exact HW2 | exact l31_lives)) | ((with_reducible refine' CE.pure ?hc ?_);(case hc=>first | exact HSc | exact HW2 | exact l31_lives)));exact hk7q.run) : A:=h ⟨k⟩
theorem cl20 {p : Prop} (h : p:=by refine perm_ct fun a=>?_;simp only [List.append_eq,List.nil_append,ct_cons,ct_app,ct_nil];omega) : p:=h
theorem l31_union (l m p q : List Int) (hl : I64s l) (hm : I64s m) (hp : I64s p) (hq : I64s q) :
  APure Tryz.prog 5 [slI l,slI m,slI p,slI q] (bD true):=by
 refine APure.of_call (enterX mixed tget_ok Tryz.func5 (by kernel_rfl) rfl Tryz.ntmps5 rfl ?_);intro BB
 repeat' (first | refine sk94 ?_ | (intro b;conv=>whnf))
 refine CE.some (r09_schema_p l hl) ?_
 rintro _ ⟨x,rfl,hgx⟩
 have hcx:=hgx.cls
 have HV:=sch_valid x hcx.good
 have HV9:=r09_valid x hcx.good
 repeat' (first | refine sk94 ?_ | (intro b;conv=>whnf))
 refine CE.some (r31_made_p x (by have:=hcx.nk;omega) (fun k hk=>by have:=(hcx.ks k hk).nf;omega) m hm) ?_
 rintro _ ⟨w,rfl,hmw⟩
 have hwo:=hmw.ok' hcx
 have hws:=hwo.ws
 repeat' (first | refine sk94 ?_ | (intro b;conv=>whnf))
 refine CE.some (r31_some_p w hws p hp) ?_
 rintro _ ⟨s,rfl,hs⟩
 repeat' (first | refine sk94 ?_ | (intro b;conv=>whnf))
 refine CE.some (r31_some_p w hws q hq) ?_
 rintro _ ⟨t,rfl,ht⟩
 have hss : Ss s:=ss_w hws hs
 have hts : Ss t:=ss_w hws ht
 have HC1:=cl_great_p x w s hws hss HV
 have HC2:=cl_great_p x w t hws hts HV
 have hcs:=gen_checked hgx hmw hs
 have hct:=gen_checked hgx hmw ht
 rw [great_yes hcs] at HC1
 rw [great_yes hct] at HC2
 obtain ⟨a,ha⟩ : ∃ a,a = shrinkE x w s:=⟨_,rfl⟩
 obtain ⟨b,hb⟩ : ∃ a,a = shrinkE x w t:=⟨_,rfl⟩
 have hal : a.map List.length = w.map List.length:=by rw [ha,lens_shrink];exact hs
 have hbl : b.map List.length = w.map List.length:=by rw [hb,lens_shrink];exact ht
 rw [← ha] at HC1
 rw [← hb] at HC2
 have has : Ss a:=ss_w hws hal
 have hbs : Ss b:=ss_w hws hbl
 have HA:=r31_shaped w a (by have:=hws.nk;omega)
 have HB:=r31_shaped w b (by have:=hws.nk;omega)
 rw [show shapedB w a = true from by simp [shapedB,hal]] at HA
 rw [show shapedB w b = true from by simp [shapedB,hbl]] at HB
 repeat' (first | refine sk97 ?_ | (intro b;conv=>whnf) | (with_reducible refine Br.t (beq_self_eq_true _) ?_) | (with_reducible refine Br.f Bool.not_true ?_) | (with_reducible refine Br.t (decide_eq_true trivial) ?_))
 refine CE.own (r31_copied a has) (List.Perm.refl ([] ++ _)) (fun s'=>s' ++ _) (fun s'=>List.Perm.refl _) ?_
 rintro _ σ1 ⟨v1,rfl,hR1⟩
 obtain ⟨a1,c1,rfl⟩:=hR1.slice
 repeat' (first | refine sk97 ?_ | (intro b;conv=>whnf) | (with_reducible refine Br.t (beq_self_eq_true _) ?_) | (with_reducible refine Br.f Bool.not_true ?_) | (with_reducible refine Br.t (decide_eq_true trivial) ?_))
 refine CE.own (r31_copied s hss) (List.Perm.refl ([] ++ _)) (fun s'=>s' ++ _) (fun s'=>List.Perm.refl _) ?_
 rintro _ σ2 ⟨v2,rfl,hR2⟩
 obtain ⟨a2,c2,rfl⟩:=hR2.slice
 repeat' (first | refine sk97 ?_ | (intro b;conv=>whnf) | (with_reducible refine Br.t (beq_self_eq_true _) ?_) | (with_reducible refine Br.f Bool.not_true ?_) | (with_reducible refine Br.t (decide_eq_true trivial) ?_))
 rename_i bx
 have hlen : a.length = s.length:=by have:=congrArg List.length (hal.trans hs.symm);simpa using this
 have hak:=has.nk
 refine lp_loopd mixed tget_ok (γ:=Nat × Sb × Sb × Store × Store) (fun g=>[(19,iD g.1)]) (fun g=>g.2.2.2.2 ++ (g.2.2.2.1 ++ [(bx,.cells 43 (schC x))])) (fun g=>g.1 ≤ a.length ∧ OrTo a b g.1 0 g.2.1 ∧ OrTo s t g.1 0 g.2.2.1 ∧ RS g.2.1 (.slice a1 a.length c1) g.2.2.2.1 ∧ RS g.2.2.1 (.slice a2 s.length c2) g.2.2.2.2) (fun g=>a.length - g.1) (0,a,s,σ1,σ2) (chk_of cl2) cl3 ⟨Nat.zero_le _,OrTo.zero _ _,OrTo.zero _ _,hR1,hR2⟩ ?_
 rintro ⟨j,u,v,σu,σv⟩ ⟨hj,hOu,hOv,hRu,hRv⟩
 simp only at hj hOu hOv hRu hRv ⊢
 have hul : u.length = a.length:=by have:=congrArg List.length hOu.1;simpa using this
 have hvl : v.length = s.length:=by have:=congrArg List.length hOv.1;simpa using this
 by_cases hjl : j < a.length
 ·obtain ⟨lu,hlu⟩ : ∃ l,u[j]? = some l:=⟨_,List.getElem?_eq_getElem (by omega)⟩
  have hll : lu.length ≤ 1000:=(ss_w hws (hOu.1.trans hal)).nr lu (List.mem_of_getElem? hlu)
  repeat' (first | refine sk97 ?_ | (intro b;conv=>whnf) | (with_reducible refine Br.t (beq_self_eq_true _) ?_) | (with_reducible refine Br.f Bool.not_true ?_) | (with_reducible refine Br.t (decide_eq_true trivial) ?_))
  refine lp_loopd mixed tget_ok (γ:=Nat × Sb × Sb × Store × Store) (fun g=>[(20,iD g.1)]) (fun g=>g.2.2.2.2 ++ (g.2.2.2.1 ++ [(bx,.cells 43 (schC x))])) (fun g=>g.1 ≤ lu.length ∧ OrTo a b j g.1 g.2.1 ∧ OrTo s t j g.1 g.2.2.1 ∧ RS g.2.1 (.slice a1 a.length c1) g.2.2.2.1 ∧ RS g.2.2.1 (.slice a2 s.length c2) g.2.2.2.2) (fun g=>lu.length - g.1) (0,u,v,σu,σv) (chk_of cl2) cl3 ⟨Nat.zero_le _,hOu,hOv,hRu,hRv⟩ ?_
  clear hOv hRv hvl hRu hul
  rintro ⟨i,u2,v2,σu2,σv2⟩ ⟨hi,hOu2,hOv2,hRu,hRv⟩
  simp only at hi hOu2 hOv2 hRu hRv ⊢
  obtain ⟨lu2,hlu2,hlu2l⟩:=lens_get (hOu.1.trans hOu2.1.symm) hlu
  obtain ⟨lv2,hlv2,hlv2l⟩:=lens_get ((hOu.1.trans (hal.trans hs.symm)).trans hOv2.1.symm) hlu
  obtain ⟨lb,hlb,hlbl⟩:=lens_get (hOu.1.trans (hal.trans hbl.symm)) hlu
  obtain ⟨lt,hlt,hltl⟩:=lens_get (hOu.1.trans (hal.trans ht.symm)) hlu
  have hul : u2.length = a.length:=by have:=congrArg List.length hOu2.1;simpa using this
  have hvl : v2.length = s.length:=by have:=congrArg List.length hOv2.1;simpa using this
  by_cases hil : i < lu.length
  ·obtain ⟨bu,hbu⟩ : ∃ b,lu2[i]? = some b:=⟨_,List.getElem?_eq_getElem (by omega)⟩
   obtain ⟨bv,hbv⟩ : ∃ b,lv2[i]? = some b:=⟨_,List.getElem?_eq_getElem (by omega)⟩
   obtain ⟨bb,hbb⟩ : ∃ b,lb[i]? = some b:=⟨_,List.getElem?_eq_getElem (by omega)⟩
   obtain ⟨bt,hbt⟩ : ∃ b,lt[i]? = some b:=⟨_,List.getElem?_eq_getElem (by omega)⟩
   obtain ⟨b0,cap0,cs0,b1,cap1,cs1,ρ1,e1,h2,h3,h4,h5⟩:=rows_open hRu hlu2 hbu
   obtain ⟨d0,dap0,ds0,d1,dap1,ds1,ρ2,e2,g2,g3,g4,g5⟩:=rows_open hRv hlv2 hbv
   rw [hul] at e1
   cases e1
   rw [hvl] at e2
   cases e2
   have m0 : (b0,Blk.cells 62 cs0) ∈ σv2 ++ (σu2 ++ [(bx,.cells 43 (schC x))]):=List.mem_append_right _ (List.mem_append_left _ (h2.mem_iff.2 (by simp)))
   have m1 : (b1,Blk.cells 4 cs1) ∈ σv2 ++ (σu2 ++ [(bx,.cells 43 (schC x))]):=List.mem_append_right _ (List.mem_append_left _ (h2.mem_iff.2 (by simp)))
   have n0 : (d0,Blk.cells 62 ds0) ∈ (b1,Blk.cells 4 (cs1.set i (bD (bu || bb)))) :: (σv2 ++ ((b0,.cells 62 cs0) :: (ρ1 ++ [(bx,.cells 43 (schC x))]))):=List.mem_cons_of_mem _ (List.mem_append_left _ (g2.mem_iff.2 (by simp)))
   have n1 : (d1,Blk.cells 4 ds1) ∈ (b1,Blk.cells 4 (cs1.set i (bD (bu || bb)))) :: (σv2 ++ ((b0,.cells 62 cs0) :: (ρ1 ++ [(bx,.cells 43 (schC x))]))):=List.mem_cons_of_mem _ (List.mem_append_left _ (g2.mem_iff.2 (by simp)))
   cases bu
   ·repeat' (first | refine sk97 ?_ | (intro b;conv=>whnf) | (refine And.intro ?_ ?_ <;> (conv=>whnf)) | ((with_reducible refine' Ld.cellm m0 ?hq8 ?_);(case hq8=>(rw [ix1];exact h3))) | ((with_reducible refine' Ld.cellm m1 ?hq8 ?_);(case hq8=>(rw [ix1];exact h4))))
    refine Sv.cellm (tb:=4) (cs:=cs1) (cs':=cs1.set i (bD (false || bb))) (τ:=σv2 ++ ((b0,.cells 62 cs0) :: (ρ1 ++ [(bx,.cells 43 (schC x))]))) (((((h2.append_right _).append_left σv2).trans cl20))) (by rw [ix1];exact (List.getElem?_eq_some_iff.1 h4).1) rfl (by rw [ix1];rfl) ?_
    repeat' (first | refine sk97 ?_ | (intro b;conv=>whnf) | (refine And.intro ?_ ?_ <;> (conv=>whnf)) | ((with_reducible refine' Ld.cellm n0 ?hq8 ?_);(case hq8=>(rw [ix1];exact g3))) | ((with_reducible refine' Ld.cellm n1 ?hq8 ?_);(case hq8=>(rw [ix1];exact g4))))
    cases bv
    ·repeat' (first | refine sk97 ?_ | (intro b;conv=>whnf) | (refine And.intro ?_ ?_ <;> (conv=>whnf)) | ((with_reducible refine' Ld.cellm n0 ?hq8 ?_);(case hq8=>(rw [ix1];exact g3))) | ((with_reducible refine' Ld.cellm n1 ?hq8 ?_);(case hq8=>(rw [ix1];exact g4))))
     refine Sv.cellm (tb:=4) (cs:=ds1) (cs':=ds1.set i (bD (false || bt))) (τ:=((d0,.cells 62 ds0) :: ρ2) ++ ((b1,.cells 4 (cs1.set i (bD (false || bb)))) :: ((b0,.cells 62 cs0) :: (ρ1 ++ [(bx,.cells 43 (schC x))])))) (((g2.append_right _).cons _).trans cl20) (by rw [ix1];exact (List.getElem?_eq_some_iff.1 g4).1) rfl (by rw [ix1];rfl) ?_
     repeat' (first | refine sk97 ?_ | (intro b;conv=>whnf) | (refine And.intro ?_ ?_ <;> (conv=>whnf)) | ((with_reducible refine' Ld.cellm n0 ?hq8 ?_);(case hq8=>(rw [ix1];exact g3))) | ((with_reducible refine' Ld.cellm n1 ?hq8 ?_);(case hq8=>(rw [ix1];exact g4))))
     exact ⟨(i + 1,u2.set j (lu2.set i (false || bb)),v2.set j (lv2.set i (false || bt)),(b1,.cells 4 (cs1.set i (bD (false || bb)))) :: (b0,.cells 62 cs0) :: ρ1,(d1,.cells 4 (ds1.set i (bD (false || bt)))) :: (d0,.cells 62 ds0) :: ρ2),(chk_of cl2),cl3,⟨by simp only;omega,orNext hOu2 hlu2 hbu hlb hbb,orNext hOv2 hlv2 hbv hlt hbt,RS.swp (h5 _),RS.swp (g5 _)⟩,by simp only;omega⟩
    ·repeat' (first | refine sk97 ?_ | (intro b;conv=>whnf) | (refine And.intro ?_ ?_ <;> (conv=>whnf)) | ((with_reducible refine' Ld.cellm n0 ?hq8 ?_);(case hq8=>(rw [ix1];exact g3))) | ((with_reducible refine' Ld.cellm n1 ?hq8 ?_);(case hq8=>(rw [ix1];exact g4))))
     refine Sv.cellm (tb:=4) (cs:=ds1) (cs':=ds1.set i (bD (true || bt))) (τ:=((d0,.cells 62 ds0) :: ρ2) ++ ((b1,.cells 4 (cs1.set i (bD (false || bb)))) :: ((b0,.cells 62 cs0) :: (ρ1 ++ [(bx,.cells 43 (schC x))])))) (((g2.append_right _).cons _).trans cl20) (by rw [ix1];exact (List.getElem?_eq_some_iff.1 g4).1) rfl (by rw [ix1];rfl) ?_
     repeat' (first | refine sk97 ?_ | (intro b;conv=>whnf) | (refine And.intro ?_ ?_ <;> (conv=>whnf)) | ((with_reducible refine' Ld.cellm n0 ?hq8 ?_);(case hq8=>(rw [ix1];exact g3))) | ((with_reducible refine' Ld.cellm n1 ?hq8 ?_);(case hq8=>(rw [ix1];exact g4))))
     exact ⟨(i + 1,u2.set j (lu2.set i (false || bb)),v2.set j (lv2.set i (true || bt)),(b1,.cells 4 (cs1.set i (bD (false || bb)))) :: (b0,.cells 62 cs0) :: ρ1,(d1,.cells 4 (ds1.set i (bD (true || bt)))) :: (d0,.cells 62 ds0) :: ρ2),(chk_of cl2),cl3,⟨by simp only;omega,orNext hOu2 hlu2 hbu hlb hbb,orNext hOv2 hlv2 hbv hlt hbt,RS.swp (h5 _),RS.swp (g5 _)⟩,by simp only;omega⟩
   ·repeat' (first | refine sk97 ?_ | (intro b;conv=>whnf) | (refine And.intro ?_ ?_ <;> (conv=>whnf)) | ((with_reducible refine' Ld.cellm m0 ?hq8 ?_);(case hq8=>(rw [ix1];exact h3))) | ((with_reducible refine' Ld.cellm m1 ?hq8 ?_);(case hq8=>(rw [ix1];exact h4))))
    refine Sv.cellm (tb:=4) (cs:=cs1) (cs':=cs1.set i (bD (true || bb))) (τ:=σv2 ++ ((b0,.cells 62 cs0) :: (ρ1 ++ [(bx,.cells 43 (schC x))]))) (((((h2.append_right _).append_left σv2).trans cl20))) (by rw [ix1];exact (List.getElem?_eq_some_iff.1 h4).1) rfl (by rw [ix1];rfl) ?_
    repeat' (first | refine sk97 ?_ | (intro b;conv=>whnf) | (refine And.intro ?_ ?_ <;> (conv=>whnf)) | ((with_reducible refine' Ld.cellm n0 ?hq8 ?_);(case hq8=>(rw [ix1];exact g3))) | ((with_reducible refine' Ld.cellm n1 ?hq8 ?_);(case hq8=>(rw [ix1];exact g4))))
    cases bv
    ·repeat' (first | refine sk97 ?_ | (intro b;conv=>whnf) | (refine And.intro ?_ ?_ <;> (conv=>whnf)) | ((with_reducible refine' Ld.cellm n0 ?hq8 ?_);(case hq8=>(rw [ix1];exact g3))) | ((with_reducible refine' Ld.cellm n1 ?hq8 ?_);(case hq8=>(rw [ix1];exact g4))))
     refine Sv.cellm (tb:=4) (cs:=ds1) (cs':=ds1.set i (bD (false || bt))) (τ:=((d0,.cells 62 ds0) :: ρ2) ++ ((b1,.cells 4 (cs1.set i (bD (true || bb)))) :: ((b0,.cells 62 cs0) :: (ρ1 ++ [(bx,.cells 43 (schC x))])))) (((g2.append_right _).cons _).trans cl20) (by rw [ix1];exact (List.getElem?_eq_some_iff.1 g4).1) rfl (by rw [ix1];rfl) ?_
     repeat' (first | refine sk97 ?_ | (intro b;conv=>whnf) | (refine And.intro ?_ ?_ <;> (conv=>whnf)) | ((with_reducible refine' Ld.cellm n0 ?hq8 ?_);(case hq8=>(rw [ix1];exact g3))) | ((with_reducible refine' Ld.cellm n1 ?hq8 ?_);(case hq8=>(rw [ix1];exact g4))))
     exact ⟨(i + 1,u2.set j (lu2.set i (true || bb)),v2.set j (lv2.set i (false || bt)),(b1,.cells 4 (cs1.set i (bD (true || bb)))) :: (b0,.cells 62 cs0) :: ρ1,(d1,.cells 4 (ds1.set i (bD (false || bt)))) :: (d0,.cells 62 ds0) :: ρ2),(chk_of cl2),cl3,⟨by simp only;omega,orNext hOu2 hlu2 hbu hlb hbb,orNext hOv2 hlv2 hbv hlt hbt,RS.swp (h5 _),RS.swp (g5 _)⟩,by simp only;omega⟩
    ·repeat' (first | refine sk97 ?_ | (intro b;conv=>whnf) | (refine And.intro ?_ ?_ <;> (conv=>whnf)) | ((with_reducible refine' Ld.cellm n0 ?hq8 ?_);(case hq8=>(rw [ix1];exact g3))) | ((with_reducible refine' Ld.cellm n1 ?hq8 ?_);(case hq8=>(rw [ix1];exact g4))))
     refine Sv.cellm (tb:=4) (cs:=ds1) (cs':=ds1.set i (bD (true || bt))) (τ:=((d0,.cells 62 ds0) :: ρ2) ++ ((b1,.cells 4 (cs1.set i (bD (true || bb)))) :: ((b0,.cells 62 cs0) :: (ρ1 ++ [(bx,.cells 43 (schC x))])))) (((g2.append_right _).cons _).trans cl20) (by rw [ix1];exact (List.getElem?_eq_some_iff.1 g4).1) rfl (by rw [ix1];rfl) ?_
     repeat' (first | refine sk97 ?_ | (intro b;conv=>whnf) | (refine And.intro ?_ ?_ <;> (conv=>whnf)) | ((with_reducible refine' Ld.cellm n0 ?hq8 ?_);(case hq8=>(rw [ix1];exact g3))) | ((with_reducible refine' Ld.cellm n1 ?hq8 ?_);(case hq8=>(rw [ix1];exact g4))))
     exact ⟨(i + 1,u2.set j (lu2.set i (true || bb)),v2.set j (lv2.set i (true || bt)),(b1,.cells 4 (cs1.set i (bD (true || bb)))) :: (b0,.cells 62 cs0) :: ρ1,(d1,.cells 4 (ds1.set i (bD (true || bt)))) :: (d0,.cells 62 ds0) :: ρ2),(chk_of cl2),cl3,⟨by simp only;omega,orNext hOu2 hlu2 hbu hlb hbb,orNext hOv2 hlv2 hbv hlt hbt,RS.swp (h5 _),RS.swp (g5 _)⟩,by simp only;omega⟩
  ·obtain rfl : i = lu.length:=by omega
   obtain ⟨b0,cap0,cs0,a3,c3,e1,m0,h3⟩:=rows_head hRu hlu2
   rw [hul] at e1
   cases e1
   repeat' (first | refine sk97 ?_ | (intro b;conv=>whnf) | (with_reducible refine Br.t (beq_self_eq_true _) ?_) | (with_reducible refine Br.f Bool.not_true ?_) | (with_reducible refine Br.t (decide_eq_true trivial) ?_))
   refine Ld.cellm (cs:=cs0) (List.mem_append_right _ (List.mem_append_left _ m0)) (by rw [ix1];exact h3) ?_
   repeat' (first | refine sk97 ?_ | (intro b;conv=>whnf) | (with_reducible refine Br.t (beq_self_eq_true _) ?_) | (with_reducible refine Br.f Bool.not_true ?_) | (with_reducible refine Br.t (decide_eq_true trivial) ?_))
   exact ⟨(j + 1,u2,v2,σu2,σv2),(chk_of cl2),cl3,⟨by simp only;omega,(show OrTo a b j lu2.length u2 by rw [hlu2l];exact hOu2).row (hbl.trans hal.symm) hlu2,(show OrTo s t j lv2.length v2 by rw [hlv2l];exact hOv2).row (ht.trans hs.symm) hlv2,hRu,hRv⟩,by simp only;omega⟩
 ·obtain rfl : j = a.length:=by omega
  have hu:=OrTo.all (show OrTo a b u.length 0 u by rw [hul];exact hOu) (hbl.trans hal.symm)
  have hv:=OrTo.all (show OrTo s t v.length 0 v by rw [hvl,← hlen];exact hOv) (ht.trans hs.symm)
  have huw : u.map List.length = w.map List.length:=hu.1.trans hal
  have hvw : v.map List.length = w.map List.length:=hv.1.trans hs
  have hus:=ss_w hws huw
  have hvs:=ss_w hws hvw
  have hcu:=gen_checked hgx hmw huw
  obtain ⟨q1,q2,q3⟩:=union_law ha hb hcs hct hu hv hcu
  have hcl : (shrinkE x w v).map List.length = w.map List.length:=(lens_shrink v).trans hvw
  have HG:=cl_great_p x w v hws hvs HV
  rw [great_yes (gen_checked hgx hmw hvw)] at HG
  have HVu:=cl_valid x w u hws hus HV
  have HSc:=r31_shaped w (shrinkE x w v) (by have:=hws.nk;omega)
  have HW1:=r31_within u (shrinkE x w v) hus (huw.trans hcl.symm)
  have HW2:=r31_within a (shrinkE x w v) has (hal.trans hcl.symm)
  rw [q1] at HVu
  rw [q2] at HW1
  rw [q3] at HW2
  rw [show shapedB w (shrinkE x w v) = true from by simp [shapedB,hcl]] at HSc
  generalize shrinkE x w v = c at *
  have mx : (bx,Blk.cells 43 (schC x)) ∈ σv ++ (σu ++ [(bx,.cells 43 (schC x))]):=by simp
  have my : (bx,Blk.cells 43 (schC x)) ∈ σu ++ [(bx,.cells 43 (schC x))]:=by simp
  repeat' (first | refine sk98 ?_ | (intro b;conv=>whnf) | (refine And.intro ?_ ?_ <;> (conv=>whnf)) | (refine Ld.rowm (cs:=schC x) (x:=schC x) mx rfl (by decide) (fun z hz=>by rw [Nat.zero_add]) ?_) | (refine Ld.rowm (cs:=schC x) (x:=schC x) my rfl (by decide) (fun z hz=>by rw [Nat.zero_add]) ?_) | (refine CE.give (Vs.frz frz_s hRv (List.Perm.refl (σv ++ (σu ++ [(bx,.cells 43 (schC x))])))) HG ?_) | (refine CE.pk (APk.peek (.cons (Pk.same _) (.cons (Pk.same _) (.cons (Pk.frz frz_s hRu (List.Perm.refl (σu ++ [(bx,.cells 43 (schC x))]))) .nil))) HVu rfl) ?_) | (refine CE.pk (APk.peek (.cons (Pk.frz frz_s hRu (List.Perm.refl (σu ++ [(bx,.cells 43 (schC x))]))) (.cons (Pk.same _) .nil)) HW1 rfl) ?_) | (with_reducible refine Br.t (beq_self_eq_true _) ?_) | (with_reducible refine Br.f Bool.not_true ?_) | (with_reducible refine Br.t (decide_eq_true trivial) ?_))
  refine Rt.pure (congrArg bD ?_)
  rfl
end
end Go.Proofs.YtjbbmjjildhfbaaGreatDoor
