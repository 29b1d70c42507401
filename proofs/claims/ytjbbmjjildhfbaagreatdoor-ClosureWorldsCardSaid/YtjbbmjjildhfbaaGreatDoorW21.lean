/- A part of the proof: Sn Vb Vc Vd Ve Vf Vg Bld. -/
import Derived.Test.YtjbbmjjildhfbaaGreatDoorW20
import Derived.Test.YtjbbmjjildhfbaaGreatDoorProg
import Derived.Shelf.Abstract
import Derived.Lib.Builder
import Derived.Lib.AppendStr
import Derived.Lib.UnsafeStr
import Derived.Laws.Externs
import Derived.Maps.AppendAt
set_option maxRecDepth 100000
set_option maxHeartbeats 4000000
set_option linter.unusedVariables false
set_option linter.unusedSimpArgs false
namespace Go.Proofs.YtjbbmjjildhfbaaGreatDoor
section
open Go Go.RowKit Go.Shelf
structure SubsOK (w:Wd) (B:List Sb):Prop where
 lb:B.length=4
 cs:∀ s∈B,Ss s
 hd:∃ s,B[0]?=some s∧s.map List.length=w.map List.length
theorem Sc.frz0 {b:Nat} {t e:TypeId} {cs:List D} {j k:Nat} {xs:List (List D)} {v:Value} {s:aa1} (hj:cs[j]?=some (.v v)) (h:RowIs e k xs v s):Sc ((b,.cells t cs) :: s) [(b,.cells t (cs.set j (.sl k xs)))]:=by
 have:=Sc.frz (b:=b) (t:=t) (τ:=[]) hj h (LeR.refl _)
 rwa [List.append_nil] at this
theorem Ss.of_len {w:Wd} {s:Sb} (h:s.map List.length=w.map List.length) (hw:Ws w):Ss s:=by
 have hl:s.length=w.length:=by have:=congrArg List.length h;simpa using this
 refine ⟨by rw [hl];exact hw.nk,fun l hl2=>?_⟩
 have:l.length∈s.map List.length:=List.mem_map.2 ⟨l,hl2,rfl⟩
 rw [h] at this
 obtain ⟨m,hm,e⟩:=List.mem_map.1 this
 rw [← e];exact hw.nr m hm
theorem Ss.nil:Ss []:=⟨by simp,fun _ h=>by cases h⟩
theorem one_s (s:Sb):((s.map fun l=>[slB l]).all fun y=>y.all oneD)=true:=by rw [List.all_eq_true];intro y hy;obtain ⟨b,_,rfl⟩:=List.mem_map.1 hy;rfl
theorem sb85 {A B:Prop} (k:B) (h:Hd7 B→A:=by intro hk7q;(first|(with_reducible refine Bc.l ?_)|(with_reducible refine Bx.l ?_)|fail|fail);exact hk7q.run):A:=h ⟨k⟩
theorem sk86 {A B:Prop} (k:B) (h:Hd7 B→A:=by intro hk7q;(first|refine sb0 ?_|refine sb85 ?_|((with_reducible refine' Cp.by ?hc ?_);(case hc=>first|exact aa5 at_ _ hat|exact as6 w hw))|((with_reducible refine' CE.pure ?hc ?_);(case hc=>first|exact aa5 at_ _ hat|exact as6 w hw)));exact hk7q.run):A:=h ⟨k⟩
theorem sb87 {A B:Prop} (k:B) (h:Hd7 B→A:=by intro hk7q;(first|(with_reducible refine Bc.l ?_)|fail|fail|fail);exact hk7q.run):A:=h ⟨k⟩
theorem sk88 {A B:Prop} (k:B) (h:Hd7 B→A:=by intro hk7q;(first|refine sb0 ?_|refine sb87 ?_|((with_reducible refine' Cp.by ?hc ?_);(case hc=>first|exact aa5 at_ _ hat|exact as6 w hw))|((with_reducible refine' CE.pure ?hc ?_);(case hc=>first|exact aa5 at_ _ hat|exact as6 w hw)));exact hk7q.run):A:=h ⟨k⟩
theorem l31_subs (w:Wd) (hw:Ws w) (hw9:w.length≤900∧∀ l∈w,l.length≤900) (p:List Int) (hp:I64s p) (at_:Int) (hat:I64n at_) :
  ACall Tryz.prog 10 [slW w,slI p,iD at_] [] (fun d σ=>∃ B v,d = .v v∧RowIs 34 1 (B.map fun s=>[slS2 s]) v σ∧SubsOK w B):=by
 refine aa3 mixed aa0 Tryz.func10 (by kernel_rfl) rfl Tryz.ntmps10 rfl ?_;intro BB
 repeat' (first|refine sk86 ?_|(intro b;conv=>whnf))
 refine CE.some (r31_some_p w hw p hp) ?_
 rintro _ ⟨s,rfl,hsl⟩
 have hss:=Ss.of_len hsl hw
 have hlen:s.length=w.length:=by have:=congrArg List.length hsl;simpa using this
 have hs9:∀ l∈s,l.length≤900:=fun l hl2=>by
  have:l.length∈s.map List.length:=List.mem_map.2 ⟨l,hl2,rfl⟩
  rw [hsl] at this
  obtain ⟨m,hm,e⟩:=List.mem_map.1 this
  rw [← e];exact hw9.2 m hm
 have hs0:=hw9.1
 repeat' (first|refine sk86 ?_|(intro b;conv=>whnf))
 refine Ap.go rfl rfl rfl rfl (RowIs.e0 62 1 (some ⟨b,0,none⟩)) (List.Perm.refl ([] ++ _)) (one_s s) (zs:=s.map fun l=>[slB l]) rfl (by simp;omega) (by simp;omega) (fun s'=>s' ++ []) (fun s'=>List.Perm.refl _) (fun a2 c2 so hro=>?_)
 obtain ⟨a2,c2,e2⟩:∃ a c,Value.slice a2 (s.map fun l=>[slB l]).length c2=Value.slice a s.length c:=⟨a2,c2,by rw [List.length_map]⟩
 rw [e2] at hro ⊢
 rw [List.append_nil]
 by_cases hw0:s.length=0
 ·obtain ⟨o,ho,hol⟩:∃ o,o=s∧o.length=s.length:=⟨s,rfl,rfl⟩
  have hoo:Ss o:=ho ▸ hss
  rw [← ho,hol] at hro
  repeat' (first|refine sk88 ?_|(intro b;conv=>whnf))
  rw [← hol] at hro ⊢
  refine Bx.r ?_
  refine OtE.bsl aa0 rfl rfl rfl rfl rfl rfl rfl rfl rfl rfl (by decide) (fun b7=>?_)
  repeat' (first|refine sk86 ?_|(intro b;conv=>whnf))
  exact Rt.by (σ':=[(b7,.cells 34 [slS2 s,slS2 (ag8 w),slS2 o,slS2 []])]) (d':=.v (.slice (some ⟨b7,0,none⟩) 4 4)) (Vs.sc (Sc.trans (b:=[(b7,.cells 34 [slS2 s,slS2 (ag8 w),slS2 o,.v (.slice none 0 0)])]) (Sc.frz0 (j:=2) (cs:=[slS2 s,slS2 (ag8 w),.v _,.v (.slice none 0 0)]) rfl hro) (Sc.frz0 (j:=3) (s:=[]) (cs:=[slS2 s,slS2 (ag8 w),slS2 o,.v (.slice none 0 0)]) rfl (RowIs.nil 62 1))) _) ⟨[s,ag8 w,o,[]],_,rfl,⟨by simp,.inr ⟨b7,4,[],rfl,rfl,by simp,by unfold maxLen;omega,rfl,by simp⟩⟩,rfl,fun z hz=>by
    simp only [List.mem_cons,List.not_mem_nil,or_false] at hz
    rcases hz with rfl|rfl|rfl|rfl
    ·exact hss
    ·exact Ss.of_len (aG7 w) hw
    ·exact hoo
    ·exact Ss.nil,s,rfl,hsl⟩
 ·have hk:=aA9 at_ s.length
  have hk':=hk.2.1 (by omega)
  obtain ⟨k,hkk⟩:∃ i:Nat,arE at_ s.length=i:=⟨(arE at_ s.length).toNat,by omega⟩
  obtain ⟨l0,hl0⟩:∃ l,s[k]?=some l:=⟨_,List.getElem?_eq_getElem (by omega)⟩
  have hl06:=hs9 l0 (List.mem_of_getElem? hl0)
  obtain ⟨b2,cap2,cs2,e3,rfl,hcs2⟩:=RowIs.get hro (show (s.map fun l=>[slB l])[k]?=some [slB l0] by rw [List.getElem?_map,hl0];rfl)
  rw [List.length_map] at e3
  cases e3
  have hc2:cs2[k]?=some (slB l0):=by have:=hcs2 0 (by omega);simpa using this
  have hcl:=(List.getElem?_eq_some_iff.1 hc2).1
  have ek:0+((k:Nat):Int).toNat*1=k*1+0:=by simp
  obtain ⟨o,hol,hoo,hro2⟩:∃ o:Sb,o.length=s.length∧Ss o∧RowIs 62 1 (o.map fun l=>[slB l]) (.slice (some ⟨b2,0,none⟩) s.length c2) [(b2,.cells 62 (cs2.set (k*1+0) (slB (l0 ++ [true]))))]:=by
   refine ⟨s.set k (l0 ++ [true]),List.length_set,⟨by rw [List.length_set];omega,fun l hl=>?_⟩,?_⟩
   ·rcases List.mem_or_eq_of_mem_set hl with h|rfl
    ·exact hss.nr l h
    ·rw [List.length_append,List.length_singleton];omega
   ·have:=RowIs.put1 (d:=slB (l0 ++ [true])) hro (show (s.map fun l=>[slB l])[k]?=some [slB l0] by rw [List.getElem?_map,hl0];rfl) (show 0<1 by omega)
    have e:(s.map fun l=>[slB l]).set k ([slB l0].set 0 (slB (l0 ++ [true])))=(s.set k (l0 ++ [true])).map fun l=>[slB l]:=by rw [List.map_set];rfl
    rw [e] at this
    exact this
  repeat' (first|refine sk86 ?_|(intro b;conv=>whnf))
  refine Ld.cellm (tb:=62) (cs:=cs2) (by simp) (by rw [hkk,ek];simpa using hc2) ?_
  repeat' (first|refine sk86 ?_|(intro b;conv=>whnf))
  refine Ap.go rfl rfl rfl rfl (RowIs.e0 4 1 (some ⟨b,0,none⟩)) (List.Perm.refl ([] ++ _)) (one_b l0) (zs:=l0.map fun l=>[bD l]) rfl (by simp;omega) (by simp;omega) (fun s'=>s' ++ [(b2,.cells 62 cs2)]) (fun s'=>List.Perm.refl _) (fun a5 c5 s5 hr5=>?_)
  repeat' (first|refine sk86 ?_|(intro b;conv=>whnf))
  refine Ap.frz rfl rfl rfl rfl hr5 (List.Perm.refl _) rfl (zs:=(l0 ++ [true]).map fun l=>[bD l]) (by rw [List.map_append];rfl) (by simp;omega) (by simp;omega) ?_
  repeat' (first|refine sk86 ?_|(intro b;conv=>whnf))
  refine Sv.cellm (tb:=62) (cs:=cs2) (cs':=cs2.set (k*1+0) (slB (l0 ++ [true]))) (τ:=[]) (List.Perm.refl _) (by rw [hkk,ek];simpa using hcl) rfl (by rw [hkk,ek];rfl) ?_
  rw [← hol] at hro2 ⊢
  have hro:=hro2
  repeat' (first|refine sk88 ?_|(intro b;conv=>whnf))
  refine Bx.r ?_
  refine OtE.bsl aa0 rfl rfl rfl rfl rfl rfl rfl rfl rfl rfl (by decide) (fun b7=>?_)
  repeat' (first|refine sk88 ?_|(intro b;conv=>whnf))
  exact Rt.by (σ':=[(b7,.cells 34 [slS2 s,slS2 (ag8 w),slS2 o,slS2 []])]) (d':=.v (.slice (some ⟨b7,0,none⟩) 4 4)) (Vs.sc (Sc.trans (b:=[(b7,.cells 34 [slS2 s,slS2 (ag8 w),slS2 o,.v (.slice none 0 0)])]) (Sc.frz0 (j:=2) (cs:=[slS2 s,slS2 (ag8 w),.v _,.v (.slice none 0 0)]) rfl hro) (Sc.frz0 (j:=3) (s:=[]) (cs:=[slS2 s,slS2 (ag8 w),slS2 o,.v (.slice none 0 0)]) rfl (RowIs.nil 62 1))) _) ⟨[s,ag8 w,o,[]],_,rfl,⟨by simp,.inr ⟨b7,4,[],rfl,rfl,by simp,by unfold maxLen;omega,rfl,by simp⟩⟩,rfl,fun z hz=>by
    simp only [List.mem_cons,List.not_mem_nil,or_false] at hz
    rcases hz with rfl|rfl|rfl|rfl
    ·exact hss
    ·exact Ss.of_len (aG7 w) hw
    ·exact hoo
    ·exact Ss.nil,s,rfl,hsl⟩
end
section
open Go Go.Maps Go.MapKept
theorem cl_wrong (x:Sch) (w:Wd) (s:Sb) (hF:Fit x w s) (k i:Nat) (l:List (List Int)) (y:List Int) (hl:w[k]?=some l) (hy:l[i]?=some y) (a:Option Addr) (c bl:Nat) (σ:aa1) (hC:CS x w s (.slice a s.length c) bl σ) :
  ACall Tryz.prog 48 [.ro (stC x w (.slice a s.length c) bl),atD k i] σ (fun d σ'=>d=bD (ar4 x w s k i)∧σ'=σ):=by
 have hV:=hF.snd.vld
 have hrl:=au9 hV
 have hsl:=hF.ss.nk
 have hwl:=hF.ws.nk
 have hll:=hF.ws.nr l (List.mem_of_getElem? hl)
 have hkl:=(List.getElem?_eq_some_iff.1 hl).1
 have hil:=(List.getElem?_eq_some_iff.1 hy).1
 have hl':w[((k:Nat):Int).toNat]?=some l:=hl
 have hy':l[((i:Nat):Int).toNat]?=some y:=hy
 obtain ⟨σs,R,J,hR,hM,hp⟩:=hC
 refine aa3 mixed aa0 Tryz.func48 (by kernel_rfl) rfl Tryz.ntmps48 rfl ?_;intro BB
 repeat' (first|refine sk2 ?_|(intro b;conv=>whnf))
 refine aa6 mixed aa0 (γ:=Nat) (fun q=>[(12,iD q)]) (fun _=>σ) (fun q=>q≤(aa7 x).length∧∀ (n:Nat) r,n<q→(aa7 x)[n]?=some r→au6 w s k i r=false) (fun q=>(aa7 x).length - q) 0 (aa2 cl2) cl3 ⟨Nat.zero_le _,fun k r h=>by omega⟩ ?_
 rintro q ⟨hq,hno⟩
 by_cases hql:q<(aa7 x).length
 ·obtain ⟨r,hr⟩:∃ r,(aa7 x)[q]?=some r:=⟨_,List.getElem?_eq_getElem hql⟩
  have hr':(aa7 x)[((q:Nat):Int).toNat]?=some r:=hr
  have hrm:=List.mem_of_getElem? hr
  obtain ⟨u1,u2,u3⟩:=hF.snd.up r hrm
  have hWl:=(ai9 hF.fit).1
  have yes:au6 w s k i r=true→ar4 x w s k i=true:=fun h=>any_at hr h
  have nxt:au6 w s k i r=false→∀ (n:Nat) r',n<q+1→(aa7 x)[n]?=some r'→au6 w s k i r'=false:=fun h n r' hn hr2=>by
   by_cases e:n=q
   ·subst e;cases hr.symm.trans hr2;exact h
   ·exact hno n r' (by omega) hr2
  have w1:∀ b c:Bool,(decide (r.kind=k) && !keptB s r.up.toNat (ay1 w k i r.field).toNat)=b→(decide (r.up=k) && decide ((ad7 w s r i:Int)<r.least))=c→au6 w s k i r=(b || c):=fun b c h1 h2=>by unfold au6;rw [h1,h2]
  -- the map of this Ref
  obtain ⟨bm,Fm,G2,ρ2,hG2,hgq,hcnt,_⟩:=hM.get hr
  have hcE:cE x w s q i=ad7 w s r i:=by unfold cE;rw [hr]
  have ml:(bl,Blk.obj (MapO Tryz.prog 3 G2))∈σ:=hp.mem_iff.2 (List.mem_append_right _ (List.mem_append_left _ (hG2.mem_iff.2 (by simp))))
  have mm:(bm,Blk.obj (MapO Tryz.prog 33 Fm))∈σ:=hp.mem_iff.2 (List.mem_append_right _ (List.mem_append_left _ (hG2.mem_iff.2 (by simp))))
  have hc0:(Fm (atV r.up i)).getD (.int .i64 0) = .int .i64 (ad7 w s r i):=by rw [← hcE];exact hcnt i
  obtain ⟨kl,hkl⟩:=at_key (ref_key hF hrm) (show (Lit.int .i64 (i:Int)).wf=true from wf64 (by omega) (by omega))
  by_cases e:r.kind=k
  ·obtain ⟨v,z,t,g1,g2,g3,g4,g5,g6,g7⟩:=aQ9 hF hrm (by rw [e];exact hl) hy
   have g1':y[((r.field:Nat):Int).toNat]?=some v:=g1
   obtain ⟨b,hb⟩:∃ b,t[v.toNat]?=some b:=⟨_,List.getElem?_eq_getElem g7⟩
   have htl:=hF.ss.nr t (List.mem_of_getElem? g5)
   have hkk:keptB s r.up.toNat (ay1 w k i r.field).toNat=b:=by rw [← e,g2,at6 g5 hb]
   have hB:r.up≠k:=by omega
   have hw:=w1 (!b) false (by rw [decide_eq_true e,hkk];rfl) (by simp [hB])
   rw [Bool.or_false] at hw
   obtain ⟨b0,cap0,cs0,b1,cap1,cs1,ρ,e1,h2,h3,h4,_⟩:=at1 hR g5 hb
   cases e1
   have m0:(b0,Blk.cells 62 cs0)∈σ:=hp.mem_iff.2 (List.mem_append_left _ (h2.mem_iff.2 (by simp)))
   have m1:(b1,Blk.cells 4 cs1)∈σ:=hp.mem_iff.2 (List.mem_append_left _ (h2.mem_iff.2 (by simp)))
   have hul:r.up<s.length:=by have:=(List.getElem?_eq_some_iff.1 g5).1;omega
   cases b with
   | false=>
    repeat' (first|refine sk2 ?_|(intro b;conv=>whnf)|((with_reducible refine' Ld.cellm (List.mem_cons_of_mem _ m0) ?hq8 ?_);(case hq8=>(rw [Nat.zero_add,Nat.mul_one];exact h3)))|((with_reducible refine' Ld.cellm (List.mem_cons_of_mem _ m1) ?hq8 ?_);(case hq8=>(rw [Nat.zero_add,Nat.mul_one];exact h4))))
    exact Rt.by (Vs.drop (List.sublist_cons_self _ _)) ⟨congrArg bD (yes hw).symm,rfl⟩
   | true=>
    repeat' (first|refine sk2 ?_|(intro b;conv=>whnf)|((with_reducible refine' Ld.cellm (List.mem_cons_of_mem _ m0) ?hq8 ?_);(case hq8=>(rw [Nat.zero_add,Nat.mul_one];exact h3)))|((with_reducible refine' Ld.cellm (List.mem_cons_of_mem _ m1) ?hq8 ?_);(case hq8=>(rw [Nat.zero_add,Nat.mul_one];exact h4))))
    exact ⟨q+1,(aa2 cl2),cl3,⟨by omega,nxt hw⟩,by omega⟩
  ·by_cases B:r.up=k
   ·have w2:∀ b:Bool,decide ((ad7 w s r i:Int)<r.least)=b→au6 w s k i r=b:=fun b h=>by rw [w1 false b (by rw [decide_eq_false e];rfl) (by rw [decide_eq_true B,h];rfl)];cases b <;> rfl
    have hcl:ad7 w s r i≤1000:=by
     unfold ad7
     refine Nat.le_trans List.countP_le_length ?_
     rw [List.length_range]
     rcases h:w[r.kind]? with _|lk
     ·simp [List.getD_eq_getElem?_getD,h]
     ·rw [aa4 h];exact hF.ws.nr lk (List.mem_of_getElem? h)
    repeat' (first|refine sk2 ?_|(intro b;conv=>whnf)|((with_reducible refine' Ld.cellm (List.mem_cons_of_mem _ m0) ?hq8 ?_);(case hq8=>(rw [Nat.zero_add,Nat.mul_one];exact h3)))|((with_reducible refine' Ld.cellm (List.mem_cons_of_mem _ m1) ?hq8 ?_);(case hq8=>(rw [Nat.zero_add,Nat.mul_one];exact h4))))
    refine Ot.yd (ak2 (u:=.map (some bm)) rfl rfl (KeyD.v _) (List.mem_cons_of_mem _ ml) (fun _ h=>h) aB7 Tryz.underlying132 aV6 (ba5 (wf64 (by omega) (by omega))) (by rw [hgq];rfl)) ?_
    repeat' (first|refine sk2 ?_|(intro b;conv=>whnf)|((with_reducible refine' Ld.cellm (List.mem_cons_of_mem _ m0) ?hq8 ?_);(case hq8=>(rw [Nat.zero_add,Nat.mul_one];exact h3)))|((with_reducible refine' Ld.cellm (List.mem_cons_of_mem _ m1) ?hq8 ?_);(case hq8=>(rw [Nat.zero_add,Nat.mul_one];exact h4))))
    refine Ot.yd (ak2 (kv:=atV r.up i) (u:=.int .i64 (ad7 w s r i)) rfl rfl (by rw [B];exact KeyD.agg2 _ _) (List.mem_cons_of_mem _ mm) (fun _ h=>h) as2 Tryz.underlying116 au5 hkl hc0) ?_
    by_cases hlt:(ad7 w s r i:Int)<r.least
    ·have hw:=w2 true (decide_eq_true hlt)
     repeat' (first|refine sk2 ?_|(intro b;conv=>whnf)|((with_reducible refine' Ld.cellm (List.mem_cons_of_mem _ m0) ?hq8 ?_);(case hq8=>(rw [Nat.zero_add,Nat.mul_one];exact h3)))|((with_reducible refine' Ld.cellm (List.mem_cons_of_mem _ m1) ?hq8 ?_);(case hq8=>(rw [Nat.zero_add,Nat.mul_one];exact h4))))
     exact Rt.by (Vs.drop (List.sublist_cons_self _ _)) ⟨congrArg bD (yes hw).symm,rfl⟩
    ·have hw:=w2 false (decide_eq_false hlt)
     repeat' (first|refine sk2 ?_|(intro b;conv=>whnf)|((with_reducible refine' Ld.cellm (List.mem_cons_of_mem _ m0) ?hq8 ?_);(case hq8=>(rw [Nat.zero_add,Nat.mul_one];exact h3)))|((with_reducible refine' Ld.cellm (List.mem_cons_of_mem _ m1) ?hq8 ?_);(case hq8=>(rw [Nat.zero_add,Nat.mul_one];exact h4))))
     exact ⟨q+1,(aa2 cl2),cl3,⟨by omega,nxt hw⟩,by omega⟩
   ·have hw:=w1 false false (by rw [decide_eq_false e];rfl) (by rw [decide_eq_false B];rfl)
    repeat' (first|refine sk2 ?_|(intro b;conv=>whnf)|((with_reducible refine' Ld.cellm (List.mem_cons_of_mem _ m0) ?hq8 ?_);(case hq8=>(rw [Nat.zero_add,Nat.mul_one];exact h3)))|((with_reducible refine' Ld.cellm (List.mem_cons_of_mem _ m1) ?hq8 ?_);(case hq8=>(rw [Nat.zero_add,Nat.mul_one];exact h4))))
    exact ⟨q+1,(aa2 cl2),cl3,⟨by omega,nxt hw⟩,by omega⟩
 ·obtain rfl:q=(aa7 x).length:=by omega
  repeat' (first|refine sk2 ?_|(intro b;conv=>whnf))
  refine Rt.same ⟨congrArg bD (Eq.symm ?_),rfl⟩
  unfold ar4
  rw [List.any_eq_false]
  intro r hr
  obtain ⟨n,hn⟩:=List.getElem?_of_mem hr
  rw [hno n r (List.getElem?_eq_some_iff.1 hn).1 hn];simp
end
section
open Go Go.Maps Go.MapKept
theorem count_other {w:Wd} {s:Sb} {r:Rf} {k i:Nat} (h:r.kind≠k) (i':Int):ad7 w (ai5 s k i) r i'=ad7 w s r i':=by
 unfold ad7
 refine List.countP_congr fun j _=>?_
 rw [at8]
 simp [Ne.symm h]
theorem count_clear {w:Wd} {s:Sb} {r:Rf} {k i:Nat} (h:r.kind=k) (hk:keptB s k i=true) (hi:i<(w.getD k []).length) (i':Int):ad7 w (ai5 s k i) r i' + (if i'=ay1 w k i r.field then 1 else 0)=ad7 w s r i':=by
 unfold ad7
 subst h
 by_cases e:i'=ay1 w r.kind i r.field
 ·rw [if_pos e]
  rw [← aE0 (p:=fun j=>keptB s r.kind j && decide (ay1 w r.kind j r.field=i')) (a:=i) List.nodup_range (List.mem_range.2 hi) (by simp [hk,e])]
  congr 1
  refine List.countP_congr fun j _=>?_
  rw [at8]
  simp [Bool.and_right_comm,and_right_comm]
 ·rw [if_neg e,Nat.add_zero]
  refine List.countP_congr fun j _=>?_
  rw [at8]
  by_cases e2:i=j
  ·subst e2;simp [Ne.symm e]
  ·simp [e2]
theorem sk89 {A B:Prop} (k:B) (h:Hd7 B→A:=by intro hk7q;(first|refine sb0 ?_|refine sb80 ?_|((with_reducible refine' Cp.by ?hc ?_);(case hc=>fail))|((with_reducible refine' CE.pure ?hc ?_);(case hc=>fail)));exact hk7q.run):A:=h ⟨k⟩
theorem cl_drop (x:Sch) (w:Wd) (s:Sb) (hF:Fit x w s) (k i:Nat) (hk:keptB s k i=true) (a:Option Addr) (c bl:Nat) (σ:aa1) (hC:CS x w s (.slice a s.length c) bl σ) :
  ACall Tryz.prog 41 [.ro (stC x w (.slice a s.length c) bl),atD k i] σ (fun d σ'=>d = .v (.tuple #[])∧CS x w (ai5 s k i) (.slice a s.length c) bl σ'):=by
 have hV:=hF.snd.vld
 have hrl:=au9 hV
 have hsl:=hF.ss.nk
 have hwl:=hF.ws.nk
 obtain ⟨k',i',t,e1,e2,ht,hb⟩:=ax5 (show aq3 s k i=true by unfold aq3;simp [hk])
 obtain rfl:k=k':=by omega
 obtain rfl:i=i':=by omega
 clear e1 e2
 obtain ⟨l,hl,hll'⟩:=ai1 hF.shp.symm ht
 have hil:i<l.length:=by have:=(List.getElem?_eq_some_iff.1 hb).1;omega
 obtain ⟨y,hy⟩:∃ y,l[i]?=some y:=⟨_,List.getElem?_eq_getElem hil⟩
 have hll:=hF.ws.nr l (List.mem_of_getElem? hl)
 have hkl:=(List.getElem?_eq_some_iff.1 hl).1
 have hksl:=(List.getElem?_eq_some_iff.1 ht).1
 have hl':w[((k:Nat):Int).toNat]?=some l:=hl
 have hy':l[((i:Nat):Int).toNat]?=some y:=hy
 obtain ⟨σs,R,J,hR,hM,hp⟩:=hC
 obtain ⟨b0,cap0,cs0,b1,cap1,cs1,ρ,e1,h2,h3,h4,h5⟩:=at1 hR ht hb
 cases e1
 have m0:(b0,Blk.cells 62 cs0)∈σ:=hp.mem_iff.2 (List.mem_append_left _ (h2.mem_iff.2 (by simp)))
 refine aa3 mixed aa0 Tryz.func41 (by kernel_rfl) rfl Tryz.ntmps41 rfl ?_;intro BB
 repeat' (first|refine sk89 ?_|(intro b;conv=>whnf))
 refine Ld.cellm (cs:=cs0) m0 (by rw [ix1];exact h3) ?_
 repeat' (first|refine sk89 ?_|(intro b;conv=>whnf))
 refine Sv.cellm (tb:=4) (cs:=cs1) (cs':=cs1.set i (bD false)) (τ:=(b0,.cells 62 cs0) :: (ρ ++ (R ++ J))) (by (refine ac3 fun a=>?_;have e1:=And.intro (al2 hp a) (al2 h2 a);simp only [List.append_eq,List.nil_append,ac4,ae7,af1,rfC,atC,iD,bD] at e1 ⊢;omega)) (by rw [ix1];exact (List.getElem?_eq_some_iff.1 h4).1) rfl (by rw [ix1]) ?_
 repeat' (first|refine sk89 ?_|(intro b;conv=>whnf))
 have hR3:=(h5 false).perm (List.Perm.swap (b0,Blk.cells 62 cs0) (b1,Blk.cells 4 (cs1.set i (bD false))) ρ)
 rw [clear_set ht] at hR3
 refine aa6 mixed aa0 (γ:=Nat × aa1) (fun g=>[(22,iD g.1)]) (fun g=>g.2) (fun g=>g.1≤(aa7 x).length∧∃ R J,MP (aa7 x) (fun n i'=>if n<g.1 then cE x w (ai5 s k i) n i' else cE x w s n i') bl R∧g.2.Perm (((b1,Blk.cells 4 (cs1.set i (bD false))) :: (b0,.cells 62 cs0) :: ρ) ++ (R ++ J))) (fun g=>(aa7 x).length - g.1) (0,(b1,Blk.cells 4 (cs1.set i (bD false))) :: (b0,.cells 62 cs0) :: (ρ ++ (R ++ J))) (aa2 cl2) cl3 ⟨Nat.zero_le _,R,J,hM.cong (fun n i _=>by simp),by (refine ac3 fun a=>?_;simp only [List.append_eq,List.nil_append,ac4,ae7,af1,rfC,atC,iD,bD];omega)⟩ ?_
 rintro ⟨q,σ2⟩ ⟨hq,R2,J2,hM2,hp2⟩
 simp only at hq hM2 hp2 ⊢
 by_cases hql:q<(aa7 x).length
 ·obtain ⟨r,hr⟩:∃ r,(aa7 x)[q]?=some r:=⟨_,List.getElem?_eq_getElem hql⟩
  have hr':(aa7 x)[((q:Nat):Int).toNat]?=some r:=hr
  have hrm:=List.mem_of_getElem? hr
  have hcs:∀ i',cE x w s q i'=ad7 w s r i':=fun i'=>by unfold cE;rw [hr]
  have hct:∀ i',cE x w (ai5 s k i) q i'=ad7 w (ai5 s k i) r i':=fun i'=>by unfold cE;rw [hr]
  by_cases e:r.kind=k
  ·obtain ⟨v,z,t',g1,g2,g3,g4,g5,g6,g7⟩:=aQ9 hF hrm (by rw [e];exact hl) hy
   have g1':y[((r.field:Nat):Int).toNat]?=some v:=g1
   have htl:=hF.ss.nr t' (List.mem_of_getElem? g5)
   rw [e] at g2
   obtain ⟨bm,Fm,G2,ρ2,hG2,hgq,hcnt,hset⟩:=hM2.get hr
   repeat' (first|refine sk89 ?_|(intro b;conv=>whnf))
   have hp3:((b,Blk.cells 121 (rfC r)) :: σ2).Perm ((bl,.obj (MapO Tryz.prog 3 G2)) :: (bm,.obj (MapO Tryz.prog 33 Fm)) :: ((b,.cells 121 (rfC r)) :: (ρ2 ++ (((b1,Blk.cells 4 (cs1.set i (bD false))) :: (b0,.cells 62 cs0) :: ρ) ++ J2)))):=by (refine ac3 fun a=>?_;have e1:=And.intro (al2 hp2 a) (al2 hG2 a);simp only [List.append_eq,List.nil_append,ac4,ae7,af1,rfC,atC,iD,bD] at e1 ⊢;omega)
   have hp4:((b,Blk.cells 121 (rfC r)) :: σ2).Perm ((bm,.obj (MapO Tryz.prog 33 Fm)) :: ((bl,.obj (MapO Tryz.prog 3 G2)) :: (b,.cells 121 (rfC r)) :: (ρ2 ++ (((b1,Blk.cells 4 (cs1.set i (bD false))) :: (b0,.cells 62 cs0) :: ρ) ++ J2)))):=by (refine ac3 fun a=>?_;have e1:=al2 hp3 a;simp only [List.append_eq,List.nil_append,ac4,ae7,af1,rfC,atC,iD,bD] at e1 ⊢;omega)
   have ml:(bl,Blk.obj (MapO Tryz.prog 3 G2))∈((b,Blk.cells 121 (rfC r)) :: σ2):=hp3.mem_iff.2 (by simp)
   have mm:(bm,Blk.obj (MapO Tryz.prog 33 Fm))∈((b,Blk.cells 121 (rfC r)) :: σ2):=hp3.mem_iff.2 (by simp)
   have hcq:∀ i',cnt Fm r i' = .int .i64 (ad7 w s r i'):=fun i'=>by have:=hcnt i';rw [if_neg (by omega),hcs] at this;exact this
   have hc0:(Fm (atV r.up v)).getD (.int .i64 0) = .int .i64 (ad7 w s r v):=hcq v
   obtain ⟨kl,hkl⟩:=at_key (ref_key hF hrm) (show (Lit.int .i64 v).wf=true from wf64 (by omega) (by omega))
   have hle:ad7 w s r v≤1000:=by
    unfold ad7
    refine Nat.le_trans List.countP_le_length ?_
    rw [List.length_range,e,aa4 hl];omega
   have hfin:∃ R J,MP (aa7 x) (fun n i'=>if n<q+1 then cE x w (ai5 s k i) n i' else cE x w s n i') bl R∧((bm,Blk.obj (MapO Tryz.prog 33 (updF (updF Fm (atV r.up v) (.int .i64 (ad7 w s r v))) (atV r.up v) (.int .i64 (ad7 w s r v - 1))))) :: ((bl,.obj (MapO Tryz.prog 3 G2)) :: (b,.cells 121 (rfC r)) :: (ρ2 ++ (((b1,Blk.cells 4 (cs1.set i (bD false))) :: (b0,.cells 62 cs0) :: ρ) ++ J2)))).Perm (((b1,Blk.cells 4 (cs1.set i (bD false))) :: (b0,.cells 62 cs0) :: ρ) ++ (R ++ J)):=by
    refine ⟨_,((b,.cells 121 (rfC r)) :: J2),(hset (updF (updF Fm (atV r.up v) (.int .i64 (ad7 w s r v))) (atV r.up v) (.int .i64 (ad7 w s r v - 1))) (fun i'=>ad7 w (ai5 s k i) r i') (fun i'=>?_)).cong (fun n i' _=>?_),by (refine ac3 fun a=>?_;simp only [List.append_eq,List.nil_append,ac4,ae7,af1,rfC,atC,iD,bD];omega)⟩
    ·have hcc:=count_clear (w:=w) e hk (by rw [aa4 hl];exact hil) i'
     rw [g2] at hcc
     rw [bb2,bb2]
     by_cases e2:i'=v
     ·subst e2;rw [if_pos rfl] at hcc;simp only [if_true];congr 1;omega
     ·rw [if_neg e2,Nat.add_zero] at hcc
      rw [if_neg e2,if_neg e2,hcq,hcc]
    ·by_cases hnq:n=q
     ·subst hnq
      rw [if_pos rfl,if_pos (by omega),hct]
     ·rw [if_neg hnq]
      by_cases h:n<q
      ·rw [if_pos h,if_pos (by omega)]
      ·rw [if_neg h,if_neg (by omega)]
   refine Dm.r ?_
   refine W.mk ?_
   refine aA1 mixed aa0 rfl [0,1,2,3,4,5,6,7,8,9,10,11,12,13,14,15,16,17,18,19,20,21,22,23,24] 5 (.two 25 (.two 26 (.one 27 (.one 28 (.one 29 .done))) 27 (.two 26 (.one 28 (.one 29 .done)) 28 (.one 26 (.one 29 .done)))) 27 (.two 25 (.two 26 (.one 28 (.one 29 .done)) 28 (.one 26 (.one 29 .done))) 28 (.one 25 (.one 26 (.one 29 .done))))) (γ:=Value × aa1) (fun g=>[(57,iD (ad7 w s r v)),(58,iD (ad7 w s r v - 1)),(59,.tup [iD (ad7 w s r v),.v g.1]),(60,.v g.1)]) (fun g=>g.2) (fun g=>∃ R J,MP (aa7 x) (fun n i'=>if n<q+1 then cE x w (ai5 s k i) n i' else cE x w s n i') bl R∧g.2.Perm (((b1,Blk.cells 4 (cs1.set i (bD false))) :: (b0,.cells 62 cs0) :: ρ) ++ (R ++ J))) (by decide +kernel) ?_ ?_
   ·repeat' (first|refine sk89 ?_|(intro b;conv=>whnf))
    refine Ot.yd (ak2 (u:=.map (some bm)) rfl rfl (KeyD.v _) ml (fun _ h=>h) aB7 Tryz.underlying132 aV6 (ba5 (wf64 (by omega) (by omega))) (by rw [hgq];rfl)) ?_
    repeat' (first|refine sk89 ?_|(intro b;conv=>whnf)|(refine And.intro ?_ ?_ <;> (conv=>whnf))|(refine OtE.yd rfl (ak2 (kv:=atV r.up v) (u:=.int .i64 (ad7 w s r v)) rfl rfl (KeyD.agg2 _ _) mm (fun _ h=>h) as2 Tryz.underlying116 au5 hkl hc0) ?_)|(refine OtE.yd rfl (ak2 (kv:=atV r.up v) (u:=.int .i64 (ad7 w s r v)) rfl rfl (KeyD.agg2 _ _) (List.mem_cons_self) (fun _ h=>h.is) as2 Tryz.underlying116 au5 hkl (updF_at _ _ _ _)) ?_)|(refine OtE.mapEntry2 (kv:=atV r.up v) (u:=.int .i64 (ad7 w s r v)) rfl rfl (KeyD.agg2 _ _) hp4 (fun _ h=>h) as2 Tryz.underlying116 au5 hkl hc0 (fun st=>?_))|(refine OtE.entryStore (kv:=atV r.up v) (xv:=.int .i64 (ad7 w s r v - 1)) rfl rfl rfl rfl (List.Perm.refl _) hkl ?_))
    all_goals exact ⟨(st,_),(aa2 cl2),rfl,hfin⟩
   ·rintro ⟨st,σ3⟩ ⟨R3,J3,hM3,hp3'⟩
    simp only at hM3 hp3' ⊢
    repeat' (first|refine sk89 ?_|(intro b;conv=>whnf))
    exact ⟨(q+1,σ3),(aa2 cl2),cl3,⟨by simp only;omega,R3,J3,hM3,hp3'⟩,by simp only;omega⟩
  ·repeat' (first|refine sk89 ?_|(intro b;conv=>whnf))
   refine ⟨(q+1,_),(aa2 cl2),List.sublist_cons_self _ _,⟨by simp only;omega,R2,J2,hM2.cong (fun n i' hn=>?_),hp2⟩,by simp only;omega⟩
   by_cases hnq:n=q
   ·subst hnq
    rw [if_neg (by omega),if_pos (by omega),hcs,hct,count_other e]
   ·by_cases h:n<q
    ·rw [if_pos h,if_pos (by omega)]
    ·rw [if_neg h,if_neg (by omega)]
 ·obtain rfl:q=(aa7 x).length:=by omega
  repeat' (first|refine sk89 ?_|(intro b;conv=>whnf))
  exact Rt.same ⟨rfl,_,R2,J2,hR3,hM2.cong (fun n i' hn=>by rw [if_pos hn]),hp2⟩
end
section
open Go Go.Maps Go.MapKept
theorem CS.rs {x:Sch} {w:Wd} {s:Sb} {v:Value} {bl:Nat} {σ:aa1} (h:CS x w s v bl σ):∃ σs ρ,RS s v σs∧σ.Perm (σs ++ ρ):=by
 obtain ⟨σs,R,J,h1,_,h3⟩:=h
 exact ⟨σs,R ++ J,h1,h3⟩
theorem CS.perm {x:Sch} {w:Wd} {s:Sb} {v:Value} {bl:Nat} {σ σ':aa1} (h:CS x w s v bl σ) (hp:σ'.Perm σ):CS x w s v bl σ':=by
 obtain ⟨σs,R,J,h1,h2,h3⟩:=h
 exact ⟨σs,R,J,h1,h2,hp.trans h3⟩
theorem CS.junk {x:Sch} {w:Wd} {s:Sb} {v:Value} {bl:Nat} {σ:aa1} (h:CS x w s v bl σ) (ρ:aa1):CS x w s v bl (σ ++ ρ):=by
 obtain ⟨σs,R,J,h1,h2,h3⟩:=h
 exact ⟨σs,R,J ++ ρ,h1,h2,by (refine ac3 fun a=>?_;have e1:=al2 h3 a;simp only [List.append_eq,List.nil_append,ac4,ae7,af1,rfC,atC,iD,bD] at e1 ⊢;omega)⟩
theorem cl_copied_o (s:Sb) (hs:Ss s) {v:Value} {σ σs ρ:aa1} (h:RS s v σs) (hp:σ.Perm (σs ++ ρ)):ACall Tryz.prog 67 [.v v] σ (fun d σ'=>d=slS2 s∧σ'=σ):=
 (ACall.peek (.cons (Pk.frz frz_s h hp) .nil) (cl_copied s hs) (fun d s' ⟨v,e,h⟩=>by subst e;exact ⟨rfl,fl_s _ _ _ h⟩)).vs2 fun d s' ⟨s'',e,v',e2,h'⟩=>by
  subst e e2
  exact ⟨_,σ,Vs.frz frz_s h' (List.Perm.refl _),rfl,rfl⟩
theorem cl_greatest0 (x:Sch) (w:Wd) (s:Sb) (hF:Fit x w s) (a:Option Addr) (c bl:Nat) (σ:aa1) (hC:CS x w s (.slice a s.length c) bl σ) :
  ACall Tryz.prog 42 [.ro (stC x w (.slice a s.length c) bl)] σ (fun d σ'=>d = .v (.slice a s.length c)∧CS x w (ao7 x w s) (.slice a s.length c) bl σ'):=by
 have hsl:=hF.ss.nk
 refine aa3 mixed aa0 Tryz.func42 (by kernel_rfl) rfl Tryz.ntmps42 rfl ?_;intro BB
 repeat' (first|refine sk75 ?_|(intro b;conv=>whnf))
 refine aa6 mixed aa0 (γ:=Nat × Bool × Sb × aa1) (fun g=>[(3,.v (.pointer (some ⟨g.1,0,none⟩)))]) (fun g=>(g.1,.cells 4 [bD g.2.1]) :: g.2.2.2) (fun g=>shI x w s g.2.1 g.2.2.1∧CS x w g.2.2.1 (.slice a s.length c) bl g.2.2.2) (fun g=>if g.2.1=true then am8 g.2.2.1+1 else 0) (b,true,s,σ) (aa2 cl2) cl3 ⟨⟨rfl,rfl⟩,hC⟩ ?_
 rintro ⟨b3,ag,t,σ1⟩ ⟨⟨hlen,hsh⟩,hC1⟩
 simp only at hlen hsh hC1 ⊢
 cases ag with
 | false=>
  simp only [Bool.false_eq_true,if_false] at hsh
  rw [hsh] at hC1
  repeat' (first|refine sk75 ?_|(intro b;conv=>whnf))
  exact Rt.by (Vs.drop (List.sublist_cons_self _ _)) ⟨rfl,hC1⟩
 | true=>
  simp only [if_true] at hsh
  have htl:t.length=s.length:=by have:=congrArg List.length hlen;simpa using this
  have hFt:=hF.lens hlen
  have hkl:=aG4 hFt.ss
  obtain ⟨σs,ρ,hR,hp⟩:=hC1.rs
  repeat' (first|refine sk75 ?_|(intro b;conv=>whnf))
  refine CE.own (cl_copied_o t hFt.ss hR (σ:=(b3,.cells 4 [bD false]) :: σ1) (ρ:=(b3,.cells 4 [bD false]) :: ρ) (by (refine ac3 fun a=>?_;have e1:=al2 hp a;simp only [List.append_eq,List.nil_append,ac4,ae7,af1,rfC,atC,iD,bD] at e1 ⊢;omega))) (as1 _) (fun s'=>s') aq0 ?_
  rintro _ _ ⟨rfl,rfl⟩
  repeat' (first|refine sk75 ?_|(intro b;conv=>whnf))
  refine aG0 mixed aa0 rfl (aA4 t hFt.ss) (fun x hx=>aQ2 hx) rfl (γ:=aa1) (fun k g=>(b3,.cells 4 [bD (swK x w t k).2]) :: g) (fun k g=>CS x w (swK x w t k).1 (.slice a s.length c) bl g) σ1 cl3 hC1 ?_ ?_
  ·rintro lb k g y hy hCg
   obtain ⟨p,hpk,rfl⟩:=aQ3 hy
   have hkb:=swK_kept (x:=x) (w:=w) hpk
   have hsu:=swK_succ (x:=x) (w:=w) hpk
   have hUf:Fit x w (swK x w t k).1:=hFt.lens (swK_lens t k)
   have hUl:(swK x w t k).1.length=s.length:=by have:=congrArg List.length (swK_lens (x:=x) (w:=w) t k);simp at this;omega
   obtain ⟨k',i',l,e1,e2,hl,hb⟩:=ax5 (show aq3 (swK x w t k).1 p.1 p.2=true by unfold aq3;simp [hkb])
   obtain rfl:p.1=k':=by omega
   obtain rfl:p.2=i':=by omega
   obtain ⟨wl,hwl,hwll⟩:=ai1 hUf.shp.symm hl
   obtain ⟨wy,hwy⟩:∃ y,wl[p.2]?=some y:=⟨_,List.getElem?_eq_getElem (by have:=(List.getElem?_eq_some_iff.1 hb).1;omega)⟩
   have HW:=cl_wrong x w (swK x w t k).1 hUf p.1 p.2 wl wy hwl hwy a c bl g (by rw [hUl];exact hCg)
   have HD:=cl_drop x w (swK x w t k).1 hUf p.1 p.2 hkb a c bl g (by rw [hUl];exact hCg)
   rw [hUl] at HW HD
   generalize swK x w t k=U at *
   repeat' (first|refine sk75 ?_|(intro b;conv=>whnf))
   refine CE.own HW (show List.Perm _ (g ++ [(b,.cells 33 (atC p.1 p.2)),(b3,.cells 4 [bD U.2])]) by (refine ac3 fun a=>?_;simp only [List.append_eq,List.nil_append,ac4,ae7,af1,rfC,atC,iD,bD];omega)) (fun s'=>(b,.cells 33 (atC p.1 p.2)) :: (b3,.cells 4 [bD U.2]) :: s') (fun s'=>cl6) ?_
   rintro _ s2 ⟨rfl,e⟩
   rw [e]
   clear e
   repeat' (first|refine sk75 ?_|(intro b;conv=>whnf)|(with_reducible refine Br.d (fun hc=>?_) (fun hc=>?_))|(with_reducible refine Br.b (fun hc=>?_) (fun hc=>?_)))
   ·have hs1:ae2 x w U p=(ai5 U.1 p.1 p.2,true):=by unfold ae2;rw [hkb,hc];rfl
    rw [hs1] at hsu
    refine CE.own HD (show List.Perm _ (g ++ [(b,.cells 33 (atC p.1 p.2)),(b3,.cells 4 [bD U.2])]) by (refine ac3 fun a=>?_;simp only [List.append_eq,List.nil_append,ac4,ae7,af1,rfC,atC,iD,bD];omega)) (fun s'=>(b,.cells 33 (atC p.1 p.2)) :: (b3,.cells 4 [bD U.2]) :: s') (fun s'=>cl6) ?_
    rintro _ s' ⟨rfl,hs'⟩
    repeat' (first|refine sk75 ?_|(intro b;conv=>whnf))
    refine ⟨s',?_,?_⟩
    ·simp only [hsu];exact cl3
    ·simp only [hsu];exact hs'
   ·have hs1:ae2 x w U p=U:=by unfold ae2;rw [hkb,hc];rfl
    rw [hs1] at hsu
    refine ⟨g,?_,?_⟩
    ·simp only [hsu];exact cl3
    ·simp only [hsu];exact hCg
  ·rintro g hCg
   have hL:((ag1 t).map fun p=>[atD p.1 p.2]).length=(ag1 t).length:=List.length_map _
   rw [hL,swK_all] at hCg
   have hst:=aN6 (x:=x) (w:=w) t
   cases hag:(aj7 x w t).2 with
   | true=>
    rw [hag] at hst
    have hlt:=aL4 hag
    rw [hL,swK_all,hag]
    repeat' (first|refine sk75 ?_|(intro b;conv=>whnf))
    exact ⟨(b,true,(aj7 x w t).1,g),(aa2 cl2),List.Sublist.cons_cons _ (List.sublist_cons_self _ _),⟨⟨(aq7 _ _).trans hlen,by simp only [if_true];rw [← hsh,hst];rfl⟩,hCg⟩,by simp only [if_true];omega⟩
   | false=>
    rw [hag] at hst
    have hno:=aW5 hag
    rw [hL,swK_all,hag]
    repeat' (first|refine sk75 ?_|(intro b;conv=>whnf))
    exact ⟨(b,false,(aj7 x w t).1,g),(aa2 cl2),List.Sublist.cons_cons _ (List.sublist_cons_self _ _),⟨⟨(aq7 _ _).trans hlen,by simp only [Bool.false_eq_true,if_false];rw [hno,← hsh,hst];rfl⟩,hCg⟩,by simp⟩
end
section
open Go Go.Maps Go.MapKept
theorem sk90 {A B:Prop} (k:B) (h:Hd7 B→A:=by intro hk7q;(first|refine sb0 ?_|refine sb1 ?_|((with_reducible refine' Cp.by ?hc ?_);(case hc=>exact HC))|((with_reducible refine' CE.pure ?hc ?_);(case hc=>exact HC)));exact hk7q.run):A:=h ⟨k⟩
theorem sk91 {A B:Prop} (k:B) (h:Hd7 B→A:=by intro hk7q;(first|refine sb0 ?_|refine sb1 ?_|((with_reducible refine' Cp.by ?hc ?_);(case hc=>first|exact HC|exact aA7 _))|((with_reducible refine' CE.pure ?hc ?_);(case hc=>first|exact HC|exact aA7 _)));exact hk7q.run):A:=h ⟨k⟩
theorem cl_valid (x:Sch) (w:Wd) (s:Sb) (hw:Ws w) (hs:Ss s) (HV:APure Tryz.prog 81 [schD x] (iD (ac9 x))):APure Tryz.prog 21 [schD x,slW w,slS2 s] (bD (ak9 x w s)):=by
 have HC:=aI8 x w s hw HV
 have hkl:=aG4 hs
 by_cases h0:ac0 x w s=0
 ·have hF:=av5 hw hs h0
  refine APure.of_call (aa3 mixed aa0 Tryz.func21 (by kernel_rfl) rfl Tryz.ntmps21 rfl ?_);intro BB
  repeat' (first|refine sk91 ?_|(intro b;conv=>whnf))
  generalize b=b6
  refine CE.own (cl_begun x w s hF) (List.Perm.refl ([] ++ [(b6,Blk.cells 4 [bD false])])) (fun s'=>(b6,.cells 4 [bD false]) :: s') (fun s'=>cl6) ?_
  rintro _ σ ⟨a,c,bl,rfl,hC⟩
  repeat' (first|refine sk91 ?_|(intro b;conv=>whnf))
  generalize b=b7
  refine aG0 mixed aa0 rfl (aA4 s hs) (fun x hx=>aQ2 hx) rfl (γ:=Unit) (fun _ _=>(b7,.cells 78 [.ro (stC x w (.slice a s.length c) bl)]) :: (b6,.cells 4 [bD false]) :: σ) (fun k _=>∀ j p,j<k→(ag1 s)[j]?=some p→ar4 x w s p.1 p.2=false) () (List.Sublist.refl _) (fun j p h=>by omega) ?_ ?_
  ·rintro lb k - y hy hI
   obtain ⟨p,hpk,rfl⟩:=aQ3 hy
   have hkb:keptB s p.1 p.2=true:=at7.1 (List.mem_of_getElem? hpk)
   obtain ⟨k',i',l,e1,e2,hl,hb⟩:=ax5 (show aq3 s p.1 p.2=true by unfold aq3;simp [hkb])
   obtain rfl:p.1=k':=by omega
   obtain rfl:p.2=i':=by omega
   obtain ⟨wl,hwl,hwll⟩:=ai1 hF.shp.symm hl
   obtain ⟨wy,hwy⟩:∃ y,wl[p.2]?=some y:=⟨_,List.getElem?_eq_getElem (by have:=(List.getElem?_eq_some_iff.1 hb).1;omega)⟩
   have HW:=cl_wrong x w s hF p.1 p.2 wl wy hwl hwy a c bl σ hC
   repeat' (first|refine sk91 ?_|(intro b;conv=>whnf))
   refine CE.own HW (show List.Perm _ (σ ++ [(b,.cells 33 (atC p.1 p.2)),(b7,.cells 78 [.ro (stC x w (.slice a s.length c) bl)]),(b6,.cells 4 [bD false])]) by (refine ac3 fun a=>?_;simp only [List.append_eq,List.nil_append,ac4,ae7,af1,rfC,atC,iD,bD];omega)) (fun s'=>(b,.cells 33 (atC p.1 p.2)) :: (b7,.cells 78 [.ro (stC x w (.slice a s.length c) bl)]) :: (b6,.cells 4 [bD false]) :: s') (fun s'=>cl6) ?_
   rintro _ s2 ⟨rfl,e⟩
   rw [e]
   clear e
   repeat' (first|refine sk91 ?_|(intro b;conv=>whnf)|(with_reducible refine Br.d (fun hc=>?_) (fun hc=>?_))|(with_reducible refine Br.b (fun hc=>?_) (fun hc=>?_)))
   ·refine Rs.c1 aa0 rfl rfl (List.mem_cons_of_mem _ (List.mem_cons_of_mem _ List.mem_cons_self)) rfl rfl ?_
    repeat' (first|refine sk91 ?_|(intro b;conv=>whnf))
    refine Rt.pure (congrArg bD ?_)
    unfold ak9
    rw [Eq.comm,Bool.and_eq_false_iff]
    refine .inr (List.all_eq_false.2 ⟨p,aG5 hkb,?_⟩)
    rw [hkb,hc];simp
   ·refine ⟨(),List.sublist_cons_self _ _,fun j p' hj hp'=>?_⟩
    by_cases ej:j=k
    ·subst ej;cases hpk.symm.trans hp';exact hc
    ·exact hI j p' (by omega) hp'
  ·rintro - hI
   have hL:((ag1 s).map fun p=>[atD p.1 p.2]).length=(ag1 s).length:=List.length_map _
   rw [hL] at hI
   repeat' (first|refine sk91 ?_|(intro b;conv=>whnf))
   refine Rs.c1 aa0 rfl rfl (List.mem_cons_of_mem _ List.mem_cons_self) rfl rfl ?_
   repeat' (first|refine sk91 ?_|(intro b;conv=>whnf))
   refine Rt.pure (congrArg bD ?_)
   unfold ak9
   rw [decide_eq_true h0,Bool.true_and,Eq.comm,List.all_eq_true]
   intro p hp
   cases hkp:keptB s p.1 p.2 with
   | false=>rfl
   | true=>
    obtain ⟨j,hj⟩:=List.getElem?_of_mem (at7.2 hkp)
    rw [hI j p (List.getElem?_eq_some_iff.1 hj).1 hj];rfl
 ·rw [valid_no h0]
  refine APure.of_call (aa3 mixed aa0 Tryz.func21 (by kernel_rfl) rfl Tryz.ntmps21 rfl ?_);intro BB
  repeat' (first|refine sk91 ?_|(intro b;conv=>whnf))
  refine Rs.c1 aa0 rfl rfl (List.mem_singleton.2 rfl) rfl rfl ?_
  repeat' (first|refine sk91 ?_|(intro b;conv=>whnf))
  refine Rt.pure (congrArg bD ?_)
  rfl
end
section
open Go Go.Maps Go.MapKept
theorem cl_without (x:Sch) (w:Wd) (s:Sb) (hw:Ws w) (hs:Ss s) (k i:Int) (HV:APure Tryz.prog 81 [schD x] (iD (ac9 x))):ACall Tryz.prog 12 [schD x,slW w,slS2 s,atD k i] [] (fun d σ=>∃ v σ1 σ2,d = .tup [.v v,iD (ad3 x w s k i).2]∧σ=σ1 ++ σ2∧RS (ad3 x w s k i).1 v σ1):=by
 have HC:=aI8 x w s hw HV
 have hsl:=hs.nk
 by_cases h0:ac0 x w s=0
 ·have hF:=av5 hw hs h0
  by_cases h1:aq3 s k i=true
  ·rw [wout_yes h0 h1]
   obtain ⟨k,i,l,rfl,rfl,hl,hb⟩:=ax5 h1
   have hkb:=at6 hl hb
   have hl':s[((k:Nat):Int).toNat]?=some l:=hl
   have hb':l[((i:Nat):Int).toNat]?=some true:=hb
   have hkl:=(List.getElem?_eq_some_iff.1 hl).1
   have hil:=(List.getElem?_eq_some_iff.1 hb).1
   have hll:=hs.nr l (List.mem_of_getElem? hl)
   refine aa3 mixed aa0 Tryz.func12 (by kernel_rfl) rfl Tryz.ntmps12 rfl ?_;intro BB
   repeat' (first|refine sk90 ?_|(intro b;conv=>whnf))
   refine CE.own (cl_begun x w s hF) (List.Perm.refl []) (fun s'=>s') (fun s'=>by simp) ?_
   rintro _ σ ⟨a,c,bl,rfl,hC⟩
   repeat' (first|refine sk90 ?_|(intro b;conv=>whnf))
   refine CE.own (cl_drop x w s hF k i hkb a c bl σ hC) (as1 _) (fun s'=>s') aq0 ?_
   rintro _ σ' ⟨rfl,hC'⟩
   have hF2:=hF.lens (aE2 s k i)
   repeat' (first|refine sk90 ?_|(intro b;conv=>whnf))
   have HG:=cl_greatest0 x w (ai5 s k i) hF2 a c bl σ' (by rw [az2];exact hC')
   rw [az2] at HG
   refine CE.own HG (as1 _) (fun s'=>s') aq0 ?_
   rintro _ σ2 ⟨rfl,hC2⟩
   obtain ⟨σs,ρ,hR,hp⟩:=hC2.rs
   repeat' (first|refine sk90 ?_|(intro b;conv=>whnf))
   exact Rt.by (Vs.perm hp) ⟨_,σs,ρ,rfl,rfl,hR⟩
  ·rw [wout_6 h0 (by simpa using h1)]
   rw [Bool.not_eq_true] at h1
   by_cases g1:k<0
   ·refine aa3 mixed aa0 Tryz.func12 (by kernel_rfl) rfl Tryz.ntmps12 rfl ?_;intro BB
    repeat' (first|refine sk90 ?_|(intro b;conv=>whnf))
    exact Rt.same ⟨_,[],_,rfl,rfl,aO3⟩
   ·by_cases g2:k.toNat<s.length
    ·obtain ⟨l,hl⟩:∃ l,s[k.toNat]?=some l:=⟨_,List.getElem?_eq_getElem g2⟩
     by_cases g3:i<0
     ·refine aa3 mixed aa0 Tryz.func12 (by kernel_rfl) rfl Tryz.ntmps12 rfl ?_;intro BB
      repeat' (first|refine sk90 ?_|(intro b;conv=>whnf))
      exact Rt.same ⟨_,[],_,rfl,rfl,aO3⟩
     ·by_cases g4:i.toNat<l.length
      ·obtain ⟨b,hb⟩:∃ b,l[i.toNat]?=some b:=⟨_,List.getElem?_eq_getElem g4⟩
       have hbf:b=false:=by
        unfold aq3 at h1
        rw [at6 hl hb,decide_eq_true (by omega),decide_eq_true (by omega)] at h1
        simpa using h1
       subst hbf
       refine aa3 mixed aa0 Tryz.func12 (by kernel_rfl) rfl Tryz.ntmps12 rfl ?_;intro BB
       repeat' (first|refine sk90 ?_|(intro b;conv=>whnf))
       exact Rt.same ⟨_,[],_,rfl,rfl,aO3⟩
      ·refine aa3 mixed aa0 Tryz.func12 (by kernel_rfl) rfl Tryz.ntmps12 rfl ?_;intro BB
       repeat' (first|refine sk90 ?_|(intro b;conv=>whnf))
       exact Rt.same ⟨_,[],_,rfl,rfl,aO3⟩
    ·refine aa3 mixed aa0 Tryz.func12 (by kernel_rfl) rfl Tryz.ntmps12 rfl ?_;intro BB
     repeat' (first|refine sk90 ?_|(intro b;conv=>whnf))
     exact Rt.same ⟨_,[],_,rfl,rfl,aO3⟩
 ·rw [wout_no h0]
  refine aa3 mixed aa0 Tryz.func12 (by kernel_rfl) rfl Tryz.ntmps12 rfl ?_;intro BB
  repeat' (first|refine sk90 ?_|(intro b;conv=>whnf))
  exact Rt.same ⟨_,[],_,rfl,rfl,aO3⟩
end
section
open Go Go.Maps Go.MapKept
def ba6 (s T:Sb) (m:Nat):List (Nat × Nat):=((ag1 s).take m).filter fun p=>!keptB T p.1 p.2
theorem goneK_succ {s T:Sb} {m:Nat} {p:Nat × Nat} (h:(ag1 s)[m]?=some p):ba6 s T (m+1)=ba6 s T m ++ (if keptB T p.1 p.2 then [] else [p]):=by
 unfold ba6
 rw [ah6 h,List.filter_append]
 cases h2:keptB T p.1 p.2 <;> simp [h2]
theorem goneK_all (s T:Sb):ba6 s T (ag1 s).length=(ag1 s).filter fun p=>!keptB T p.1 p.2:=by unfold ba6;rw [List.take_length]
theorem goneK_le (s T:Sb) (hs:Ss s) (m:Nat):(ba6 s T m).length≤1000000:=by
 unfold ba6
 refine Nat.le_trans (List.length_filter_le _ _) ?_
 rw [List.length_take]
 have:=aG4 hs
 omega
theorem aE3 (x:Sch) (w:Wd) (s:Sb) (hw:Ws w) (hs:Ss s) (k i:Int) (HV:APure Tryz.prog 81 [schD x] (iD (ac9 x))):APure Tryz.prog 14 [schD x,slW w,slS2 s,atD k i] (.tup [slAt (an1 x w s k i).1,iD (an1 x w s k i).2]):=by
 have HW:=cl_without x w s hw hs k i HV
 have hkl:=aG4 hs
 by_cases h0:(ad3 x w s k i).2=0
 ·rw [tog_yes h0]
  have hF:=wout_fit hw hs h0
  have hTl:=wout_lens h0
  have hsl:=hs.nk
  generalize hT:(ad3 x w s k i).1=T at *
  have hTs:T.length=s.length:=by have:=congrArg List.length hTl;simpa using this
  generalize (ad3 x w s k i).2=c0 at *
  refine APure.of_call (aa3 mixed aa0 Tryz.func14 (by kernel_rfl) rfl Tryz.ntmps14 rfl ?_);intro BB
  repeat' (first|refine sk75 ?_|(intro b;conv=>whnf))
  refine CE.own HW (List.Perm.refl []) (fun s'=>s') (fun s'=>by simp) ?_
  rintro _ _ ⟨v,σ1,σ2,rfl,rfl,hR⟩
  obtain ⟨a0,cp0,rfl⟩:=hR.slice
  repeat' (first|refine sk75 ?_|(intro b;conv=>whnf))
  generalize b=b12
  rename_i b10
  refine aG0 mixed aa0 rfl (aA4 s hs) (fun x hx=>aQ2 hx) rfl (γ:=Value × aa1) (fun _ g=>(b12,.cells 46 [.v g.1]) :: (b10,.cells 35 [.v (.slice a0 T.length cp0)]) :: (g.2 ++ (σ1 ++ σ2))) (fun m g=>RA (ba6 s T m) g.1 g.2) (.slice none 0 0,[]) (List.Sublist.refl _) (RowIs.nil _ _) ?_ ?_
  ·rintro lb m ⟨v,τ⟩ y hy hA
   obtain ⟨p,hpk,rfl⟩:=aQ3 hy
   have hkb:keptB s p.1 p.2=true:=at7.1 (List.mem_of_getElem? hpk)
   obtain ⟨k',i',l,e1,e2,hl,hb⟩:=ax5 (show aq3 s p.1 p.2=true by unfold aq3;simp [hkb])
   obtain rfl:p.1=k':=by omega
   obtain rfl:p.2=i':=by omega
   have hll:=hs.nr l (List.mem_of_getElem? hl)
   have hil:=(List.getElem?_eq_some_iff.1 hb).1
   have hkl':=(List.getElem?_eq_some_iff.1 hl).1
   obtain ⟨m',hm,hml⟩:=ai1 hTl.symm hl
   obtain ⟨c,hc⟩:∃ c,m'[p.2]?=some c:=⟨_,List.getElem?_eq_getElem (by omega)⟩
   obtain ⟨b0,cap0,cs0,b1,cap1,cs1,ρ,e1,h2,h3,h4,h5⟩:=at1 hR hm hc
   cases e1
   have m0:(b0,Blk.cells 62 cs0)∈τ ++ (σ1 ++ σ2):=List.mem_append_right _ (List.mem_append_left _ (h2.mem_iff.2 (by simp)))
   have m1:(b1,Blk.cells 4 cs1)∈τ ++ (σ1 ++ σ2):=List.mem_append_right _ (List.mem_append_left _ (h2.mem_iff.2 (by simp)))
   have hkc:=at6 hm hc
   have hgs:=goneK_succ (T:=T) hpk
   rw [hkc] at hgs
   have hgl:=goneK_le s T hs (m+1)
   simp only at hA
   repeat' (first|refine sk75 ?_|(intro b;conv=>whnf))
   refine Ld.cellm (cs:=cs0) (List.mem_cons_of_mem _ (List.mem_cons_of_mem _ (List.mem_cons_of_mem _ m0))) (by rw [ix1];exact h3) ?_
   repeat' (first|refine sk75 ?_|(intro b;conv=>whnf))
   refine Ld.cellm (cs:=cs1) (List.mem_cons_of_mem _ (List.mem_cons_of_mem _ (List.mem_cons_of_mem _ m1))) (by rw [ix1];exact h4) ?_
   cases c with
   | true=>
    repeat' (first|refine sk75 ?_|(intro b;conv=>whnf))
    simp only [if_true,List.append_nil] at hgs
    exact ⟨(v,τ),List.sublist_cons_self _ _,by rw [hgs];exact hA⟩
   | false=>
    simp only [Bool.false_eq_true,if_false] at hgs
    repeat' (first|refine sk75 ?_|(intro b;conv=>whnf))
    refine Ap.go rfl rfl rfl rfl hA (τ:=(b,.cells 33 (atC p.1 p.2)) :: (b12,.cells 46 [.v v]) :: (b10,.cells 35 [.v (.slice (some ⟨b0,0,none⟩) T.length cp0)]) :: (σ1 ++ σ2)) cl5 rfl (zs:=(ba6 s T (m+1)).map fun p=>atC p.1 p.2) (by rw [hgs,List.map_append];rfl) (by rw [List.length_map];omega) (by rw [List.length_map];omega) (fun s'=>(b,.cells 33 (atC p.1 p.2)) :: (b12,.cells 46 [.v v]) :: (b10,.cells 35 [.v (.slice (some ⟨b0,0,none⟩) T.length cp0)]) :: (s' ++ (σ1 ++ σ2))) (fun s'=>cl6) (fun a2 c2 s2 hr2=>?_)
    repeat' (first|refine sk75 ?_|(intro b;conv=>whnf))
    exact ⟨(_,s2),List.sublist_cons_self _ _,hr2⟩
  ·rintro ⟨v,τ⟩ hA
   have hL:((ag1 s).map fun p=>[atD p.1 p.2]).length=(ag1 s).length:=List.length_map _
   rw [hL,goneK_all] at hA
   simp only at hA
   repeat' (first|refine sk75 ?_|(intro b;conv=>whnf))
   refine Rt.vs (Vs.tup (.cons (Vs.row (τ:=(b12,.cells 46 [.v v]) :: (b10,.cells 35 [.v (.slice a0 T.length cp0)]) :: (σ1 ++ σ2)) hA cl5) (.cons (Vs.refl _ _) (.nil _))))
 ·rw [tog_no h0]
  generalize (ad3 x w s k i).2=c0 at *
  refine APure.of_call (aa3 mixed aa0 Tryz.func14 (by kernel_rfl) rfl Tryz.ntmps14 rfl ?_);intro BB
  repeat' (first|refine sk75 ?_|(intro b;conv=>whnf))
  refine CE.own HW (List.Perm.refl []) (fun s'=>s') (fun s'=>by simp) ?_
  rintro _ _ ⟨v,σ1,σ2,rfl,rfl,hR⟩
  obtain ⟨a0,cp0,rfl⟩:=hR.slice
  repeat' (first|refine sk75 ?_|(intro b;conv=>whnf))
  exact Rt.vs (Vs.tup (.cons (Vs.row (RowIs.nil 33 2) (as1 _)) (.cons (Vs.refl _ _) (.nil _))))
end
section
open Go.RowKit Go.Shelf
def Bld (w:World) (B b n:Nat) (O:Option Nat):Prop:=
 ∃ (l:List UInt8) (p v:Value),l.length=n∧(p = .pointer none∨p = .pointer (some ⟨b,0,none⟩))∧B≤b∧w.heap[b]?=some (.cells #[p,v] 206 (0,0)) ∧
  w.ownsRow B 5 1 v l.length (Lib.byteCells l)∧v.ownBlock=O∧O≠some b
theorem Ex.grownBy {w w':World} (h:Ex w w'):w.grownBy w' none:=⟨Keep.os h,Keep.tape h,Keep.output h,Keep.size h,fun k hk _=>Ex.block h k hk⟩
theorem Bld.lt {w:World} {B b n:Nat} {O:Option Nat} (h:Bld w B b n O):b<w.heap.size:=by
 obtain ⟨l,p,v,_,_,_,hb,_⟩:=h
 rcases Nat.lt_or_ge b w.heap.size with h' | h'
 ·exact h'
 ·simp [Array.getElem?_eq_none h'] at hb
theorem Bld.le {w:World} {B b n:Nat} {O:Option Nat} (h:Bld w B b n O):B≤w.heap.size:=by
 have:=h.lt
 obtain ⟨l,p,v,_,_,hB,_⟩:=h
 omega
theorem Bld.ex {w w':World} {B b n:Nat} {O:Option Nat} (h:Bld w B b n O) (he:Ex w w'):Bld w' B b n O:=by
 have hlt:=h.lt
 obtain ⟨l,p,v,h1,h2,h3,h4,h5,h6,h7⟩:=h
 exact ⟨l,p,v,h1,h2,h3,by rw [he.block b hlt];exact h4,h5.kept he.grownBy (by cases h:v.ownBlock <;> simp),h6,h7⟩
theorem Bld.fresh (w:World) (B:Nat) (hB:B≤w.heap.size):Bld (w.alloc (.cells #[.pointer none,.slice none 0 0] 206)) B w.heap.size 0 none:=
 ⟨[],.pointer none,.slice none 0 0,rfl,.inl rfl,hB,by show (w.heap.push _)[w.heap.size]?=_;simp,World.ownsRow_nil _ _ _ _,rfl,by simp⟩
theorem infoByte:(Tryz.prog.info? 5).map (fun i=>(i.zero,i.size,i.bytes))=some (some (.int .u8 0),1,1):=by kernel_rfl
theorem sizeBuilder:(Tryz.prog.info? 206).map (fun i=>i.size)=some 2:=by kernel_rfl
theorem aS7 (b:Nat) (w:World) (h0:w.cell? ⟨b,0,none⟩=some (.pointer (some ⟨b,0,none⟩))) :
  Calls Tryz.prog 165 #[.pointer (some ⟨b,0,none⟩)] w fun e w'=>e = .returned (.tuple #[])∧w=w':=by
 obtain ⟨j,hj,_⟩:=Option.map_eq_some_iff.1 sizeBuilder
 go_enter Tryz.func165,Tryz.ntmps165
 go_wp2
 rw [Lib.run_neq_ptr_same w _ Tryz.underlying203 hj]
 go_wp2
 go_end0
 exact ⟨rfl,rfl⟩
theorem aR1 (b:Nat) (w:World) (h0:w.cell? ⟨b,0,none⟩=some (.pointer none)) (hsh:w.shape? b=some (206,2)) (hfz:w.frozen? ⟨b,0,none⟩=false) :
  Calls Tryz.prog 165 #[.pointer (some ⟨b,0,none⟩)] w fun e w'=>e = .returned (.tuple #[])∧w'=w.setCell ⟨b,0,none⟩ (.pointer (some ⟨b,0,none⟩)):=by
 obtain ⟨j,hj,hjs⟩:=Option.map_eq_some_iff.1 sizeBuilder
 go_enter Tryz.func165,Tryz.ntmps165
 go_wp2
 rw [Lib.run_to_unsafe w ⟨b,0,none⟩ Tryz.underlying203 Tryz.underlying238 hj (by rw [hjs];decide) hsh (Nat.zero_lt_succ 1)]
 simp only [Result.andThen]
 rw [Oper.upon_value]
 go_wp2
 rw [run_callFunc_extern Tryz.func180 (by kernel_rfl) (by kernel_rfl) (by kernel_rfl) (e:=Extern.AbiNoEscape.same) (by kernel_rfl)]
 rw [Lib.run_noEscape]
 simp only [Result.andThen]
 rw [Oper.upon_value]
 go_wp2
 rw [Lib.run_from_unsafe w ⟨b,0,none⟩ Tryz.underlying238 Tryz.underlying203 hj hsh (by kernel_rfl)]
 simp only [Result.andThen]
 rw [Oper.upon_value]
 go_wp2
 go_end0
 exact ⟨rfl,rfl⟩
theorem aH1 {w:World} {B b n:Nat} {O:Option Nat} (h:Bld w B b n O) :
  Calls Tryz.prog 165 #[.pointer (some ⟨b,0,none⟩)] w fun e w'=>e = .returned (.tuple #[])∧(Keep (fun x=>x=b) w w' ∧
   ∃ (l:List UInt8) (v:Value),l.length=n∧B≤b∧w'.heap[b]?=some (.cells #[.pointer (some ⟨b,0,none⟩),v] 206 (0,0))∧w'.ownsRow B 5 1 v l.length (Lib.byteCells l)∧v.ownBlock=O∧O≠some b):=by
 have hlt:=h.lt
 obtain ⟨l,p,v,h1,h2,h3,h4,h5,h6,h7⟩:=h
 rcases h2 with rfl|rfl
 ·refine (aR1 b w (by simp [World.cell?,h4]) (by simp [World.shape?,h4]) (by simp [World.frozen?,h4])).mono ?_
  rintro e w' ⟨rfl,rfl⟩
  refine ⟨rfl,(Keep.refl (fun x=>x=b) w).setCell (p:=⟨b,0,none⟩) (.inr rfl) _,l,v,h1,h3,?_,ownsRow_setCell_other h5 (by rw [h6];exact h7) _,h6,h7⟩
  simp only [World.setCell,Array.getElem?_modify,if_true,h4]
  rfl
 ·refine (aS7 b w (by simp [World.cell?,h4])).mono ?_
  rintro e w' ⟨rfl,rfl⟩
  exact ⟨rfl,Keep.refl _ _,l,v,h1,h3,h4,h5,h6,h7⟩
def Wrote (w w':World) (B b n:Nat) (O:Option Nat):Prop:=Keep (fun x=>x=b∨some x=O) w w'∧∃ O',Bld w' B b n O'∧(O'=O∨∃ g,O'=some g∧w.heap.size≤g)
theorem aL2 {w:World} {base:Nat} {v v':Value} {n:Nat} {xs:List Value} (hown:w.ownsRow base 5 1 v n xs) (s:ByteArray) (hbytes:n+s.size≤140737488355328) {w':World} {ty:TypeId}
  (hrun:(Builtin.append_ #[204,9] ty #[v,.string s]).run Tryz.prog w = .ok v' w'):v'.ownBlock=v.ownBlock∨v'.ownBlock=some w.heap.size:=by
 obtain ⟨i,hi,hz0,hz1,hz2⟩:=info_parts infoByte
 rcases hown.2 with ⟨rfl,rfl⟩|⟨g,cap,cur,rfl,hbg,hg,hnc,hcm,hcs,htake⟩
 ·by_cases hm:s.size=0
  ·have hf:=Lib.run_firstCells_string (P:=Tryz.prog) w 1 s
   rw [hm] at hf
   simp [Builtin.append_,run_underlying Tryz.underlying204,run_underlying Tryz.underlying9,sizeOf,typeInfo,hi,hz1,Builtin.lenOf,hm,hf] at hrun
   obtain ⟨rfl,rfl⟩:=hrun
   exact .inl rfl
  ·have hr:=run_append_nil_string (P:=Tryz.prog) w 204 9 ty 5 i (.int .u8 0) Tryz.underlying204 Tryz.underlying9 hi hz0 s (by omega) (by omega) (by rw [hz2];omega)
   rw [hr] at hrun
   cases hrun
   exact .inr rfl
 ·by_cases hroom:n+s.size≤cap
  ·have hcs':cur.size=cap:=by simpa using hcs
   have hr:=Lib.run_append_room_string (P:=Tryz.prog) w 204 9 ty 5 i Tryz.underlying204 Tryz.underlying9 hi hz1 g n cap cur hg s hroom (by omega)
   rw [hr] at hrun
   cases hrun
   exact .inl rfl
  ·have holds:∀ j u,xs[j]?=some u→w.cell? ((⟨g,0,none⟩:Addr).add j)=some u:=hown.cells (g:=g) rfl
   have hr:=Lib.run_append_grow_string (P:=Tryz.prog) w 204 9 ty 5 i (.int .u8 0) Tryz.underlying204 Tryz.underlying9 hi hz0 ⟨g,0,none⟩ n cap xs (by rw [hz1];simpa using hown.1) holds s (by omega) (by omega) (by rw [hz2];exact growslice_fits (by omega) (by omega))
   rw [hr] at hrun
   cases hrun
   exact .inr rfl
theorem aH5 {w:World} {ops:Array Oper} {rest:List Oper} {o:Oper} {a:Act} {Q:Exit→Act→World→Prop} (hgd:o.guard=none) (sl x:Operand)
  (ho:o.op = .call { callee:=.builtin .append,args:=#[sl,x],argTypes:=#[204,9] })
  (base:Nat) (v:Value) (n:Nat) (xs:List Value) (hs:a.eval sl=v) (hown:w.ownsRow base 5 1 v n xs) (s:ByteArray) (hx:a.eval x = .string s)
  (hbytes:n+s.size≤140737488355328) (hbase:base≤w.heap.size)
  (h:∀ v' w',w'.ownsRow base 5 1 v' (n+s.size) (xs ++ Lib.strCells s)→w.grownBy w' v.ownBlock→(v'.ownBlock=v.ownBlock∨v'.ownBlock=some w.heap.size)→wpList Tryz.prog ops Q rest (a.put o.dst v') w'):wpList Tryz.prog ops Q (o :: rest) a w:=by
 obtain ⟨i,hi,hz0,hz1,hz2⟩:=info_parts infoByte
 refine wpList_plain hgd fun K hK=>?_
 obtain ⟨v',w',hr,h2,h3,h4⟩:=Lib.run_append_own_string (P:=Tryz.prog) w base 204 9 o.type 5 i Tryz.underlying204 Tryz.underlying9 hi hz0 hz1 hz2 v n xs hown s (by unfold maxLen;omega) hbytes hbase
 have h5:=aL2 hown s hbytes hr
 unfold Oper.wp execOp
 simp only [ho,resolve,invoke,builtin,Sem.run_bind,Sem.run_pure,Result.andThen_ok,List.map_toArray,List.map_cons,List.map_nil,hs,hx,hr]
 exact hK _ _ (h v' w' h2 h3 h5)
theorem aS0 (s:ByteArray):Lib.strCells s=Lib.byteCells s.data.toList:=by
 simp [Lib.strCells,Lib.byteCells]
theorem az3 (l m:List UInt8):Lib.byteCells l ++ Lib.byteCells m=Lib.byteCells (l ++ m):=by simp [Lib.byteCells]
theorem al9 (l:List UInt8):(Lib.byteCells l).length=l.length:=by simp [Lib.byteCells]
theorem wrote_of {w w1 w2:World} {B b n m:Nat} {O:Option Nat} {v v':Value} {l:List UInt8} (hk:Keep (fun x=>x=b) w w1) (hl:l.length=n+m) (hB:B≤b) (hb1:w1.heap[b]?=some (.cells #[.pointer (some ⟨b,0,none⟩),v] 206 (0,0)))
  (hO:v.ownBlock=O) (hne:O≠some b) (hown:w2.ownsRow B 5 1 v' (n+m) (Lib.byteCells l)) (hgrow:w1.grownBy w2 v.ownBlock) (hat:v'.ownBlock=v.ownBlock∨∃ g,v'.ownBlock=some g∧w1.heap.size≤g) :
  Wrote w (w2.setCell ⟨b,1,none⟩ v') B b (n+m) O:=by
 have hlt:b<w1.heap.size:=by
  rcases Nat.lt_or_ge b w1.heap.size with h' | h'
  ·exact h'
  ·simp [Array.getElem?_eq_none h'] at hb1
 have hb2:w2.heap[b]?=some (.cells #[.pointer (some ⟨b,0,none⟩),v] 206 (0,0)):=by
  rw [hgrow.block b hlt (fun e=>hne (hO ▸ e.symm))];exact hb1
 have hne':v'.ownBlock≠some b:=by
  rcases hat with h|⟨g,h,hg⟩
  ·rw [h,hO];exact hne
  ·rw [h];intro e;cases e;omega
 refine ⟨?_,v'.ownBlock,⟨l,_,v',hl,.inr rfl,hB,?_,?_,rfl,hne'⟩,?_⟩
 ·have h1:Keep (fun x=>x=b∨some x=O) w w1:=hk.mono (fun x _ h=>.inl h)
  have h2:Keep (fun x=>x=b∨some x=O) w w2:=h1.grown hgrow (fun k e=>.inr (.inr (by rw [← hO,e])))
  exact h2.setCell (p:=⟨b,1,none⟩) (.inr (.inl rfl)) _
 ·simp only [World.setCell,Array.getElem?_modify,if_true,hb2]
  rfl
 ·rw [hl];exact ownsRow_setCell_other hown hne' _
 ·rcases hat with h|⟨g,h,hg⟩
  ·exact .inl (h.trans hO)
  ·exact .inr ⟨g,h,Nat.le_trans hk.size hg⟩
theorem ay7 {w:World} {b:Nat} {o:Obj} (h:w.heap[b]?=some o):b<w.heap.size:=by
 rcases Nat.lt_or_ge b w.heap.size with h' | h'
 ·exact h'
 ·simp [Array.getElem?_eq_none h'] at h
theorem aj6 {w:World} {B b n:Nat} {O:Option Nat} (h:Bld w B b n O) (s:ByteArray) (hn:n+s.size≤140737488355328) :
  Calls Tryz.prog 138 #[.pointer (some ⟨b,0,none⟩),.string s] w fun e w'=>e = .returned (.tuple #[.int .i64 s.size,.nilIface])∧Wrote w w' B b (n+s.size) O:=by
 have HC:=Lib.hid (aH1 h)
 have hBw:=h.le
 go_enter Tryz.func138,Tryz.ntmps138
 go_wp2_with (go_at_call 165;refine HC.out.mono ?_)
 rintro e w1 ⟨rfl,hk,l,v,hl,hB,hb1,hown,hO,hne⟩
 have HB:=Lib.hid hb1
 have HL:=Lib.hid hl
 have HO:=Lib.hid hO
 have c0:w1.cell? ⟨b,0,none⟩=some (.pointer (some ⟨b,0,none⟩)):=by simp [World.cell?,hb1]
 have c1:w1.cell? ⟨b,1,none⟩=some v:=by simp [World.cell?,hb1]
 clear hb1 hl hO
 have hsz:=hk.size
 go_wp2_with (at_builtin;refine aH5 rfl _ _ rfl B v _ _ rfl hown s rfl (by rw [HL.out];exact hn) (by omega) ?_)
 intro v' w2 hown' hgrow hat
 have hb2:w2.heap[b]?=some (.cells #[.pointer (some ⟨b,0,none⟩),v] 206 (0,0)):=by
  rw [hgrow.block b (ay7 HB.out) (fun e=>hne (HO.out ▸ e.symm))];exact HB.out
 have d1:w2.cell? ⟨b,1,none⟩=some v:=by simp [World.cell?,hb2]
 have d0:w2.cell? ⟨b,0,none⟩=some (.pointer (some ⟨b,0,none⟩)):=by simp [World.cell?,hb2]
 have f1:w2.frozen? ⟨b,1,none⟩=false:=by simp [World.frozen?,hb2]
 clear hb2
 have HW:Hid (Wrote w (w2.setCell ⟨b,1,none⟩ v') B b (n+s.size) O):=by
  refine wrote_of (l:=l ++ s.data.toList) hk ?_ hB HB.out HO.out hne ?_ hgrow ?_
  ·rw [List.length_append,HL.out];rfl
  ·rw [← az3,← aS0,← HL.out];exact hown'
  ·rcases hat with h|h
   ·exact .inl h
   ·exact .inr ⟨_,h,Nat.le_refl _⟩
 obtain ⟨ao,n',cap,rfl⟩:∃ ao n' cap,v' = .slice ao n' cap:=by
  rcases hown'.2 with ⟨hv,h0⟩|⟨g,cap,cur,hv,_⟩
  ·exact ⟨_,_,_,hv⟩
  ·exact ⟨_,_,_,hv⟩
 clear hown hown' hgrow hat
 go_wp2
 go_ret2
 exact ⟨rfl,HW.out⟩
theorem aV8 {w:World} {B b n:Nat} {O:Option Nat} (h:Bld w B b n O) (c:UInt8) (hn:n+1≤140737488355328) :
  Calls Tryz.prog 166 #[.pointer (some ⟨b,0,none⟩),.int .u8 c.toNat] w fun e w'=>e = .returned .nilIface∧Wrote w w' B b (n+1) O:=by
 have HC:=Lib.hid (aH1 h)
 have hBw:=h.le
 obtain ⟨i0,hi,hz0,hz1,hz2⟩:=info_parts infoByte
 go_enter Tryz.func166,Tryz.ntmps166
 go_wp2_with (go_at_call 165;refine HC.out.mono ?_)
 rintro e w1 ⟨rfl,hk,l,v,hl,hB,hb1,hown,hO,hne⟩
 have HB:=Lib.hid hb1
 have HL:=Lib.hid hl
 have HO:=Lib.hid hO
 have c0:w1.cell? ⟨b,0,none⟩=some (.pointer (some ⟨b,0,none⟩)):=by simp [World.cell?,hb1]
 have c1:w1.cell? ⟨b,1,none⟩=some v:=by simp [World.cell?,hb1]
 have hlt:=ay7 hb1
 clear hb1 hl hO
 have hsz:=hk.size
 go_wp2_with (at_builtin;refine wpList_append_own_at _ rfl _ _ 204 rfl B 5 i0 (.int .u8 0) 1 1 Tryz.underlying204 hi hz0 hz1 hz2 rfl (by decide) v _ _ rfl (hown.alloc _) ⟨w1.heap.size,0,none⟩ 1 1 [.int .u8 c.toNat] rfl rfl ?c1 ?c2 ?c3 ?c4 ?c5 ?_)
 case c1=>exact cell_one_new _ _ _
 case c2=>simp [Value.oneCell']
 case c3=>unfold maxLen;rw [HL.out];omega
 case c4=>rw [HL.out];omega
 case c5=>simp;omega
 intro v' w2 hown' hgrow _ hat
 have hb1':(w1.alloc (.cells #[.int .u8 c.toNat] 5)).heap[b]?=some (.cells #[.pointer (some ⟨b,0,none⟩),v] 206 (0,0)):=by
  rw [Below.heap_alloc _ _ _ hlt];exact HB.out
 have hb2:w2.heap[b]?=some (.cells #[.pointer (some ⟨b,0,none⟩),v] 206 (0,0)):=by
  rw [hgrow.block b (ay7 hb1') (fun e=>hne (HO.out ▸ e.symm))];exact hb1'
 have d1:w2.cell? ⟨b,1,none⟩=some v:=by simp [World.cell?,hb2]
 have d0:w2.cell? ⟨b,0,none⟩=some (.pointer (some ⟨b,0,none⟩)):=by simp [World.cell?,hb2]
 have f1:w2.frozen? ⟨b,1,none⟩=false:=by simp [World.frozen?,hb2]
 clear hb2
 have HW:Hid (Wrote w (w2.setCell ⟨b,1,none⟩ v') B b (n+1) O):=by
  refine wrote_of (l:=l ++ [c]) (hk.alloc _) ?_ hB hb1' HO.out hne ?_ hgrow ?_
  ·rw [List.length_append,HL.out];rfl
  ·rw [← az3,← HL.out];exact hown'
  ·rcases hat with h|h
   ·exact .inl h
   ·exact .inr ⟨_,h,by simp⟩
 clear hb1'
 obtain ⟨ao,n',cap,rfl⟩:∃ ao n' cap,v' = .slice ao n' cap:=by
  rcases hown'.2 with ⟨hv,h0⟩|⟨g,cap,cur,hv,_⟩
  ·exact ⟨_,_,_,hv⟩
  ·exact ⟨_,_,_,hv⟩
 clear hown hown' hgrow hat
 go_wp2
 go_ret
 exact ⟨rfl,HW.out⟩
theorem aM9 {w:World} {B b n:Nat} {O:Option Nat} (h:Bld w B b n O) (hn:n+1≤140737488355328) :
  Calls Tryz.prog 166 #[.pointer (some ⟨b,0,none⟩),.int .u8 32] w fun e w'=>e = .returned .nilIface∧Wrote w w' B b (n+1) O:=aV8 h 32 hn
end
end Go.Proofs.YtjbbmjjildhfbaaGreatDoor
