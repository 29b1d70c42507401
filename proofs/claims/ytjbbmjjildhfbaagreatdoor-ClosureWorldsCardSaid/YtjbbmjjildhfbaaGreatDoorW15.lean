/- A part of the proof: Bn. -/
import Derived.Test.YtjbbmjjildhfbaaGreatDoorW14
set_option maxRecDepth 100000
set_option maxHeartbeats 4000000
set_option linter.unusedVariables false
set_option linter.unusedSimpArgs false
namespace Go.Proofs.YtjbbmjjildhfbaaGreatDoor
section
open Go Go.RowKit Go.Shelf
theorem tdiv_i64 {a:Int} (h:I64n a) (k:Int) (hk:1≤k):I64n (a.tdiv k):=by
 have h1:=Int.natAbs_tdiv_le_natAbs a k
 obtain ⟨h2,h3⟩:=h
 unfold I64n
 have h4:(-a).tdiv k = -(a.tdiv k):=Int.neg_tdiv a k
 by_cases h0:0≤a
 ·have:=Int.tdiv_nonneg h0 (show 0≤k by omega)
  omega
 ·have:=Int.tdiv_nonneg (show 0 ≤ -a by omega) (show 0≤k by omega)
  omega
abbrev nNob:ByteArray:=⟨#[110,111,98,111,100,121]⟩
abbrev nMore:ByteArray:=⟨#[109,111,114,101]⟩
abbrev RK (ks:List Knd) (v:Value) (s:aa1):Prop:=RowIs 97 4 (ks.map kndC) v s
abbrev RFl (l:List Fld) (v:Value) (s:aa1):Prop:=RowIs 111 8 (l.map fldC) v s
abbrev RRl (l:List Rul) (v:Value) (s:aa1):Prop:=RowIs 105 5 (l.map rulC) v s
abbrev RNm (l:List ByteArray) (v:Value) (s:aa1):Prop:=RowIs 9 1 (l.map fun s=>[sD s]) v s
abbrev bxB (b:Nat) (x:Sch) (kv rv:Value):Nat × Blk:=(b,.cells 43 [iD x.version,.v kv,slL x.lives,.v rv])
theorem one_k (l:List Knd):((l.map kndC).all fun y=>y.all oneD)=true:=by rw [List.all_eq_true];intro y hy;obtain ⟨f,_,rfl⟩:=List.mem_map.1 hy;rfl
theorem one_r (l:List Rul):((l.map rulC).all fun y=>y.all oneD)=true:=by rw [List.all_eq_true];intro y hy;obtain ⟨f,_,rfl⟩:=List.mem_map.1 hy;rfl
theorem ap1 {R:D→aa1→Prop} {x:Sch} {σ ρ sk sr:aa1} {ks:List Knd} {rs:List Rul} {v1 v2:Value} (hk:RK ks v1 sk) (hr:RRl rs v2 sr) (hp:σ.Perm (sk ++ (sr ++ ρ))) (k:R (schD ⟨x.version,ks,x.lives,rs⟩) []):Rt R (.agg [iD x.version,.v v1,slL x.lives,.v v2]) σ:=
 Rt.by (σ':=[]) (Vs.vd ⟨σ,by rw [List.append_nil]⟩ (Vd.agg (.cons (Vd.same (fun z hz=>by cases hz) _) (.cons (Vd.row hk hp (fun z hz=>by cases hz)) (.cons (Vd.same (fun z hz=>by cases hz) _) (.cons (Vd.row (ρ:=sk ++ ρ) hr (hp.trans (by rw [← List.append_assoc,← List.append_assoc];exact List.perm_append_comm.append_right _)) (fun z hz=>by cases hz)) .nil)))))) k
theorem sb31 {A B:Prop} (k:B) (h:Hd7 B→A:=by intro hk7q;(first|fail|fail|((with_reducible refine Dr.l ?h ?_);(case h=>decide +kernel))|(with_reducible refine Dr.r ?_)|((with_reducible refine Dm.l ?h ?_);(case h=>decide +kernel))|((with_reducible refine Cb.go ?h ?_);(case h=>decide +kernel)));exact hk7q.run):A:=h ⟨k⟩
theorem sk32 {A B:Prop} (k:B) (h:Hd7 B→A:=by intro hk7q;(first|refine sb0 ?_|refine sb31 ?_|((with_reducible refine' Cp.by ?hc ?_);(case hc=>first|exact aa5 at_ _ hat|exact aa5 by_ _ hby|exact aa5 (at_.tdiv 5) _ h5i|exact aa5 (by_.tdiv 7) _ h7i))|((with_reducible refine' CE.pure ?hc ?_);(case hc=>first|exact aa5 at_ _ hat|exact aa5 by_ _ hby|exact aa5 (at_.tdiv 5) _ h5i|exact aa5 (by_.tdiv 7) _ h7i)));exact hk7q.run):A:=h ⟨k⟩
theorem sb33 {A B:Prop} (k:B) (h:Hd7 B→A:=by intro hk7q;(first|fail|(with_reducible refine Bx.l ?_)|((with_reducible refine Dr.l ?h ?_);(case h=>decide +kernel))|(with_reducible refine Dr.r ?_)|((with_reducible refine Dm.l ?h ?_);(case h=>decide +kernel))|((with_reducible refine Cb.go ?h ?_);(case h=>decide +kernel)));exact hk7q.run):A:=h ⟨k⟩
theorem sk34 {A B:Prop} (k:B) (h:Hd7 B→A:=by intro hk7q;(first|refine sb0 ?_|refine sb33 ?_|((with_reducible refine' Cp.by ?hc ?_);(case hc=>first|exact aa5 at_ _ hat|exact aa5 by_ _ hby|exact aa5 (at_.tdiv 5) _ h5i|exact aa5 (by_.tdiv 7) _ h7i))|((with_reducible refine' CE.pure ?hc ?_);(case hc=>first|exact aa5 at_ _ hat|exact aa5 by_ _ hby|exact aa5 (at_.tdiv 5) _ h5i|exact aa5 (by_.tdiv 7) _ h7i)));exact hk7q.run):A:=h ⟨k⟩
theorem sk35 {A B:Prop} (k:B) (h:Hd7 B→A:=by intro hk7q;(first|refine sb0 ?_|refine sb8 ?_|((with_reducible refine' Cp.by ?hc ?_);(case hc=>first|exact aa5 at_ _ hat|exact aa5 by_ _ hby|exact aa5 (at_.tdiv 5) _ h5i|exact aa5 (by_.tdiv 7) _ h7i))|((with_reducible refine' CE.pure ?hc ?_);(case hc=>first|exact aa5 at_ _ hat|exact aa5 by_ _ hby|exact aa5 (at_.tdiv 5) _ h5i|exact aa5 (by_.tdiv 7) _ h7i)));exact hk7q.run):A:=h ⟨k⟩
theorem sk36 {A B:Prop} (k:B) (h:Hd7 B→A:=by intro hk7q;(first|refine sb0 ?_|refine sb5 ?_|((with_reducible refine' Cp.by ?hc ?_);(case hc=>first|exact aa5 at_ _ hat|exact aa5 by_ _ hby|exact aa5 (at_.tdiv 5) _ h5i|exact aa5 (by_.tdiv 7) _ h7i))|((with_reducible refine' CE.pure ?hc ?_);(case hc=>first|exact aa5 at_ _ hat|exact aa5 by_ _ hby|exact aa5 (at_.tdiv 5) _ h5i|exact aa5 (by_.tdiv 7) _ h7i)));exact hk7q.run):A:=h ⟨k⟩
theorem sb37 {A B:Prop} (k:B) (h:Hd7 B→A:=by intro hk7q;(first|(with_reducible refine Bc.l ?_)|fail|((with_reducible refine Dr.l ?h ?_);(case h=>decide +kernel))|((with_reducible refine Cb.go ?h ?_);(case h=>decide +kernel)));exact hk7q.run):A:=h ⟨k⟩
theorem sk38 {A B:Prop} (k:B) (h:Hd7 B→A:=by intro hk7q;(first|refine sb0 ?_|refine sb37 ?_|((with_reducible refine' Cp.by ?hc ?_);(case hc=>first|exact aa5 at_ _ hat|exact aa5 by_ _ hby|exact aa5 (at_.tdiv 5) _ h5i|exact aa5 (by_.tdiv 7) _ h7i))|((with_reducible refine' CE.pure ?hc ?_);(case hc=>first|exact aa5 at_ _ hat|exact aa5 by_ _ hby|exact aa5 (at_.tdiv 5) _ h5i|exact aa5 (by_.tdiv 7) _ h7i)));exact hk7q.run):A:=h ⟨k⟩
theorem sb39 {A B:Prop} (k:B) (h:Hd7 B→A:=by intro hk7q;(first|(with_reducible refine Bc.l ?_)|(with_reducible refine Bx.l ?_)|(with_reducible refine Dr.r ?_)|((with_reducible refine Dm.l ?h ?_);(case h=>decide +kernel))|((with_reducible refine Cb.go ?h ?_);(case h=>decide +kernel)));exact hk7q.run):A:=h ⟨k⟩
theorem sk40 {A B:Prop} (k:B) (h:Hd7 B→A:=by intro hk7q;(first|refine sb0 ?_|refine sb39 ?_|((with_reducible refine' Cp.by ?hc ?_);(case hc=>first|exact aa5 at_ _ hat|exact aa5 by_ _ hby|exact aa5 (at_.tdiv 5) _ h5i|exact aa5 (by_.tdiv 7) _ h7i))|((with_reducible refine' CE.pure ?hc ?_);(case hc=>first|exact aa5 at_ _ hat|exact aa5 by_ _ hby|exact aa5 (at_.tdiv 5) _ h5i|exact aa5 (by_.tdiv 7) _ h7i)));exact hk7q.run):A:=h ⟨k⟩
theorem cl18 {p:Prop} (h:p:=by (refine ac3 fun a=>?_;simp only [bxB,zS,schC,slL,List.take_succ_cons,List.take_zero,List.drop_succ_cons,List.drop_zero,List.cons_append,List.append_eq,List.nil_append,ac4,ae7,af1,sD,iD,bD] <;> omega)):p:=h
theorem cl19 {p:Prop} (h:p:=by (refine ac3 fun a=>?_;simp only [bxB,zS,schC,slL,List.take_succ_cons,List.take_zero,List.drop_succ_cons,List.drop_zero,List.cons_append,List.append_eq,List.nil_append,ac4,ae7,af1,sD,iD,bD] <;> omega)):p:=h
theorem cl20 {p:Prop} (h:p:=by rw [show 0+((i:Nat):Int).toNat*4+3=i*4+3 by simp];exact hidx):p:=h
theorem cl21 {p:Prop} (h:p:=by rw [show 0+((i:Nat):Int).toNat*4+3=i*4+3 by simp]):p:=h
theorem cl22 {p:Prop} (h:p:=by (refine ac3 fun a=>?_;simp only [bxB,zS,fldC,kndC,rulC,sD,iD,slS,slI,slF,List.cons_append,List.append_eq,List.nil_append,ac4,ae7,af1] <;> omega)):p:=h
theorem cl23 {p:Prop} (h:p:=by first|exact List.Perm.refl _|((refine ac3 fun a=>?_;simp only [bxB,zS,fldC,kndC,rulC,sD,iD,slS,slI,slF,List.cons_append,List.append_eq,List.nil_append,ac4,ae7,af1] <;> omega))):p:=h
theorem cl24 {p:Prop} (h:p:=by first|(simp only [List.set_cons_succ,List.set_cons_zero,spl,ah8,mkD,List.take_succ_cons,List.take_zero,List.drop_succ_cons,List.drop_zero,List.length_cons,List.length_nil,List.nil_append,List.cons_append,Nat.reduceAdd,Nat.zero_add,List.append_nil,List.map_cons,List.map_nil];rfl)|rfl):p:=h
theorem r10_bent (x:Sch) (h:Cls x) (h1:1≤x.kinds.length) (hr2:x.rules.length≤2) (at_ how by_:Int) (hat:I64n at_) (hhow:I64n how) (hby:I64n by_):ACall Tryz.prog 38 [schD x,iD at_,iD how,iD by_] [] (fun d σ=>∃ y,d=schD y∧σ=[]∧Cls y):=by
 have hnk:=h.nk
 refine aa3 mixed aa0 Tryz.func38 (by kernel_rfl) rfl Tryz.ntmps38 rfl ?_;intro BB
 repeat' (first|refine sk32 ?_|(intro b;conv=>whnf))
 refine Bx.r (OtE.box rfl rfl (fun b4=>?_))
 have ha:=aA9 at_ x.kinds.length
 have ha':=ha.2.1 (by omega)
 obtain ⟨i,hi⟩:∃ i:Nat,arE at_ x.kinds.length=i:=⟨(arE at_ x.kinds.length).toNat,by omega⟩
 obtain ⟨k,hk⟩:∃ k,x.kinds[i]?=some k:=⟨_,List.getElem?_eq_getElem (by omega)⟩
 have hck:=h.ks k (List.mem_of_getElem? hk)
 repeat' (first|refine sk34 ?_|(intro b;conv=>whnf))
 rename_i b8
 refine Ap.go rfl rfl rfl rfl (RowIs.e0 97 4 (some ⟨b,0,none⟩)) (List.Perm.refl ([] ++ _)) (one_k x.kinds) (zs:=x.kinds.map kndC) rfl (by simp;omega) (by simp;omega) (fun s'=>(b4,.cells 43 (schC x)) :: (b8,.cells 43 zS) :: s') (fun s'=>cl18) (fun a1 c1 sk hkr=>?_)
 obtain ⟨a1,c1,e1⟩:∃ a c,Value.slice a1 (x.kinds.map kndC).length c1=Value.slice a x.kinds.length c:=⟨a1,c1,by rw [List.length_map]⟩
 rw [e1] at hkr ⊢
 repeat' (first|refine sk34 ?_|(intro b;conv=>whnf))
 refine Ap.go rfl rfl rfl rfl (RowIs.e0 105 5 (some ⟨b,0,none⟩)) (List.Perm.refl ([] ++ _)) (one_r x.rules) (zs:=x.rules.map rulC) rfl (by simp;omega) (by simp;omega) (fun s'=>(b4,.cells 43 [iD x.version,.v (.slice a1 x.kinds.length c1),slL x.lives,slR x.rules]) :: (b8,.cells 43 zS) :: (s' ++ sk)) (fun s'=>cl18) (fun a2 c2 sr hrr=>?_)
 obtain ⟨a2,c2,e2⟩:∃ a c,Value.slice a2 (x.rules.map rulC).length c2=Value.slice a x.rules.length c:=⟨a2,c2,by rw [List.length_map]⟩
 rw [e2] at hrr ⊢
 repeat' (first|refine sk34 ?_|(intro b;conv=>whnf))
 refine Bc.l ?_
 obtain ⟨b2,cap2,cs2,e2,rfl,hcs⟩:=RowIs.get hkr (show (x.kinds.map kndC)[i]?=some (kndC k) by rw [List.getElem?_map,hk];rfl)
 rw [List.length_map] at e2
 cases e2
 have hc3:cs2[i*4+3]?=some (slF k.fields):=hcs 3 (by omega)
 repeat' (first|refine sk34 ?_|(intro b;conv=>whnf))
 rw [hi]
 repeat' (first|refine sk34 ?_|(intro b;conv=>whnf))
 refine Ld.cellm (tb:=97) (cs:=cs2) (by simp) (by rw [show 0+((i:Nat):Int).toNat*4+3=i*4+3 by simp];exact hc3) ?_
 have hnf:=hck.nf
 repeat' (first|refine sk34 ?_|(intro b;conv=>whnf))
 refine Ap.go rfl rfl rfl rfl (RowIs.e0 111 8 (some ⟨b,0,none⟩)) (List.Perm.refl ([] ++ _)) (bg1 k.fields) (zs:=k.fields.map fldC) rfl (by simp;omega) (by simp;omega) (fun s'=>bxB b4 x (.slice (some ⟨b2,0,none⟩) x.kinds.length c1) (.slice a2 x.rules.length c2) :: (b8,.cells 43 zS) :: (s' ++ (sr ++ [(b2,.cells 97 cs2)]))) (fun s'=>cl18) (fun a3 c3 sl hfr=>?_)
 obtain ⟨a3,c3,e3⟩:∃ a c,Value.slice a3 (k.fields.map fldC).length c3=Value.slice a k.fields.length c:=⟨a3,c3,by rw [List.length_map]⟩
 rw [e3] at hfr ⊢
 have hb:=aA9 by_ x.kinds.length
 have hb':=hb.2.1 (by omega)
 obtain ⟨i2,hi2⟩:∃ i:Nat,arE by_ x.kinds.length=i:=⟨(arE by_ x.kinds.length).toNat,by omega⟩
 obtain ⟨k2,hk2⟩:∃ k,x.kinds[i2]?=some k:=⟨_,List.getElem?_eq_getElem (by omega)⟩
 obtain ⟨k0,hk0⟩:∃ k,x.kinds[0]?=some k:=⟨_,List.getElem?_eq_getElem (by omega)⟩
 have hn2:cs2[i2*4+0]?=some (sD k2.name):=by
  obtain ⟨b',cap',cs',e',e'',hcs'⟩:=RowIs.get hkr (show (x.kinds.map kndC)[i2]?=some (kndC k2) by rw [List.getElem?_map,hk2];rfl)
  have:cs'=cs2:=by have:=(List.cons.inj e'').1;simp at this;exact this.2.symm
  subst this;exact hcs' 0 (by omega)
 have hn0:cs2[0*4+0]?=some (sD k0.name):=by
  obtain ⟨b',cap',cs',e',e'',hcs'⟩:=RowIs.get hkr (show (x.kinds.map kndC)[0]?=some (kndC k0) by rw [List.getElem?_map,hk0];rfl)
  have:cs'=cs2:=by have:=(List.cons.inj e'').1;simp at this;exact this.2.symm
  subst this;exact hcs' 0 (by omega)
 have hz2:=(h.ks k2 (List.mem_of_getElem? hk2)).nm
 have hz0:=(h.ks k0 (List.mem_of_getElem? hk0)).nm
 repeat' (first|refine sk35 ?_|(intro b;conv=>whnf))
 refine Dr.r ?_
 refine W.mk ?_
 refine lp_ordB mixed aa0 rfl [0,1,2,3,4,5,6,7,8,9,10,11,12,13,14] 2 (.one 15 (.one 16 .done)) (γ:=Nat) (fun g=>[(11,.v (.slice (some ⟨g,0,none⟩) 4 4))]) (fun g=>(g,.cells 9 [sD nE,sD nNob,sD k2.name,sD k0.name]) :: bxB b4 x (.slice (some ⟨b2,0,none⟩) x.kinds.length c1) (.slice a2 x.rules.length c2) :: (b8,.cells 43 zS) :: (sl ++ (sr ++ [(b2,.cells 97 cs2)]))) (fun _=>True) (by decide +kernel) ?_ ?_
 ·repeat' (first|refine sk35 ?_|(intro b;conv=>whnf)|(refine Ld.cellm (tb:=97) (cs:=cs2) (by simp) (by rw [hi2,show 0+((i2:Nat):Int).toNat*4+0=i2*4+0 by simp];exact hn2) ?_)|(refine Ld.cellm (tb:=97) (cs:=cs2) (by simp) (by rw [show 0+(0:Int).toNat*4+0=0*4+0 by simp];exact hn0) ?_))
  refine OtE.bsl aa0 rfl rfl rfl rfl rfl rfl rfl rfl rfl rfl (by decide) (fun b11=>?_)
  repeat' (first|refine sk35 ?_|(intro b;conv=>whnf))
  exact ⟨b11,(aa2 cl2),Sc.refl _,trivial⟩
 ·rintro b11 -
  have hnr:RNm [nE,nNob,k2.name,k0.name] (.slice (some ⟨b11,0,none⟩) 4 4) [(b11,.cells 9 [sD nE,sD nNob,sD k2.name,sD k0.name])]:=
   ⟨fun y hy=>by obtain ⟨z,_,rfl⟩:=List.mem_map.1 hy;rfl,.inr ⟨b11,4,[],rfl,rfl,by simp,by unfold maxLen;omega,rfl,fun d hd=>by cases hd⟩⟩
  repeat' (first|refine sk35 ?_|(intro b;conv=>whnf))
  refine ay8 mixed aa0 (γ:=Nat × List ByteArray × Value × aa1) (fun g=>[(11,.v g.2.2.1),(12,iD g.1)]) (fun g=>bxB b4 x (.slice (some ⟨b2,0,none⟩) x.kinds.length c1) (.slice a2 x.rules.length c2) :: (b8,.cells 43 zS) :: (sl ++ (g.2.2.2 ++ (sr ++ [(b2,.cells 97 cs2)])))) (fun g=>g.1≤k.fields.length∧g.2.1.length=4+g.1∧(∀ s∈g.2.1,s.size≤12)∧RNm g.2.1 g.2.2.1 g.2.2.2) (fun g=>k.fields.length - g.1) (0,[nE,nNob,k2.name,k0.name],_,_) (aa2 cl2) (Sc.perm cl19) ⟨Nat.zero_le _,rfl,fun s hs=>by
   simp only [List.mem_cons,List.not_mem_nil,or_false] at hs
   rcases hs with rfl|rfl|rfl|rfl
   ·decide
   ·decide
   ·exact hz2.2
   ·exact hz0.2,hnr⟩ ?_
  clear hnr
  rintro ⟨q,nm,nv,sn⟩ ⟨hq,hnl,hns,hnr⟩
  simp only at hq hnl hns hnr ⊢
  obtain ⟨a4,c4,e4⟩:=hnr.slice
  rw [List.length_map] at e4
  subst e4
  by_cases hqn:q<k.fields.length
  ·obtain ⟨f,hf⟩:∃ f,k.fields[q]?=some f:=⟨_,List.getElem?_eq_getElem hqn⟩
   obtain ⟨b3,cap3,cs3,e3,e3s,hcs3⟩:=RowIs.get hfr (show (k.fields.map fldC)[q]?=some (fldC f) by rw [List.getElem?_map,hf];rfl)
   rw [List.length_map] at e3
   cases e3
   subst e3s
   have hfn:cs3[q*8+0]?=some (sD f.name):=hcs3 0 (by omega)
   repeat' (first|refine sk36 ?_|(intro b;conv=>whnf))
   refine Ld.cellm (tb:=111) (cs:=cs3) (by simp) (by rw [show 0+((q:Nat):Int).toNat*8+0=q*8+0 by simp];exact hfn) ?_
   repeat' (first|refine sk36 ?_|(intro b;conv=>whnf))
   refine Ap.go rfl rfl rfl rfl hnr (τ:=bxB b4 x (.slice (some ⟨b2,0,none⟩) x.kinds.length c1) (.slice a2 x.rules.length c2) :: (b8,.cells 43 zS) :: ([(b3,.cells 111 cs3)] ++ (sr ++ [(b2,.cells 97 cs2)]))) cl19 rfl (zs:=(nm ++ [f.name]).map fun s=>[sD s]) (by rw [List.map_append];rfl) (by simp;omega) (by simp;omega) (fun s'=>bxB b4 x (.slice (some ⟨b2,0,none⟩) x.kinds.length c1) (.slice a2 x.rules.length c2) :: (b8,.cells 43 zS) :: ([(b3,.cells 111 cs3)] ++ (s' ++ (sr ++ [(b2,.cells 97 cs2)])))) (fun s'=>cl18) (fun a5 c5 s5 hr5=>?_)
   repeat' (first|refine sk36 ?_|(intro b;conv=>whnf))
   refine ⟨(q+1,nm ++ [f.name],_,s5),(aa2 cl7),Sc.refl _,⟨by simp only;omega,by simp only [List.length_append,List.length_singleton];omega,fun s hs=>?_,hr5⟩,by simp only;omega⟩
   rcases List.mem_append.1 hs with h|h
   ·exact hns s h
   ·rw [List.mem_singleton] at h;subst h;exact (hck.fs f (List.mem_of_getElem? hf)).nm
  ·obtain rfl:q=k.fields.length:=by omega
   have hb3:=aA9 by_ nm.length
   have hb3':=hb3.2.1 (by omega)
   obtain ⟨i3,hi3⟩:∃ i:Nat,arE by_ nm.length=i:=⟨(arE by_ nm.length).toNat,by omega⟩
   obtain ⟨nj,hnj⟩:∃ s,nm[i3]?=some s:=⟨_,List.getElem?_eq_getElem (by omega)⟩
   have hnjs:=hns nj (List.mem_of_getElem? hnj)
   obtain ⟨b11,cap11,cs11,e11,rfl,hcs11⟩:=RowIs.get hnr (show (nm.map fun s=>[sD s])[i3]?=some [sD nj] by rw [List.getElem?_map,hnj];rfl)
   rw [List.length_map] at e11
   cases e11
   have hnc:cs11[i3*1+0]?=some (sD nj):=hcs11 0 (by omega)
   repeat' (first|refine sk36 ?_|(intro b;conv=>whnf))
   refine Ld.cellm (tb:=9) (cs:=cs11) (by simp) (by rw [hi3,show 0+((i3:Nat):Int).toNat*1=i3*1+0 by simp];exact hnc) ?_
   have h5i:=tdiv_i64 hat 5 (by omega)
   obtain ⟨mx,hmx,hmx1,hmx2⟩:∃ q:Int,(if (k.fields.length:Int)<1 then 1 else (k.fields.length:Int))=q∧1≤q∧q≤10:=by
    by_cases h:(k.fields.length:Int)<1
    ·exact ⟨1,by rw [if_pos h],by omega,by omega⟩
    ·exact ⟨_,by rw [if_neg h],by omega,by omega⟩
   have hj:=aA9 (at_.tdiv 5) mx
   have hj':=hj.2.1 hmx1
   obtain ⟨jj,hjj⟩:∃ j:Nat,arE (at_.tdiv 5) mx=j:=⟨(arE (at_.tdiv 5) mx).toNat,by omega⟩
   repeat' (first|refine sk36 ?_|(intro b;conv=>whnf))
   refine Sd.go ⟨by decide,⟨h5i.1,h5i.2⟩⟩ ?_
   repeat' (first|refine sk36 ?_|(intro b;conv=>whnf))
   rw [hmx,hjj]
   refine CE.pure (aa5 how 9 hhow) ?_
   have h9:=aA9 how 9
   have h9':=h9.2.1 (by omega)
   have fin:∀ (ks:List Knd) (rs:List Rul),ks.length=x.kinds.length→(∀ k∈ks,CK k)→rs.length≤3→(∀ r∈rs,CR r)→Cls ⟨x.version,ks,x.lives,rs⟩:=fun ks rs g1 g2 g3 g4=>⟨h.ver,by show ks.length≤3;omega,g2,h.nl,h.ls,g3,g4⟩
   by_cases h5:arE how 9<5
   ·by_cases hjl:jj<k.fields.length
    ·obtain ⟨f,hf⟩:∃ f,k.fields[jj]?=some f:=⟨_,List.getElem?_eq_getElem hjl⟩
     have hcf:=hck.fs f (List.mem_of_getElem? hf)
     obtain ⟨b3,cap3,cs3,e3,e3s,hcs3⟩:=RowIs.get hfr (show (k.fields.map fldC)[jj]?=some (fldC f) by rw [List.getElem?_map,hf];rfl)
     rw [List.length_map] at e3
     cases e3
     subst e3s
     have hdef:True:=trivial
     by_cases q0:arE how 9=0
     ·have hf1:=RowIs.put1 (d:=sD nj) hfr (show (k.fields.map fldC)[jj]?=some (fldC f) by rw [List.getElem?_map,hf];rfl) (show 1<8 by omega)
      have e1:(k.fields.map fldC).set jj ((fldC f).set 1 (sD nj))=(k.fields.set jj ⟨f.name,nj,f.up,f.kind,f.lo,f.hi,f.words,f.weights⟩).map fldC:=by rw [List.map_set];rfl
      rw [e1] at hf1
      have hc1:CF ⟨f.name,nj,f.up,f.kind,f.lo,f.hi,f.words,f.weights⟩:=⟨hcf.nm,hnjs,hcf.up,hcf.nw,hcf.wd,hcf.ng,hcf.wt,hcf.kd,hcf.lo,hcf.hi⟩
      repeat' (first|refine sk36 ?_|(intro b;conv=>whnf))
      refine Sv.cellm (tb:=111) (cs:=cs3) (cs':=cs3.set (jj*8+1) (sD nj)) (τ:=bxB b4 x (.slice (some ⟨b2,0,none⟩) x.kinds.length c1) (.slice a2 x.rules.length c2) :: (b8,.cells 43 zS) :: ([(b11,.cells 9 cs11)] ++ (sr ++ [(b2,.cells 97 cs2)]))) cl19 (by rw [show 0+((jj:Nat):Int).toNat*8+1=jj*8+1 by simp];exact (List.getElem?_eq_some_iff.1 (hcs3 1 (by omega))).1) rfl (by rw [show 0+((jj:Nat):Int).toNat*8+1=jj*8+1 by simp]) ?_
      repeat' (first|refine sk36 ?_|(intro b;conv=>whnf))
      obtain ⟨l1,hl1,hc1,hf1⟩:∃ l1:List Fld,l1.length≤10∧(∀ f∈l1,CF f)∧l1.length=k.fields.length∧RFl l1 (.slice (some ⟨b3,0,none⟩) k.fields.length c3) [(b3,.cells 111 (cs3.set (jj*8+1) (sD nj)))]:=⟨_,by rw [List.length_set];exact hnf,fun g hg=>by
       rcases List.mem_or_eq_of_mem_set hg with h' | rfl
       ·exact hck.fs g h'
       ·exact hc1,List.length_set,hf1⟩
      obtain ⟨hll1,hf1⟩:=hf1
      rw [← hll1] at hf1 ⊢
      have hidx:=(List.getElem?_eq_some_iff.1 hc3).1
      have hfz:=Sc.frz (b:=b2) (t:=97) (τ:=bxB b4 x (.slice (some ⟨b2,0,none⟩) x.kinds.length c1) (.slice a2 x.rules.length c2) :: (b8,.cells 43 zS) :: ([(b11,.cells 9 cs11)] ++ ([] ++ sr))) (List.getElem?_set_self (a:=D.v (.slice (some ⟨b3,0,none⟩) l1.length c3)) hidx) hf1 (LeR.refl _)
      rw [List.set_set] at hfz
      change Sc _ ((b2,.cells 97 (cs2.set (i*4+3) (slF l1))) :: _) at hfz
      have hkr1:=RowIs.put1 (d:=slF l1) hkr (show (x.kinds.map kndC)[i]?=some (kndC k) by rw [List.getElem?_map,hk];rfl) (show 3<4 by omega)
      have hks1:(x.kinds.map kndC).set i ((kndC k).set 3 (slF l1))=(x.kinds.set i ⟨k.name,k.lo,k.hi,l1⟩).map kndC:=by rw [List.map_set];rfl
      rw [hks1] at hkr1
      have hck1:∀ k'∈x.kinds.set i ⟨k.name,k.lo,k.hi,l1⟩,CK k':=fun k' hk'=>by
       rcases List.mem_or_eq_of_mem_set hk' with h' | rfl
       ·exact h.ks k' h'
       ·exact ⟨hck.nm,hck.lo,hck.hi,hl1,hc1⟩
      have hkl1:(x.kinds.set i ⟨k.name,k.lo,k.hi,l1⟩).length=x.kinds.length:=List.length_set
      generalize x.kinds.set i ⟨k.name,k.lo,k.hi,l1⟩=ks1 at *
      refine Sv.cellm (tb:=97) (cs:=cs2) (cs':=cs2.set (i*4+3) (.v (.slice (some ⟨b3,0,none⟩) l1.length c3))) (τ:=bxB b4 x (.slice (some ⟨b2,0,none⟩) x.kinds.length c1) (.slice a2 x.rules.length c2) :: (b8,.cells 43 zS) :: ([(b3,Blk.cells 111 (cs3.set (jj*8+1) (sD nj)))] ++ ([(b11,.cells 9 cs11)] ++ ([] ++ sr)))) cl19 cl20 rfl cl21 ?_
      repeat' (first|refine sk35 ?_|(intro b;conv=>whnf))
      refine Bc.j ?_
      refine aC3 (τ:=bxB b4 x (.slice (some ⟨b2,0,none⟩) x.kinds.length c1) (.slice a2 x.rules.length c2) :: (b8,.cells 43 zS) :: ([(b11,.cells 9 cs11)] ++ (sr ++ [(b2,.cells 97 (cs2.set (i*4+3) (slF l1)))]))) ((Sc.perm cl19).trans (hfz.trans (Sc.drop (ρ:=[]) cl19))) ?_
      refine ay9 mixed aa0 ?_
      (((with_reducible refine W.mk ?_);(conv=>whnf)))
      refine Bc.l ?_
      generalize cs2.set (i*4+3) (slF l1)=cs4 at *
      repeat' (first|refine sk36 ?_|(intro b;conv=>whnf))
      refine Rs.c aa0 (m:=1) rfl rfl rfl rfl rfl rfl ?_
      repeat' (first|refine sk36 ?_|(intro b;conv=>whnf))
      exact ap1 (ρ:=bxB b4 x (.slice (some ⟨b2,0,none⟩) x.kinds.length c1) (.slice a2 x.rules.length c2) :: bxB b8 x (.slice (some ⟨b2,0,none⟩) x.kinds.length c1) (.slice a2 x.rules.length c2) :: [(b11,.cells 9 cs11)]) hkr1 hrr cl19 ⟨_,rfl,rfl,fin ks1 x.rules hkl1 hck1 (by omega) h.rs⟩
     by_cases q1:arE how 9=1
     ·have hf1:=RowIs.put1 (d:=sD nj) hfr (show (k.fields.map fldC)[jj]?=some (fldC f) by rw [List.getElem?_map,hf];rfl) (show 2<8 by omega)
      have e1:(k.fields.map fldC).set jj ((fldC f).set 2 (sD nj))=(k.fields.set jj ⟨f.name,f.of,nj,f.kind,f.lo,f.hi,f.words,f.weights⟩).map fldC:=by rw [List.map_set];rfl
      rw [e1] at hf1
      have hc1:CF ⟨f.name,f.of,nj,f.kind,f.lo,f.hi,f.words,f.weights⟩:=⟨hcf.nm,hcf.of,hnjs,hcf.nw,hcf.wd,hcf.ng,hcf.wt,hcf.kd,hcf.lo,hcf.hi⟩
      repeat' (first|refine sk36 ?_|(intro b;conv=>whnf))
      refine Sv.cellm (tb:=111) (cs:=cs3) (cs':=cs3.set (jj*8+2) (sD nj)) (τ:=bxB b4 x (.slice (some ⟨b2,0,none⟩) x.kinds.length c1) (.slice a2 x.rules.length c2) :: (b8,.cells 43 zS) :: ([(b11,.cells 9 cs11)] ++ (sr ++ [(b2,.cells 97 cs2)]))) cl19 (by rw [show 0+((jj:Nat):Int).toNat*8+2=jj*8+2 by simp];exact (List.getElem?_eq_some_iff.1 (hcs3 2 (by omega))).1) rfl (by rw [show 0+((jj:Nat):Int).toNat*8+2=jj*8+2 by simp]) ?_
      repeat' (first|refine sk36 ?_|(intro b;conv=>whnf))
      obtain ⟨l1,hl1,hc1,hf1⟩:∃ l1:List Fld,l1.length≤10∧(∀ f∈l1,CF f)∧l1.length=k.fields.length∧RFl l1 (.slice (some ⟨b3,0,none⟩) k.fields.length c3) [(b3,.cells 111 (cs3.set (jj*8+2) (sD nj)))]:=⟨_,by rw [List.length_set];exact hnf,fun g hg=>by
       rcases List.mem_or_eq_of_mem_set hg with h' | rfl
       ·exact hck.fs g h'
       ·exact hc1,List.length_set,hf1⟩
      obtain ⟨hll1,hf1⟩:=hf1
      rw [← hll1] at hf1 ⊢
      have hidx:=(List.getElem?_eq_some_iff.1 hc3).1
      have hfz:=Sc.frz (b:=b2) (t:=97) (τ:=bxB b4 x (.slice (some ⟨b2,0,none⟩) x.kinds.length c1) (.slice a2 x.rules.length c2) :: (b8,.cells 43 zS) :: ([(b11,.cells 9 cs11)] ++ ([] ++ sr))) (List.getElem?_set_self (a:=D.v (.slice (some ⟨b3,0,none⟩) l1.length c3)) hidx) hf1 (LeR.refl _)
      rw [List.set_set] at hfz
      change Sc _ ((b2,.cells 97 (cs2.set (i*4+3) (slF l1))) :: _) at hfz
      have hkr1:=RowIs.put1 (d:=slF l1) hkr (show (x.kinds.map kndC)[i]?=some (kndC k) by rw [List.getElem?_map,hk];rfl) (show 3<4 by omega)
      have hks1:(x.kinds.map kndC).set i ((kndC k).set 3 (slF l1))=(x.kinds.set i ⟨k.name,k.lo,k.hi,l1⟩).map kndC:=by rw [List.map_set];rfl
      rw [hks1] at hkr1
      have hck1:∀ k'∈x.kinds.set i ⟨k.name,k.lo,k.hi,l1⟩,CK k':=fun k' hk'=>by
       rcases List.mem_or_eq_of_mem_set hk' with h' | rfl
       ·exact h.ks k' h'
       ·exact ⟨hck.nm,hck.lo,hck.hi,hl1,hc1⟩
      have hkl1:(x.kinds.set i ⟨k.name,k.lo,k.hi,l1⟩).length=x.kinds.length:=List.length_set
      generalize x.kinds.set i ⟨k.name,k.lo,k.hi,l1⟩=ks1 at *
      refine Sv.cellm (tb:=97) (cs:=cs2) (cs':=cs2.set (i*4+3) (.v (.slice (some ⟨b3,0,none⟩) l1.length c3))) (τ:=bxB b4 x (.slice (some ⟨b2,0,none⟩) x.kinds.length c1) (.slice a2 x.rules.length c2) :: (b8,.cells 43 zS) :: ([(b3,Blk.cells 111 (cs3.set (jj*8+2) (sD nj)))] ++ ([(b11,.cells 9 cs11)] ++ ([] ++ sr)))) cl19 cl20 rfl cl21 ?_
      repeat' (first|refine sk35 ?_|(intro b;conv=>whnf))
      refine Bc.j ?_
      refine aC3 (τ:=bxB b4 x (.slice (some ⟨b2,0,none⟩) x.kinds.length c1) (.slice a2 x.rules.length c2) :: (b8,.cells 43 zS) :: ([(b11,.cells 9 cs11)] ++ (sr ++ [(b2,.cells 97 (cs2.set (i*4+3) (slF l1)))]))) ((Sc.perm cl19).trans (hfz.trans (Sc.drop (ρ:=[]) cl19))) ?_
      refine ay9 mixed aa0 ?_
      (((with_reducible refine W.mk ?_);(conv=>whnf)))
      refine Bc.l ?_
      generalize cs2.set (i*4+3) (slF l1)=cs4 at *
      repeat' (first|refine sk36 ?_|(intro b;conv=>whnf))
      refine Rs.c aa0 (m:=1) rfl rfl rfl rfl rfl rfl ?_
      repeat' (first|refine sk36 ?_|(intro b;conv=>whnf))
      exact ap1 (ρ:=bxB b4 x (.slice (some ⟨b2,0,none⟩) x.kinds.length c1) (.slice a2 x.rules.length c2) :: bxB b8 x (.slice (some ⟨b2,0,none⟩) x.kinds.length c1) (.slice a2 x.rules.length c2) :: [(b11,.cells 9 cs11)]) hkr1 hrr cl19 ⟨_,rfl,rfl,fin ks1 x.rules hkl1 hck1 (by omega) h.rs⟩
     by_cases q2:arE how 9=2
     ·have hf1:=RowIs.put1 (d:=sD nj) hfr (show (k.fields.map fldC)[jj]?=some (fldC f) by rw [List.getElem?_map,hf];rfl) (show 0<8 by omega)
      have e1:(k.fields.map fldC).set jj ((fldC f).set 0 (sD nj))=(k.fields.set jj ⟨nj,f.of,f.up,f.kind,f.lo,f.hi,f.words,f.weights⟩).map fldC:=by rw [List.map_set];rfl
      rw [e1] at hf1
      have hc1:CF ⟨nj,f.of,f.up,f.kind,f.lo,f.hi,f.words,f.weights⟩:=⟨hnjs,hcf.of,hcf.up,hcf.nw,hcf.wd,hcf.ng,hcf.wt,hcf.kd,hcf.lo,hcf.hi⟩
      repeat' (first|refine sk36 ?_|(intro b;conv=>whnf)|(with_reducible refine Br.d (fun hc=>?_) (fun hc=>?_))|(with_reducible refine Br.b (fun hc=>?_) (fun hc=>?_)))
      ·clear hf1
       obtain ⟨l1,hl1,hc1,hf1⟩:∃ l1:List Fld,l1.length≤10∧(∀ f∈l1,CF f)∧l1.length=k.fields.length∧RFl l1 (.slice (some ⟨b3,0,none⟩) k.fields.length c3) [(b3,.cells 111 cs3)]:=⟨k.fields,hnf,hck.fs,rfl,hfr⟩
       obtain ⟨hll1,hf1⟩:=hf1
       rw [← hll1] at hf1 ⊢
       have hidx:=(List.getElem?_eq_some_iff.1 hc3).1
       have hfz:=Sc.frz (b:=b2) (t:=97) (τ:=bxB b4 x (.slice (some ⟨b2,0,none⟩) x.kinds.length c1) (.slice a2 x.rules.length c2) :: (b8,.cells 43 zS) :: ([(b11,.cells 9 cs11)] ++ ([] ++ sr))) (List.getElem?_set_self (a:=D.v (.slice (some ⟨b3,0,none⟩) l1.length c3)) hidx) hf1 (LeR.refl _)
       rw [List.set_set] at hfz
       change Sc _ ((b2,.cells 97 (cs2.set (i*4+3) (slF l1))) :: _) at hfz
       have hkr1:=RowIs.put1 (d:=slF l1) hkr (show (x.kinds.map kndC)[i]?=some (kndC k) by rw [List.getElem?_map,hk];rfl) (show 3<4 by omega)
       have hks1:(x.kinds.map kndC).set i ((kndC k).set 3 (slF l1))=(x.kinds.set i ⟨k.name,k.lo,k.hi,l1⟩).map kndC:=by rw [List.map_set];rfl
       rw [hks1] at hkr1
       have hck1:∀ k'∈x.kinds.set i ⟨k.name,k.lo,k.hi,l1⟩,CK k':=fun k' hk'=>by
        rcases List.mem_or_eq_of_mem_set hk' with h' | rfl
        ·exact h.ks k' h'
        ·exact ⟨hck.nm,hck.lo,hck.hi,hl1,hc1⟩
       have hkl1:(x.kinds.set i ⟨k.name,k.lo,k.hi,l1⟩).length=x.kinds.length:=List.length_set
       generalize x.kinds.set i ⟨k.name,k.lo,k.hi,l1⟩=ks1 at *
       refine Sv.cellm (tb:=97) (cs:=cs2) (cs':=cs2.set (i*4+3) (.v (.slice (some ⟨b3,0,none⟩) l1.length c3))) (τ:=bxB b4 x (.slice (some ⟨b2,0,none⟩) x.kinds.length c1) (.slice a2 x.rules.length c2) :: (b8,.cells 43 zS) :: ([(b3,Blk.cells 111 cs3)] ++ ([(b11,.cells 9 cs11)] ++ ([] ++ sr)))) cl19 cl20 rfl cl21 ?_
       repeat' (first|refine sk35 ?_|(intro b;conv=>whnf))
       refine Bc.j ?_
       refine aC3 (τ:=bxB b4 x (.slice (some ⟨b2,0,none⟩) x.kinds.length c1) (.slice a2 x.rules.length c2) :: (b8,.cells 43 zS) :: ([(b11,.cells 9 cs11)] ++ (sr ++ [(b2,.cells 97 (cs2.set (i*4+3) (slF l1)))]))) ((Sc.perm cl19).trans (hfz.trans (Sc.drop (ρ:=[]) cl19))) ?_
       refine ay9 mixed aa0 ?_
       (((with_reducible refine W.mk ?_);(conv=>whnf)))
       refine Bc.l ?_
       generalize cs2.set (i*4+3) (slF l1)=cs4 at *
       repeat' (first|refine sk36 ?_|(intro b;conv=>whnf))
       refine Rs.c aa0 (m:=1) rfl rfl rfl rfl rfl rfl ?_
       repeat' (first|refine sk36 ?_|(intro b;conv=>whnf))
       exact ap1 (ρ:=bxB b4 x (.slice (some ⟨b2,0,none⟩) x.kinds.length c1) (.slice a2 x.rules.length c2) :: bxB b8 x (.slice (some ⟨b2,0,none⟩) x.kinds.length c1) (.slice a2 x.rules.length c2) :: [(b11,.cells 9 cs11)]) hkr1 hrr cl19 ⟨_,rfl,rfl,fin ks1 x.rules hkl1 hck1 (by omega) h.rs⟩
      ·refine Sv.cellm (tb:=111) (cs:=cs3) (cs':=cs3.set (jj*8+0) (sD nj)) (τ:=bxB b4 x (.slice (some ⟨b2,0,none⟩) x.kinds.length c1) (.slice a2 x.rules.length c2) :: (b8,.cells 43 zS) :: ([(b11,.cells 9 cs11)] ++ (sr ++ [(b2,.cells 97 cs2)]))) cl19 (by rw [show 0+((jj:Nat):Int).toNat*8+0=jj*8+0 by simp];exact (List.getElem?_eq_some_iff.1 (hcs3 0 (by omega))).1) rfl (by rw [show 0+((jj:Nat):Int).toNat*8+0=jj*8+0 by simp]) ?_
       repeat' (first|refine sk36 ?_|(intro b;conv=>whnf))
       obtain ⟨l1,hl1,hc1,hf1⟩:∃ l1:List Fld,l1.length≤10∧(∀ f∈l1,CF f)∧l1.length=k.fields.length∧RFl l1 (.slice (some ⟨b3,0,none⟩) k.fields.length c3) [(b3,.cells 111 (cs3.set (jj*8+0) (sD nj)))]:=⟨_,by rw [List.length_set];exact hnf,fun g hg=>by
        rcases List.mem_or_eq_of_mem_set hg with h' | rfl
        ·exact hck.fs g h'
        ·exact hc1,List.length_set,hf1⟩
       obtain ⟨hll1,hf1⟩:=hf1
       rw [← hll1] at hf1 ⊢
       have hidx:=(List.getElem?_eq_some_iff.1 hc3).1
       have hfz:=Sc.frz (b:=b2) (t:=97) (τ:=bxB b4 x (.slice (some ⟨b2,0,none⟩) x.kinds.length c1) (.slice a2 x.rules.length c2) :: (b8,.cells 43 zS) :: ([(b11,.cells 9 cs11)] ++ ([] ++ sr))) (List.getElem?_set_self (a:=D.v (.slice (some ⟨b3,0,none⟩) l1.length c3)) hidx) hf1 (LeR.refl _)
       rw [List.set_set] at hfz
       change Sc _ ((b2,.cells 97 (cs2.set (i*4+3) (slF l1))) :: _) at hfz
       have hkr1:=RowIs.put1 (d:=slF l1) hkr (show (x.kinds.map kndC)[i]?=some (kndC k) by rw [List.getElem?_map,hk];rfl) (show 3<4 by omega)
       have hks1:(x.kinds.map kndC).set i ((kndC k).set 3 (slF l1))=(x.kinds.set i ⟨k.name,k.lo,k.hi,l1⟩).map kndC:=by rw [List.map_set];rfl
       rw [hks1] at hkr1
       have hck1:∀ k'∈x.kinds.set i ⟨k.name,k.lo,k.hi,l1⟩,CK k':=fun k' hk'=>by
        rcases List.mem_or_eq_of_mem_set hk' with h' | rfl
        ·exact h.ks k' h'
        ·exact ⟨hck.nm,hck.lo,hck.hi,hl1,hc1⟩
       have hkl1:(x.kinds.set i ⟨k.name,k.lo,k.hi,l1⟩).length=x.kinds.length:=List.length_set
       generalize x.kinds.set i ⟨k.name,k.lo,k.hi,l1⟩=ks1 at *
       refine Sv.cellm (tb:=97) (cs:=cs2) (cs':=cs2.set (i*4+3) (.v (.slice (some ⟨b3,0,none⟩) l1.length c3))) (τ:=bxB b4 x (.slice (some ⟨b2,0,none⟩) x.kinds.length c1) (.slice a2 x.rules.length c2) :: (b8,.cells 43 zS) :: ([(b3,Blk.cells 111 (cs3.set (jj*8+0) (sD nj)))] ++ ([(b11,.cells 9 cs11)] ++ ([] ++ sr)))) cl19 cl20 rfl cl21 ?_
       repeat' (first|refine sk35 ?_|(intro b;conv=>whnf))
       refine Bc.j ?_
       refine aC3 (τ:=bxB b4 x (.slice (some ⟨b2,0,none⟩) x.kinds.length c1) (.slice a2 x.rules.length c2) :: (b8,.cells 43 zS) :: ([(b11,.cells 9 cs11)] ++ (sr ++ [(b2,.cells 97 (cs2.set (i*4+3) (slF l1)))]))) ((Sc.perm cl19).trans (hfz.trans (Sc.drop (ρ:=[]) cl19))) ?_
       refine ay9 mixed aa0 ?_
       (((with_reducible refine W.mk ?_);(conv=>whnf)))
       refine Bc.l ?_
       generalize cs2.set (i*4+3) (slF l1)=cs4 at *
       repeat' (first|refine sk36 ?_|(intro b;conv=>whnf))
       refine Rs.c aa0 (m:=1) rfl rfl rfl rfl rfl rfl ?_
       repeat' (first|refine sk36 ?_|(intro b;conv=>whnf))
       exact ap1 (ρ:=bxB b4 x (.slice (some ⟨b2,0,none⟩) x.kinds.length c1) (.slice a2 x.rules.length c2) :: bxB b8 x (.slice (some ⟨b2,0,none⟩) x.kinds.length c1) (.slice a2 x.rules.length c2) :: [(b11,.cells 9 cs11)]) hkr1 hrr cl19 ⟨_,rfl,rfl,fin ks1 x.rules hkl1 hck1 (by omega) h.rs⟩
     by_cases q3:arE how 9=3
     ·have hb5:=aA9 by_ k.fields.length
      have hb5':=hb5.2.1 (by omega)
      obtain ⟨j2,hj2⟩:∃ i:Nat,arE by_ k.fields.length=i:=⟨(arE by_ k.fields.length).toNat,by omega⟩
      obtain ⟨f2,hf2⟩:∃ f,k.fields[j2]?=some f:=⟨_,List.getElem?_eq_getElem (by omega)⟩
      have hf1:=RowIs.put hfr (i:=jj) (x':=fldC f2) (by rw [List.length_map];exact hjl) rfl
      rw [show (k.fields.map fldC).set jj (fldC f2)=(k.fields.set jj f2).map fldC by rw [List.map_set]] at hf1
      have hf3:=RowIs.put hf1 (i:=j2) (x':=fldC f) (by rw [List.length_map,List.length_set];omega) rfl
      rw [show ((k.fields.set jj f2).map fldC).set j2 (fldC f)=((k.fields.set jj f2).set j2 f).map fldC by rw [List.map_set (l:=k.fields.set jj f2)]] at hf3
      obtain ⟨b3',cap3',cs3',e3',e3s',hcs5⟩:=RowIs.get hfr (show (k.fields.map fldC)[j2]?=some (fldC f2) by rw [List.getElem?_map,hf2];rfl)
      have e33:cs3'=cs3:=by have:=(List.cons.inj e3s').1;simp at this;exact this.2.symm
      subst e33
      have hl8:jj*8+8≤cs3'.length:=by have:=(List.getElem?_eq_some_iff.1 (hcs3 7 (by omega))).1;omega
      have hl82:j2*8+8≤cs3'.length:=by have:=(List.getElem?_eq_some_iff.1 (hcs5 7 (by omega))).1;omega
      repeat' (first|refine sk36 ?_|(intro b;conv=>whnf))
      refine Ld.rowm (tb:=111) (cs:=cs3') (x:=fldC f) (by simp) rfl (by decide) (fun j hj=>by rw [show 0+((jj:Nat):Int).toNat*8+j=jj*8+j by simp];exact hcs3 j hj) ?_
      repeat' (first|refine sk36 ?_|(intro b;conv=>whnf))
      generalize b=b16
      refine Ld.rowm (tb:=111) (cs:=cs3') (x:=fldC f2) (by simp) rfl (by decide) (fun j hj=>by rw [hj2,show 0+((j2:Nat):Int).toNat*8+j=j2*8+j by simp];exact hcs5 j hj) ?_
      repeat' (first|refine sk36 ?_|(intro b;conv=>whnf))
      have hj8:0+((j2:Nat):Int).toNat*8=j2*8:=by simp
      have hl83:j2*8+8≤(spl cs3' (jj*8) (fldC f2)).length:=by
       have e8:(fldC f2).length=8:=rfl
       unfold spl
       rw [List.length_append,List.length_append,List.length_take,List.length_drop]
       omega
      refine Sv.perm (tb:=111) (cs:=cs3') (cs':=spl cs3' (jj*8) (fldC f2)) (τ:=(b16,.cells 111 (fldC f)) :: bxB b4 x (.slice (some ⟨b2,0,none⟩) x.kinds.length c1) (.slice a2 x.rules.length c2) :: (b8,.cells 43 zS) :: ([(b11,.cells 9 cs11)] ++ (sr ++ [(b2,.cells 97 cs2)]))) cl22 rfl (by rw [show 0+((jj:Nat):Int).toNat*8=jj*8 by simp];exact hl8) rfl (by rw [show 0+((jj:Nat):Int).toNat*8=jj*8 by simp];try rfl) ?_
      repeat' (first|refine sk36 ?_|(intro b;conv=>whnf))
      refine Sv.perm (tb:=111) (cs:=spl cs3' (jj*8) (fldC f2)) (cs':=spl (spl cs3' (jj*8) (fldC f2)) (j2*8) (fldC f)) (τ:=(b16,.cells 111 (fldC f)) :: bxB b4 x (.slice (some ⟨b2,0,none⟩) x.kinds.length c1) (.slice a2 x.rules.length c2) :: (b8,.cells 43 zS) :: ([(b11,.cells 9 cs11)] ++ (sr ++ [(b2,.cells 97 cs2)]))) cl23 rfl (by simp only [hj2,hj8];exact hl83) rfl (by rw [hj2,hj8];try rfl) ?_
      repeat' (first|refine sk36 ?_|(intro b;conv=>whnf))
      generalize spl (spl cs3' (jj*8) (fldC f2)) (j2*8) (fldC f)=cs5 at *
      obtain ⟨l1,hl1,hc1,hll1,hf1⟩:∃ l1:List Fld,l1.length≤10∧(∀ f∈l1,CF f)∧l1.length=k.fields.length∧RFl l1 (.slice (some ⟨b3,0,none⟩) k.fields.length c3) [(b3,.cells 111 cs5)]:=⟨_,by rw [List.length_set,List.length_set];exact hnf,fun g hg=>by
       rcases List.mem_or_eq_of_mem_set hg with h' | rfl
       ·rcases List.mem_or_eq_of_mem_set h' with h' | rfl
        ·exact hck.fs g h'
        ·exact hck.fs _ (List.mem_of_getElem? hf2)
       ·exact hcf,by rw [List.length_set,List.length_set],hf3⟩
      rw [← hll1] at hf1 ⊢
      have hidx:=(List.getElem?_eq_some_iff.1 hc3).1
      have hfz:=Sc.frz (b:=b2) (t:=97) (τ:=bxB b4 x (.slice (some ⟨b2,0,none⟩) x.kinds.length c1) (.slice a2 x.rules.length c2) :: (b8,.cells 43 zS) :: ([(b11,.cells 9 cs11)] ++ ([(b16,Blk.cells 111 (fldC f))] ++ sr))) (List.getElem?_set_self (a:=D.v (.slice (some ⟨b3,0,none⟩) l1.length c3)) hidx) hf1 (LeR.refl _)
      rw [List.set_set] at hfz
      change Sc _ ((b2,.cells 97 (cs2.set (i*4+3) (slF l1))) :: _) at hfz
      have hkr1:=RowIs.put1 (d:=slF l1) hkr (show (x.kinds.map kndC)[i]?=some (kndC k) by rw [List.getElem?_map,hk];rfl) (show 3<4 by omega)
      have hks1:(x.kinds.map kndC).set i ((kndC k).set 3 (slF l1))=(x.kinds.set i ⟨k.name,k.lo,k.hi,l1⟩).map kndC:=by rw [List.map_set];rfl
      rw [hks1] at hkr1
      have hck1:∀ k'∈x.kinds.set i ⟨k.name,k.lo,k.hi,l1⟩,CK k':=fun k' hk'=>by
       rcases List.mem_or_eq_of_mem_set hk' with h' | rfl
       ·exact h.ks k' h'
       ·exact ⟨hck.nm,hck.lo,hck.hi,hl1,hc1⟩
      have hkl1:(x.kinds.set i ⟨k.name,k.lo,k.hi,l1⟩).length=x.kinds.length:=List.length_set
      generalize x.kinds.set i ⟨k.name,k.lo,k.hi,l1⟩=ks1 at *
      refine Sv.cellm (tb:=97) (cs:=cs2) (cs':=cs2.set (i*4+3) (.v (.slice (some ⟨b3,0,none⟩) l1.length c3))) (τ:=bxB b4 x (.slice (some ⟨b2,0,none⟩) x.kinds.length c1) (.slice a2 x.rules.length c2) :: (b8,.cells 43 zS) :: ([(b3,Blk.cells 111 cs5)] ++ ([(b11,.cells 9 cs11)] ++ ([(b16,Blk.cells 111 (fldC f))] ++ sr)))) cl19 cl20 rfl cl21 ?_
      repeat' (first|refine sk35 ?_|(intro b;conv=>whnf))
      refine Bc.j ?_
      refine aC3 (τ:=bxB b4 x (.slice (some ⟨b2,0,none⟩) x.kinds.length c1) (.slice a2 x.rules.length c2) :: (b8,.cells 43 zS) :: ([(b11,.cells 9 cs11)] ++ (sr ++ [(b2,.cells 97 (cs2.set (i*4+3) (slF l1)))]))) ((Sc.perm cl19).trans (hfz.trans (Sc.drop (ρ:=[(b16,Blk.cells 111 (fldC f))]) cl19))) ?_
      refine ay9 mixed aa0 ?_
      (((with_reducible refine W.mk ?_);(conv=>whnf)))
      refine Bc.l ?_
      generalize cs2.set (i*4+3) (slF l1)=cs4 at *
      repeat' (first|refine sk36 ?_|(intro b;conv=>whnf))
      refine Rs.c aa0 (m:=1) rfl rfl rfl rfl rfl rfl ?_
      repeat' (first|refine sk36 ?_|(intro b;conv=>whnf))
      exact ap1 (ρ:=bxB b4 x (.slice (some ⟨b2,0,none⟩) x.kinds.length c1) (.slice a2 x.rules.length c2) :: bxB b8 x (.slice (some ⟨b2,0,none⟩) x.kinds.length c1) (.slice a2 x.rules.length c2) :: [(b11,.cells 9 cs11)]) hkr1 hrr cl19 ⟨_,rfl,rfl,fin ks1 x.rules hkl1 hck1 (by omega) h.rs⟩
     ·have hq4:arE how 9=4:=by omega
      repeat' (first|refine sk36 ?_|(intro b;conv=>whnf))
      have hdel:=RowIs.del hfr (i:=jj) (by rw [List.length_map];exact hjl)
      rw [List.length_map] at hdel
      obtain ⟨d1,d2,-,d4,d5,cs6,d6,d7⟩:=hdel
      have hone:(((k.fields.map fldC).drop (jj+1)).flatten).all oneD=true:=by
       rw [List.all_eq_true]
       intro z hz
       obtain ⟨y,hy,hz⟩:=List.mem_flatten.1 hz
       exact List.all_eq_true.1 (List.all_eq_true.1 (bg1 k.fields) y (List.mem_of_mem_drop hy)) z hz
      obtain ⟨l1,hl1,hc1,hll1,hf1⟩:∃ l1:List Fld,l1.length≤10∧(∀ f∈l1,CF f)∧l1.length=jj+(k.fields.length - (jj+1))∧RFl l1 (.slice (some ⟨b3,0,none⟩) (jj+(k.fields.length - (jj+1))) c3) [(b3,.cells 111 cs6)]:=⟨k.fields.take jj ++ k.fields.drop (jj+1),by rw [List.length_append,List.length_take,List.length_drop];omega,fun g hg=>by
       rcases List.mem_append.1 hg with h' | h'
       ·exact hck.fs g (List.mem_of_mem_take h')
       ·exact hck.fs g (List.mem_of_mem_drop h'),by rw [List.length_append,List.length_take,List.length_drop];omega,by show RowIs _ _ (List.map fldC _) _ _;rw [List.map_append,List.map_take,List.map_drop];exact d6⟩
      generalize ((k.fields.map fldC).drop (jj+1)).flatten=new at *
      by_cases hcap:jj+1<c3
      ·repeat' (first|refine sk38 ?_|(intro b;conv=>whnf))
       refine' Ot.yd ?hydq1 ?_
       case hydq1=>exact aE5 aa0 (l:=0) (h:=jj) rfl rfl rfl rfl (.inl ⟨rfl,rfl⟩) (.inr ⟨_,_,rfl,rfl⟩) (by omega) (by omega) (by omega)
       repeat' (first|refine sk38 ?_|(intro b;conv=>whnf))
       refine Bx.l ?_
       repeat' (first|refine sk38 ?_|(intro b;conv=>whnf))
       refine' Ot.yd ?hydq2 ?_
       case hydq2=>exact aE5 aa0 (l:=jj+1) (h:=k.fields.length) rfl rfl rfl rfl (.inr ⟨_,_,rfl,rfl⟩) (.inl ⟨rfl,rfl⟩) (by omega) (by omega) (by omega)
       repeat' (first|refine sk38 ?_|(intro b;conv=>whnf))
       refine Bx.r ?_
       refine OtE.apown aa0 (e:=111) (b:=b3) (n0:=jj) (cap:=c3) (o2:=0+(jj+1)*8) (m:=k.fields.length - (jj+1)) (cs:=cs3) (new:=new) (τ:=bxB b4 x (.slice (some ⟨b2,0,none⟩) x.kinds.length c1) (.slice a2 x.rules.length c2) :: (b8,.cells 43 zS) :: ([(b11,.cells 9 cs11)] ++ (sr ++ [(b2,.cells 97 cs2)]))) rfl rfl rfl rfl rfl rfl rfl cl22 (by rw [Nat.zero_add];exact d1.symm) d2 (by omega) (by rw [d5];omega) hone ?_
       repeat' (first|refine sk36 ?_|(intro b;conv=>whnf))
       rw [← hll1] at hf1 ⊢
       have hidx:=(List.getElem?_eq_some_iff.1 hc3).1
       have hfz:=Sc.frz (b:=b2) (t:=97) (τ:=bxB b4 x (.slice (some ⟨b2,0,none⟩) x.kinds.length c1) (.slice a2 x.rules.length c2) :: (b8,.cells 43 zS) :: ([(b11,.cells 9 cs11)] ++ ([] ++ sr))) (List.getElem?_set_self (a:=D.v (.slice (some ⟨b3,0,none⟩) l1.length c3)) hidx) hf1 (LeR.refl _)
       rw [List.set_set] at hfz
       change Sc _ ((b2,.cells 97 (cs2.set (i*4+3) (slF l1))) :: _) at hfz
       have hkr1:=RowIs.put1 (d:=slF l1) hkr (show (x.kinds.map kndC)[i]?=some (kndC k) by rw [List.getElem?_map,hk];rfl) (show 3<4 by omega)
       have hks1:(x.kinds.map kndC).set i ((kndC k).set 3 (slF l1))=(x.kinds.set i ⟨k.name,k.lo,k.hi,l1⟩).map kndC:=by rw [List.map_set];rfl
       rw [hks1] at hkr1
       have hck1:∀ k'∈x.kinds.set i ⟨k.name,k.lo,k.hi,l1⟩,CK k':=fun k' hk'=>by
        rcases List.mem_or_eq_of_mem_set hk' with h' | rfl
        ·exact h.ks k' h'
        ·exact ⟨hck.nm,hck.lo,hck.hi,hl1,hc1⟩
       have hkl1:(x.kinds.set i ⟨k.name,k.lo,k.hi,l1⟩).length=x.kinds.length:=List.length_set
       generalize x.kinds.set i ⟨k.name,k.lo,k.hi,l1⟩=ks1 at *
       refine Sv.cellm (tb:=97) (cs:=cs2) (cs':=cs2.set (i*4+3) (.v (.slice (some ⟨b3,0,none⟩) l1.length c3))) (τ:=bxB b4 x (.slice (some ⟨b2,0,none⟩) x.kinds.length c1) (.slice a2 x.rules.length c2) :: (b8,.cells 43 zS) :: ([(b3,Blk.cells 111 (spl cs3 (jj*8) new))] ++ ([(b11,.cells 9 cs11)] ++ ([] ++ sr)))) cl19 cl20 rfl cl21 ?_
       repeat' (first|refine sk35 ?_|(intro b;conv=>whnf))
       refine Bc.j ?_
       refine aC3 (τ:=bxB b4 x (.slice (some ⟨b2,0,none⟩) x.kinds.length c1) (.slice a2 x.rules.length c2) :: (b8,.cells 43 zS) :: ([(b11,.cells 9 cs11)] ++ (sr ++ [(b2,.cells 97 (cs2.set (i*4+3) (slF l1)))]))) (((Sc.perm cl19).trans ((d7 ((b2,.cells 97 (cs2.set (i*4+3) (.v (.slice (some ⟨b3,0,none⟩) l1.length c3)))) :: bxB b4 x (.slice (some ⟨b2,0,none⟩) x.kinds.length c1) (.slice a2 x.rules.length c2) :: (b8,.cells 43 zS) :: ([(b11,.cells 9 cs11)] ++ ([] ++ sr)))).trans (Sc.perm cl19))).trans (hfz.trans (Sc.drop (ρ:=[]) cl19))) ?_
       refine ay9 mixed aa0 ?_
       (((with_reducible refine W.mk ?_);(conv=>whnf)))
       refine Bc.l ?_
       generalize cs2.set (i*4+3) (slF l1)=cs4 at *
       repeat' (first|refine sk36 ?_|(intro b;conv=>whnf))
       refine Rs.c aa0 (m:=1) rfl rfl rfl rfl rfl rfl ?_
       repeat' (first|refine sk36 ?_|(intro b;conv=>whnf))
       exact ap1 (ρ:=bxB b4 x (.slice (some ⟨b2,0,none⟩) x.kinds.length c1) (.slice a2 x.rules.length c2) :: bxB b8 x (.slice (some ⟨b2,0,none⟩) x.kinds.length c1) (.slice a2 x.rules.length c2) :: [(b11,.cells 9 cs11)]) hkr1 hrr cl19 ⟨_,rfl,rfl,fin ks1 x.rules hkl1 hck1 (by omega) h.rs⟩
      ·have hm0:k.fields.length - (jj+1)=0:=by omega
       rw [hm0] at d2 hll1 hf1 d1
       repeat' (first|refine sk38 ?_|(intro b;conv=>whnf))
       refine' Ot.yd ?hydq3 ?_
       case hydq3=>exact aE5 aa0 (l:=0) (h:=jj) rfl rfl rfl rfl (.inl ⟨rfl,rfl⟩) (.inr ⟨_,_,rfl,rfl⟩) (by omega) (by omega) (by omega)
       repeat' (first|refine sk38 ?_|(intro b;conv=>whnf))
       refine Bx.l ?_
       repeat' (first|refine sk38 ?_|(intro b;conv=>whnf))
       refine' Ot.yd ?hydq4 ?_
       case hydq4=>exact yd_slend aa0 (c:=c3) (m:=k.fields.length) rfl rfl rfl rfl (by show D.v (Value.int .i64 ((jj:Int)+1))=D.v (Value.int .i64 ((c3:Nat):Int));rw [show c3=jj+1 by omega];rfl) (by omega)
       repeat' (first|refine sk38 ?_|(intro b;conv=>whnf))
       refine Bx.r ?_
       refine OtE.apown aa0 (e:=111) (b:=b3) (n0:=jj) (cap:=c3) (o2:=0) (m:=0) (c2:=0) (cs:=cs3) (new:=new) (τ:=bxB b4 x (.slice (some ⟨b2,0,none⟩) x.kinds.length c1) (.slice a2 x.rules.length c2) :: (b8,.cells 43 zS) :: ([(b11,.cells 9 cs11)] ++ (sr ++ [(b2,.cells 97 cs2)]))) rfl rfl rfl rfl rfl rfl rfl cl22 (by rw [List.eq_nil_of_length_eq_zero (by omega:new.length=0)];try simp) (by rw [d2]) (by omega) (by rw [d5];omega) hone ?_
       repeat' (first|refine sk36 ?_|(intro b;conv=>whnf))
       rw [← hll1] at hf1 ⊢
       have hidx:=(List.getElem?_eq_some_iff.1 hc3).1
       have hfz:=Sc.frz (b:=b2) (t:=97) (τ:=bxB b4 x (.slice (some ⟨b2,0,none⟩) x.kinds.length c1) (.slice a2 x.rules.length c2) :: (b8,.cells 43 zS) :: ([(b11,.cells 9 cs11)] ++ ([] ++ sr))) (List.getElem?_set_self (a:=D.v (.slice (some ⟨b3,0,none⟩) l1.length c3)) hidx) hf1 (LeR.refl _)
       rw [List.set_set] at hfz
       change Sc _ ((b2,.cells 97 (cs2.set (i*4+3) (slF l1))) :: _) at hfz
       have hkr1:=RowIs.put1 (d:=slF l1) hkr (show (x.kinds.map kndC)[i]?=some (kndC k) by rw [List.getElem?_map,hk];rfl) (show 3<4 by omega)
       have hks1:(x.kinds.map kndC).set i ((kndC k).set 3 (slF l1))=(x.kinds.set i ⟨k.name,k.lo,k.hi,l1⟩).map kndC:=by rw [List.map_set];rfl
       rw [hks1] at hkr1
       have hck1:∀ k'∈x.kinds.set i ⟨k.name,k.lo,k.hi,l1⟩,CK k':=fun k' hk'=>by
        rcases List.mem_or_eq_of_mem_set hk' with h' | rfl
        ·exact h.ks k' h'
        ·exact ⟨hck.nm,hck.lo,hck.hi,hl1,hc1⟩
       have hkl1:(x.kinds.set i ⟨k.name,k.lo,k.hi,l1⟩).length=x.kinds.length:=List.length_set
       generalize x.kinds.set i ⟨k.name,k.lo,k.hi,l1⟩=ks1 at *
       refine Sv.cellm (tb:=97) (cs:=cs2) (cs':=cs2.set (i*4+3) (.v (.slice (some ⟨b3,0,none⟩) l1.length c3))) (τ:=bxB b4 x (.slice (some ⟨b2,0,none⟩) x.kinds.length c1) (.slice a2 x.rules.length c2) :: (b8,.cells 43 zS) :: ([(b3,Blk.cells 111 (spl cs3 (jj*8) new))] ++ ([(b11,.cells 9 cs11)] ++ ([] ++ sr)))) cl19 cl20 rfl cl21 ?_
       repeat' (first|refine sk35 ?_|(intro b;conv=>whnf))
       refine Bc.j ?_
       refine aC3 (τ:=bxB b4 x (.slice (some ⟨b2,0,none⟩) x.kinds.length c1) (.slice a2 x.rules.length c2) :: (b8,.cells 43 zS) :: ([(b11,.cells 9 cs11)] ++ (sr ++ [(b2,.cells 97 (cs2.set (i*4+3) (slF l1)))]))) (((Sc.perm cl19).trans ((d7 ((b2,.cells 97 (cs2.set (i*4+3) (.v (.slice (some ⟨b3,0,none⟩) l1.length c3)))) :: bxB b4 x (.slice (some ⟨b2,0,none⟩) x.kinds.length c1) (.slice a2 x.rules.length c2) :: (b8,.cells 43 zS) :: ([(b11,.cells 9 cs11)] ++ ([] ++ sr)))).trans (Sc.perm cl19))).trans (hfz.trans (Sc.drop (ρ:=[]) cl19))) ?_
       refine ay9 mixed aa0 ?_
       (((with_reducible refine W.mk ?_);(conv=>whnf)))
       refine Bc.l ?_
       generalize cs2.set (i*4+3) (slF l1)=cs4 at *
       repeat' (first|refine sk36 ?_|(intro b;conv=>whnf))
       refine Rs.c aa0 (m:=1) rfl rfl rfl rfl rfl rfl ?_
       repeat' (first|refine sk36 ?_|(intro b;conv=>whnf))
       exact ap1 (ρ:=bxB b4 x (.slice (some ⟨b2,0,none⟩) x.kinds.length c1) (.slice a2 x.rules.length c2) :: bxB b8 x (.slice (some ⟨b2,0,none⟩) x.kinds.length c1) (.slice a2 x.rules.length c2) :: [(b11,.cells 9 cs11)]) hkr1 hrr cl19 ⟨_,rfl,rfl,fin ks1 x.rules hkl1 hck1 (by omega) h.rs⟩
    ·repeat' (first|refine sk36 ?_|(intro b;conv=>whnf))
     obtain ⟨l1,hl1,hc1,hf1⟩:∃ l1:List Fld,l1.length≤10∧(∀ f∈l1,CF f)∧l1.length=k.fields.length∧RFl l1 (.slice a3 k.fields.length c3) sl:=⟨k.fields,hnf,hck.fs,rfl,hfr⟩
     obtain ⟨hll1,hf1⟩:=hf1
     rw [← hll1] at hf1 ⊢
     have hidx:=(List.getElem?_eq_some_iff.1 hc3).1
     have hfz:=Sc.frz (b:=b2) (t:=97) (τ:=bxB b4 x (.slice (some ⟨b2,0,none⟩) x.kinds.length c1) (.slice a2 x.rules.length c2) :: (b8,.cells 43 zS) :: ([(b11,.cells 9 cs11)] ++ ([] ++ sr))) (List.getElem?_set_self (a:=D.v (.slice a3 l1.length c3)) hidx) hf1 (LeR.refl _)
     rw [List.set_set] at hfz
     change Sc _ ((b2,.cells 97 (cs2.set (i*4+3) (slF l1))) :: _) at hfz
     have hkr1:=RowIs.put1 (d:=slF l1) hkr (show (x.kinds.map kndC)[i]?=some (kndC k) by rw [List.getElem?_map,hk];rfl) (show 3<4 by omega)
     have hks1:(x.kinds.map kndC).set i ((kndC k).set 3 (slF l1))=(x.kinds.set i ⟨k.name,k.lo,k.hi,l1⟩).map kndC:=by rw [List.map_set];rfl
     rw [hks1] at hkr1
     have hck1:∀ k'∈x.kinds.set i ⟨k.name,k.lo,k.hi,l1⟩,CK k':=fun k' hk'=>by
      rcases List.mem_or_eq_of_mem_set hk' with h' | rfl
      ·exact h.ks k' h'
      ·exact ⟨hck.nm,hck.lo,hck.hi,hl1,hc1⟩
     have hkl1:(x.kinds.set i ⟨k.name,k.lo,k.hi,l1⟩).length=x.kinds.length:=List.length_set
     generalize x.kinds.set i ⟨k.name,k.lo,k.hi,l1⟩=ks1 at *
     refine Sv.cellm (tb:=97) (cs:=cs2) (cs':=cs2.set (i*4+3) (.v (.slice a3 l1.length c3))) (τ:=bxB b4 x (.slice (some ⟨b2,0,none⟩) x.kinds.length c1) (.slice a2 x.rules.length c2) :: (b8,.cells 43 zS) :: (sl ++ ([(b11,.cells 9 cs11)] ++ ([] ++ sr)))) cl19 cl20 rfl cl21 ?_
     repeat' (first|refine sk35 ?_|(intro b;conv=>whnf))
     refine Bc.j ?_
     refine aC3 (τ:=bxB b4 x (.slice (some ⟨b2,0,none⟩) x.kinds.length c1) (.slice a2 x.rules.length c2) :: (b8,.cells 43 zS) :: ([(b11,.cells 9 cs11)] ++ (sr ++ [(b2,.cells 97 (cs2.set (i*4+3) (slF l1)))]))) ((Sc.perm cl19).trans (hfz.trans (Sc.drop (ρ:=[]) cl19))) ?_
     refine ay9 mixed aa0 ?_
     (((with_reducible refine W.mk ?_);(conv=>whnf)))
     refine Bc.l ?_
     generalize cs2.set (i*4+3) (slF l1)=cs4 at *
     repeat' (first|refine sk36 ?_|(intro b;conv=>whnf))
     refine Rs.c aa0 (m:=1) rfl rfl rfl rfl rfl rfl ?_
     repeat' (first|refine sk36 ?_|(intro b;conv=>whnf))
     exact ap1 (ρ:=bxB b4 x (.slice (some ⟨b2,0,none⟩) x.kinds.length c1) (.slice a2 x.rules.length c2) :: bxB b8 x (.slice (some ⟨b2,0,none⟩) x.kinds.length c1) (.slice a2 x.rules.length c2) :: [(b11,.cells 9 cs11)]) hkr1 hrr cl19 ⟨_,rfl,rfl,fin ks1 x.rules hkl1 hck1 (by omega) h.rs⟩
   ·have hdef:True:=trivial
    repeat' (first|refine sk36 ?_|(intro b;conv=>whnf))
    obtain ⟨l1,hl1,hc1,hf1⟩:∃ l1:List Fld,l1.length≤10∧(∀ f∈l1,CF f)∧l1.length=k.fields.length∧RFl l1 (.slice a3 k.fields.length c3) sl:=⟨k.fields,hnf,hck.fs,rfl,hfr⟩
    obtain ⟨hll1,hf1⟩:=hf1
    rw [← hll1] at hf1 ⊢
    have hidx:=(List.getElem?_eq_some_iff.1 hc3).1
    have hfz:=Sc.frz (b:=b2) (t:=97) (τ:=bxB b4 x (.slice (some ⟨b2,0,none⟩) x.kinds.length c1) (.slice a2 x.rules.length c2) :: (b8,.cells 43 zS) :: ([(b11,.cells 9 cs11)] ++ ([] ++ sr))) (List.getElem?_set_self (a:=D.v (.slice a3 l1.length c3)) hidx) hf1 (LeR.refl _)
    rw [List.set_set] at hfz
    change Sc _ ((b2,.cells 97 (cs2.set (i*4+3) (slF l1))) :: _) at hfz
    have hkr1:=RowIs.put1 (d:=slF l1) hkr (show (x.kinds.map kndC)[i]?=some (kndC k) by rw [List.getElem?_map,hk];rfl) (show 3<4 by omega)
    have hks1:(x.kinds.map kndC).set i ((kndC k).set 3 (slF l1))=(x.kinds.set i ⟨k.name,k.lo,k.hi,l1⟩).map kndC:=by rw [List.map_set];rfl
    rw [hks1] at hkr1
    have hck1:∀ k'∈x.kinds.set i ⟨k.name,k.lo,k.hi,l1⟩,CK k':=fun k' hk'=>by
     rcases List.mem_or_eq_of_mem_set hk' with h' | rfl
     ·exact h.ks k' h'
     ·exact ⟨hck.nm,hck.lo,hck.hi,hl1,hc1⟩
    have hkl1:(x.kinds.set i ⟨k.name,k.lo,k.hi,l1⟩).length=x.kinds.length:=List.length_set
    generalize x.kinds.set i ⟨k.name,k.lo,k.hi,l1⟩=ks1 at *
    refine Sv.cellm (tb:=97) (cs:=cs2) (cs':=cs2.set (i*4+3) (.v (.slice a3 l1.length c3))) (τ:=bxB b4 x (.slice (some ⟨b2,0,none⟩) x.kinds.length c1) (.slice a2 x.rules.length c2) :: (b8,.cells 43 zS) :: (sl ++ ([(b11,.cells 9 cs11)] ++ ([] ++ sr)))) cl19 cl20 rfl cl21 ?_
    repeat' (first|refine sk35 ?_|(intro b;conv=>whnf))
    refine Bc.j ?_
    refine aC3 (τ:=bxB b4 x (.slice (some ⟨b2,0,none⟩) x.kinds.length c1) (.slice a2 x.rules.length c2) :: (b8,.cells 43 zS) :: ([(b11,.cells 9 cs11)] ++ (sr ++ [(b2,.cells 97 (cs2.set (i*4+3) (slF l1)))]))) ((Sc.perm cl19).trans (hfz.trans (Sc.drop (ρ:=[]) cl19))) ?_
    refine ay9 mixed aa0 ?_
    (((with_reducible refine W.mk ?_);(conv=>whnf)))
    refine Bc.l ?_
    generalize cs2.set (i*4+3) (slF l1)=cs4 at *
    obtain ⟨ki,hki⟩:∃ k,ks1[i]?=some k:=⟨_,List.getElem?_eq_getElem (by omega)⟩
    obtain ⟨kj,hkj⟩:∃ k,ks1[i2]?=some k:=⟨_,List.getElem?_eq_getElem (by omega)⟩
    have hci:∀ j,j<4→cs4[i*4+j]?=(kndC ki)[j]?:=by
     obtain ⟨b',cap',cs',e',e'',hcs'⟩:=RowIs.get hkr1 (show (ks1.map kndC)[i]?=some (kndC ki) by rw [List.getElem?_map,hki];rfl)
     have:cs'=cs4:=by have:=(List.cons.inj e'').1;simp at this;exact this.2.symm
     subst this;exact hcs'
    have hcj:∀ j,j<4→cs4[i2*4+j]?=(kndC kj)[j]?:=by
     obtain ⟨b',cap',cs',e',e'',hcs'⟩:=RowIs.get hkr1 (show (ks1.map kndC)[i2]?=some (kndC kj) by rw [List.getElem?_map,hkj];rfl)
     have:cs'=cs4:=by have:=(List.cons.inj e'').1;simp at this;exact this.2.symm
     subst this;exact hcs'
    have hl4:∀ j,j<x.kinds.length→j*4+4≤cs4.length:=fun j hj=>by
     obtain ⟨y,hy⟩:∃ k,ks1[j]?=some k:=⟨_,List.getElem?_eq_getElem (by omega)⟩
     obtain ⟨b',cap',cs',e',e'',hcs'⟩:=RowIs.get hkr1 (show (ks1.map kndC)[j]?=some (kndC y) by rw [List.getElem?_map,hy];rfl)
     have:cs'=cs4:=by have:=(List.cons.inj e'').1;simp at this;exact this.2.symm
     subst this
     have:=(List.getElem?_eq_some_iff.1 (hcs' 3 (by omega))).1
     omega
    by_cases q5:arE how 9=5
    ·have hi4:0+((i:Nat):Int).toNat*4=i*4:=by simp
     have hi24:0+((i2:Nat):Int).toNat*4=i2*4:=by simp
     repeat' (first|refine sk40 ?_|(intro b;conv=>whnf))
     refine Ld.rowm (tb:=97) (cs:=cs4) (x:=kndC kj) (by simp) rfl (by decide) (fun j hj=>by rw [hi2,hi24];exact hcj j hj) ?_
     repeat' (first|refine sk40 ?_|(intro b;conv=>whnf))
     generalize b=b18 at *
     repeat' (first|refine sk40 ?_|(intro b;conv=>whnf))
     refine Ld.rowm (tb:=97) (cs:=cs4) (x:=kndC ki) (by simp) rfl (by decide) (fun j hj=>by rw [hi4];exact hci j hj) ?_
     repeat' (first|refine sk40 ?_|(intro b;conv=>whnf))
     refine Sv.perm (tb:=97) (cs:=cs4) (cs':=spl cs4 (i2*4) (kndC ki)) (τ:=(b18,.cells 97 (kndC kj)) :: bxB b4 x (.slice (some ⟨b2,0,none⟩) x.kinds.length c1) (.slice a2 x.rules.length c2) :: (b8,.cells 43 zS) :: ([(b11,.cells 9 cs11)] ++ sr)) cl22 rfl (by simp only [hi2,hi24];exact hl4 i2 (by omega)) rfl (by rw [hi2,hi24];try rfl) ?_
     have hl5:i*4+4≤(spl cs4 (i2*4) (kndC ki)).length:=by
      have e8:(kndC ki).length=4:=rfl
      have:=hl4 i (by omega)
      have:=hl4 i2 (by omega)
      unfold spl
      rw [List.length_append,List.length_append,List.length_take,List.length_drop]
      omega
     repeat' (first|refine sk40 ?_|(intro b;conv=>whnf))
     refine Sv.perm (tb:=97) (cs:=spl cs4 (i2*4) (kndC ki)) (cs':=spl (spl cs4 (i2*4) (kndC ki)) (i*4) (kndC kj)) (τ:=(b18,.cells 97 (kndC kj)) :: bxB b4 x (.slice (some ⟨b2,0,none⟩) x.kinds.length c1) (.slice a2 x.rules.length c2) :: (b8,.cells 43 zS) :: ([(b11,.cells 9 cs11)] ++ sr)) cl23 rfl (by simp only [hi4];exact hl5) rfl (by rw [hi4];try rfl) ?_
     have hk2:=RowIs.put (RowIs.put hkr1 (i:=i2) (x':=kndC ki) (by rw [List.length_map];omega) rfl) (i:=i) (x':=kndC kj) (by rw [List.length_set,List.length_map];omega) rfl
     rw [show ((ks1.map kndC).set i2 (kndC ki)).set i (kndC kj)=((ks1.set i2 ki).set i kj).map kndC by rw [List.map_set,List.map_set]] at hk2
     have hck2:∀ k∈(ks1.set i2 ki).set i kj,CK k:=fun k' hk'=>by
      rcases List.mem_or_eq_of_mem_set hk' with h' | rfl
      ·rcases List.mem_or_eq_of_mem_set h' with h' | rfl
       ·exact hck1 k' h'
       ·exact hck1 _ (List.mem_of_getElem? hki)
      ·exact hck1 _ (List.mem_of_getElem? hkj)
     have hkl2:((ks1.set i2 ki).set i kj).length=x.kinds.length:=by rw [List.length_set,List.length_set];exact hkl1
     generalize (ks1.set i2 ki).set i kj=ks2 at *
     generalize spl (spl cs4 (i2*4) (kndC ki)) (i*4) (kndC kj)=cs6 at *
     repeat' (first|refine sk40 ?_|(intro b;conv=>whnf))
     refine Sv.at 3 rfl rfl rfl rfl cl24 ?_
     repeat' (first|refine sk40 ?_|(intro b;conv=>whnf))
     refine Rs.c aa0 (m:=3) rfl rfl rfl rfl rfl rfl ?_
     repeat' (first|refine sk40 ?_|(intro b;conv=>whnf))
     exact ap1 (ρ:=bxB b4 x (.slice (some ⟨b2,0,none⟩) x.kinds.length c1) (.slice a2 x.rules.length c2) :: bxB b8 x (.slice (some ⟨b2,0,none⟩) x.kinds.length c1) (.slice a2 x.rules.length c2) :: (b18,Blk.cells 97 (kndC kj)) :: [(b11,.cells 9 cs11)]) hk2 hrr cl19 ⟨_,rfl,rfl,fin ks2 x.rules hkl2 hck2 (by omega) h.rs⟩
    by_cases q6:arE how 9=6
    ·have h7:=aA9 (by_.tdiv 7) nm.length
     have h7':=h7.2.1 (by omega)
     have h7i:=tdiv_i64 hby 7 (by omega)
     obtain ⟨i4,hi4⟩:∃ i:Nat,arE (by_.tdiv 7) nm.length=i:=⟨(arE (by_.tdiv 7) nm.length).toNat,by omega⟩
     obtain ⟨n4,hn4⟩:∃ s,nm[i4]?=some s:=⟨_,List.getElem?_eq_getElem (by omega)⟩
     have hc4:cs11[i4*1+0]?=some (sD n4):=by
      obtain ⟨b',cap',cs',e',e'',hcs'⟩:=RowIs.get hnr (show (nm.map fun s=>[sD s])[i4]?=some [sD n4] by rw [List.getElem?_map,hn4];rfl)
      have:cs'=cs11:=by have:=(List.cons.inj e'').1;simp at this;exact this.2.symm
      subst this;exact hcs' 0 (by omega)
     have hrl3:(x.rules ++ [(⟨nMore,ki.name,nj,n4,0⟩:Rul)]).length≤3:=by rw [List.length_append,List.length_singleton];omega
     have hcr3:∀ r∈x.rules ++ [(⟨nMore,ki.name,nj,n4,0⟩:Rul)],CR r:=fun r hr=>by
      rcases List.mem_append.1 hr with hr|hr
      ·exact h.rs r hr
      ·rw [List.mem_singleton] at hr;subst hr
       exact ⟨show nMore.size≤12 by decide,(hck1 _ (List.mem_of_getElem? hki)).nm.2,hnjs,hns n4 (List.mem_of_getElem? hn4),show (-2000:Int)≤0∧(0:Int)≤2000 by decide⟩
     repeat' (first|refine sk40 ?_|(intro b;conv=>whnf))
     refine Ld.cellm (tb:=97) (cs:=cs4) (by simp) (by rw [show 0+((i:Nat):Int).toNat*4+0=i*4+0 by simp];exact hci 0 (by omega)) ?_
     repeat' (first|refine sk40 ?_|(intro b;conv=>whnf))
     refine Sd.go ⟨by decide,⟨h7i.1,h7i.2⟩⟩ ?_
     repeat' (first|refine sk40 ?_|(intro b;conv=>whnf))
     refine Ld.cellm (tb:=9) (cs:=cs11) (by simp) (by rw [hi4,show 0+((i4:Nat):Int).toNat*1=i4*1+0 by simp];exact hc4) ?_
     repeat' (first|refine sk40 ?_|(intro b;conv=>whnf))
     refine Ap.go rfl rfl rfl rfl hrr (τ:=bxB b4 x (.slice (some ⟨b2,0,none⟩) x.kinds.length c1) (.slice a2 x.rules.length c2) :: (b8,.cells 43 zS) :: ([(b11,.cells 9 cs11)] ++ [(b2,.cells 97 cs4)])) cl19 rfl (zs:=(x.rules ++ [(⟨nMore,ki.name,nj,n4,0⟩:Rul)]).map rulC) (by rw [List.map_append];rfl) (by simp;omega) (by simp;omega) (fun s'=>bxB b4 x (.slice (some ⟨b2,0,none⟩) x.kinds.length c1) (.slice a2 x.rules.length c2) :: (b8,.cells 43 zS) :: ([(b11,.cells 9 cs11)] ++ (s' ++ [(b2,.cells 97 cs4)]))) (fun s'=>cl18) (fun a7 c7 s7 hr7=>?_)
     generalize x.rules ++ [(⟨nMore,ki.name,nj,n4,0⟩:Rul)]=rs7 at *
     repeat' (first|refine sk40 ?_|(intro b;conv=>whnf))
     refine Rs.c aa0 (m:=1) rfl rfl rfl rfl rfl rfl ?_
     repeat' (first|refine sk40 ?_|(intro b;conv=>whnf))
     exact ap1 (ρ:=bxB b4 x (.slice (some ⟨b2,0,none⟩) x.kinds.length c1) (.slice a7 (rs7.map rulC).length c7) :: bxB b8 x (.slice (some ⟨b2,0,none⟩) x.kinds.length c1) (.slice a7 (rs7.map rulC).length c7) :: [(b11,.cells 9 cs11)]) hkr1 hr7 cl19 ⟨_,rfl,rfl,fin ks1 rs7 hkl1 hck1 hrl3 hcr3⟩
    ·by_cases hr0:x.rules.length=0
     ·repeat' (first|refine sk40 ?_|(intro b;conv=>whnf))
      refine Rs.c aa0 (m:=1) rfl rfl rfl rfl rfl rfl ?_
      repeat' (first|refine sk40 ?_|(intro b;conv=>whnf))
      exact ap1 (ρ:=bxB b4 x (.slice (some ⟨b2,0,none⟩) x.kinds.length c1) (.slice a2 x.rules.length c2) :: bxB b8 x (.slice (some ⟨b2,0,none⟩) x.kinds.length c1) (.slice a2 x.rules.length c2) :: [(b11,.cells 9 cs11)]) hkr1 hrr cl19 ⟨_,rfl,rfl,fin ks1 x.rules hkl1 hck1 (by omega) h.rs⟩
     ·have har:=aA9 at_ x.rules.length
      have har':=har.2.1 (by omega)
      obtain ⟨ir,hir⟩:∃ i:Nat,arE at_ x.rules.length=i:=⟨(arE at_ x.rules.length).toNat,by omega⟩
      obtain ⟨rk,hrk⟩:∃ r,x.rules[ir]?=some r:=⟨_,List.getElem?_eq_getElem (by omega)⟩
      have hcr:=h.rs rk (List.mem_of_getElem? hrk)
      obtain ⟨b5,cap5,cs5,e5,rfl,hcs5⟩:=RowIs.get hrr (show (x.rules.map rulC)[ir]?=some (rulC rk) by rw [List.getElem?_map,hrk];rfl)
      rw [List.length_map] at e5
      cases e5
      by_cases q7:arE how 9=7
      ·have hf7:=RowIs.put1 (d:=sD nj) hrr (show (x.rules.map rulC)[ir]?=some (rulC rk) by rw [List.getElem?_map,hrk];rfl) (show 2<5 by omega)
       have e7:(x.rules.map rulC).set ir ((rulC rk).set 2 (sD nj))=(x.rules.set ir ⟨rk.name,rk.kind,nj,rk.b,rk.n⟩).map rulC:=by rw [List.map_set];rfl
       rw [e7] at hf7
       have hl7:ir*5+2<cs5.length:=(List.getElem?_eq_some_iff.1 (hcs5 2 (by omega))).1
       have hrl3:(x.rules.set ir ⟨rk.name,rk.kind,nj,rk.b,rk.n⟩).length≤3:=by rw [List.length_set];omega
       have hcr3:∀ r∈x.rules.set ir ⟨rk.name,rk.kind,nj,rk.b,rk.n⟩,CR r:=fun r hr=>by
        rcases List.mem_or_eq_of_mem_set hr with hr|rfl
        ·exact h.rs r hr
        ·exact ⟨hcr.nm,hcr.kd,hnjs,hcr.b,hcr.n⟩
       generalize x.rules.set ir ⟨rk.name,rk.kind,nj,rk.b,rk.n⟩=rs7 at *
       repeat' (first|refine sk40 ?_|(intro b;conv=>whnf))
       refine Sv.cellm (tb:=105) (cs:=cs5) (cs':=cs5.set (ir*5+2) (sD nj)) (τ:=bxB b4 x (.slice (some ⟨b2,0,none⟩) x.kinds.length c1) (.slice (some ⟨b5,0,none⟩) x.rules.length c2) :: (b8,.cells 43 zS) :: ([(b11,.cells 9 cs11)] ++ [(b2,.cells 97 cs4)])) cl19 (by rw [hir,show 0+((ir:Nat):Int).toNat*5+2=ir*5+2 by simp];exact hl7) rfl (by rw [hir,show 0+((ir:Nat):Int).toNat*5+2=ir*5+2 by simp]) ?_
       repeat' (first|refine sk40 ?_|(intro b;conv=>whnf))
       refine Rs.c aa0 (m:=2) rfl rfl rfl rfl rfl rfl ?_
       repeat' (first|refine sk40 ?_|(intro b;conv=>whnf))
       exact ap1 (ρ:=bxB b4 x (.slice (some ⟨b2,0,none⟩) x.kinds.length c1) (.slice (some ⟨b5,0,none⟩) x.rules.length c2) :: bxB b8 x (.slice (some ⟨b2,0,none⟩) x.kinds.length c1) (.slice (some ⟨b5,0,none⟩) x.rules.length c2) :: [(b11,.cells 9 cs11)]) hkr1 hf7 cl19 ⟨_,rfl,rfl,fin ks1 rs7 hkl1 hck1 hrl3 hcr3⟩
      ·have hrl3:(x.rules ++ [rk]).length≤3:=by rw [List.length_append,List.length_singleton];omega
       have hcr3:∀ r∈x.rules ++ [rk],CR r:=fun r hr=>by
        rcases List.mem_append.1 hr with hr|hr
        ·exact h.rs r hr
        ·rw [List.mem_singleton] at hr;subst hr;exact hcr
       repeat' (first|refine sk40 ?_|(intro b;conv=>whnf))
       refine Ld.rowm (tb:=105) (cs:=cs5) (x:=rulC rk) (by simp) rfl (by decide) (fun j hj=>by rw [hir,show 0+((ir:Nat):Int).toNat*5+j=ir*5+j by simp];exact hcs5 j hj) ?_
       repeat' (first|refine sk40 ?_|(intro b;conv=>whnf))
       refine Ap.go rfl rfl rfl rfl hrr (τ:=bxB b4 x (.slice (some ⟨b2,0,none⟩) x.kinds.length c1) (.slice (some ⟨b5,0,none⟩) x.rules.length c2) :: (b8,.cells 43 zS) :: ([(b11,.cells 9 cs11)] ++ [(b2,.cells 97 cs4)])) cl19 rfl (zs:=(x.rules ++ [rk]).map rulC) (by rw [List.map_append];rfl) (by simp;omega) (by simp;omega) (fun s'=>bxB b4 x (.slice (some ⟨b2,0,none⟩) x.kinds.length c1) (.slice (some ⟨b5,0,none⟩) x.rules.length c2) :: (b8,.cells 43 zS) :: ([(b11,.cells 9 cs11)] ++ (s' ++ [(b2,.cells 97 cs4)]))) (fun s'=>cl18) (fun a7 c7 s7 hr7=>?_)
       generalize x.rules ++ [rk]=rs7 at *
       repeat' (first|refine sk40 ?_|(intro b;conv=>whnf))
       refine Rs.c aa0 (m:=1) rfl rfl rfl rfl rfl rfl ?_
       repeat' (first|refine sk40 ?_|(intro b;conv=>whnf))
       exact ap1 (ρ:=bxB b4 x (.slice (some ⟨b2,0,none⟩) x.kinds.length c1) (.slice a7 (rs7.map rulC).length c7) :: bxB b8 x (.slice (some ⟨b2,0,none⟩) x.kinds.length c1) (.slice a7 (rs7.map rulC).length c7) :: [(b11,.cells 9 cs11)]) hkr1 hr7 cl19 ⟨_,rfl,rfl,fin ks1 rs7 hkl1 hck1 hrl3 hcr3⟩
end
end Go.Proofs.YtjbbmjjildhfbaaGreatDoor
