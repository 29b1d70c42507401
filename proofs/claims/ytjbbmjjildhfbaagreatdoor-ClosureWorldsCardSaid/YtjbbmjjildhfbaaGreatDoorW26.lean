/- A part of the proof: Sv Un Wo Wp Wq Wr. -/
import Derived.Test.YtjbbmjjildhfbaaGreatDoorW25
set_option maxRecDepth 100000
set_option maxHeartbeats 4000000
set_option linter.unusedVariables false
set_option linter.unusedSimpArgs false
namespace Go.Proofs.YtjbbmjjildhfbaaGreatDoor
section
open Go
theorem w_cells {o:Wd} {v:Value} {vs:List Value} {σ:aa1} (h:RWv o v vs σ) {k i:Nat} {l:List (List Int)} {r:List Int} (hl:o[k]?=some l) (hr:l[i]?=some r) (hne:r≠[]) :
  ∃ b0 cap0 cs0 b1 cap1 cs1 b2 cap2 cs2,v = .slice (some ⟨b0,0,none⟩) o.length cap0∧(b0,Blk.cells 75 cs0)∈σ∧(b1,Blk.cells 22 cs1)∈σ∧(b2,Blk.cells 3 cs2)∈σ∧cs0[k]?=some (.v (.slice (some ⟨b1,0,none⟩) l.length cap1)) ∧
   vs[k]?=some (.slice (some ⟨b1,0,none⟩) l.length cap1)∧cs1[i]?=some (.v (.slice (some ⟨b2,0,none⟩) r.length cap2))∧∀ (n:Nat) (c:Int),r[n]?=some c→cs2[n]?=some (iD c):=by
 obtain ⟨b0,cap0,cs0,u,t,τ,h1,h2,h3,h4,h5,_⟩:=h.at hl
 obtain ⟨b1,cap1,cs1,u2,t2,τ2,g1,g2,g3,g4,_⟩:=RowsOf.at h5 hr
 obtain ⟨b2,cap2,junk,e1,e2,_⟩:=RowIs.block g4 (by simpa using hne)
 subst g1 e2
 rw [List.length_map] at e1
 subst e1
 refine ⟨b0,cap0,cs0,b1,cap1,cs1,b2,cap2,(r.map fun n=>[iD n]).flatten ++ junk,h1,h2.mem_iff.2 (by simp),h2.mem_iff.2 (List.mem_cons_of_mem _ (List.mem_append_left _ (g2.mem_iff.2 (by simp)))),h2.mem_iff.2 (List.mem_cons_of_mem _ (List.mem_append_left _ (g2.mem_iff.2 (by simp)))),h3,h4,g3,fun n c hn=>?_⟩
 have hf:∀ r:List Int,(r.map fun n=>[iD n]).flatten=r.map iD:=fun r=>by
  induction r with
  | nil=>rfl
  | cons a l ih=>simp only [List.map_cons,List.flatten_cons,ih];rfl
 rw [hf,List.getElem?_append_left (by rw [List.length_map];exact (List.getElem?_eq_some_iff.1 hn).1),List.getElem?_map,hn]
 rfl
def RefIn (x:Sch) (o:Wd):Prop:=∀ rf∈aa7 x,∀ r∈o.getD rf.kind [],0≤r.getD rf.field 0∧r.getD rf.field 0<((o.getD rf.up.toNat []).length:Int)
theorem ref_mem {x:Sch} {q u:Nat} {ko:Knd} {gu:Fld} (hk:x.kinds[q]?=some ko) (hu:ko.fields[u]?=some gu) (h1:gu.kind=1):∃ rf∈aa7 x,rf.kind=q∧rf.field=u∧rf.up=upIx x q u:=by
 refine ⟨⟨q,u,upIx x q u,gu.lo⟩,aB5.2 ⟨q,(List.getElem?_eq_some_iff.1 hk).1,?_⟩,rfl,rfl,rfl⟩
 unfold refK
 rw [hk]
 refine aB5.2 ⟨u,(List.getElem?_eq_some_iff.1 hu).1,?_⟩
 unfold refF
 rw [hu]
 simp [h1]
theorem sumTo_const {o:Wd} {k f:Nat} {g g':Nat→Int} (h:∀ i,g i=g' i) (m:Nat):ag4 o k f g m=ag4 o k f g' m:=by
 rw [show g=g' from funext h]
theorem add_step {o:Wd} {k f u sh j i0:Nat} {l rows:List (List Int)} {y r0:List Int} {yu ys:Int} (hl:o[k]?=some l) (hy:rows[j]?=some y) (hyu:y[u]?=some yu) (hys:y[sh]?=some ys) (hi:yu=(i0:Int)) (h0:l[i0]?=some r0) :
  ag4 o k f (ag6 (rows.take (j+1)) u sh) l.length=(ag4 o k f (ag6 (rows.take j) u sh) l.length).set k ((l.mapIdx fun i r=>if i<l.length then r.set f (ag6 (rows.take j) u sh i) else r).set i0 (((r0.set f (ag6 (rows.take j) u sh i0))).set f (IntKind.i64.wrap (ag6 (rows.take j) u sh i0+ys)))):=by
 unfold ag4
 rw [List.set_set,aa4 hl]
 congr 1
 have hil:=(List.getElem?_eq_some_iff.1 h0).1
 refine List.ext_getElem? fun n=>?_
 by_cases e:n=i0
 ·subst e
  rw [List.getElem?_set_self (by simpa using hil),List.getElem?_mapIdx,h0,aC9 hy,aa4 hyu,aa4 hys,if_pos hi]
  simp [hil]
 ·rw [List.getElem?_set_ne (Ne.symm e),List.getElem?_mapIdx,List.getElem?_mapIdx]
  have:ag6 (rows.take (j+1)) u sh n=ag6 (rows.take j) u sh n:=by
   rw [aC9 hy,aa4 hyu,if_neg (by omega)]
  rw [this]
theorem cl_add (x:Sch) (hV:Vld x) (o:Wd) (ho:Wsh x o) (hr:RefIn x o) (k f:Nat) (kd:Knd) (hkd:x.kinds[k]?=some kd) (hfl:f<kd.fields.length) (hs0:0≤(ac6 x k f).1) (a:Option Addr) (c:Nat) (vs:List Value) (σ:aa1) (hR:RWv o (.slice a o.length c) vs σ) :
  ACall Tryz.prog 60 [schD x,.v (.slice a o.length c),iD k,iD f] σ (fun d σ'=>d = .v (.tuple #[])∧RWv (af9 x o k f) (.slice a o.length c) vs σ'):=by
 have hnk:=hV.nk
 have hnf:=hV.nf
 have hS1:=ty_Shares x k f (by omega) (fun k hk=>by have:=hnf k hk;omega)
 have hkl:=(List.getElem?_eq_some_iff.1 hkd).1
 have hfk:flen x k=kd.fields.length:=by unfold flen;rw [hkd]
 obtain ⟨q,sh,u,ko,g,gu,e1,hkq,hko,hg,hg7,hfu,hgu,hgu1,huq,hup⟩:=aI0 hs0
 have hql:=(List.getElem?_eq_some_iff.1 hko).1
 obtain ⟨l,hl⟩:∃ l,o[k]?=some l:=⟨_,List.getElem?_eq_getElem (by rw [ho.len];exact hkl)⟩
 obtain ⟨rows,hrows⟩:∃ l,o[q]?=some l:=⟨_,List.getElem?_eq_getElem (by rw [ho.len];exact hql)⟩
 have hst:af9 x o k f=ag4 o k f (ag6 rows u sh) l.length:=by
  unfold af9
  rw [e1,if_neg (by simp only;omega)]
  simp only [Int.toNat_natCast,hup]
  rw [aa4 hl,aa4 hrows]
 rw [e1] at hS1
 have hko':x.kinds[((q:Nat):Int).toNat]?=some ko:=hko
 have hg':ko.fields[((sh:Nat):Int).toNat]?=some g:=hg
 have hkf:=hnf ko (List.mem_of_getElem? hko)
 have hHF:=ak3 ko g.up (by omega)
 rw [hfu] at hHF
 have hll:=ho.nr l (List.mem_of_getElem? hl)
 have hrl:=ho.nr rows (List.mem_of_getElem? hrows)
 have hfq:flen x q=ko.fields.length:=by unfold flen;rw [hko]
 have hul:=(List.getElem?_eq_some_iff.1 hgu).1
 have hsl:=(List.getElem?_eq_some_iff.1 hg).1
 have hrw:∀ r∈rows,r.length=ko.fields.length:=fun r hr=>by rw [← hfq];exact ho.row q rows hrows r hr
 have hlw:∀ r∈l,r.length=kd.fields.length:=fun r hr=>by rw [← hfk];exact ho.row k l hl r hr
 have hin:∀ r∈rows,0≤r.getD u 0∧r.getD u 0<(l.length:Int):=by
  obtain ⟨rf,hrf,q1,q2,q3⟩:=ref_mem hko hgu hgu1
  have:=hr rf hrf
  rw [q1,q2,q3,huq,aa4 hrows,Int.toNat_natCast,aa4 hl] at this
  exact this
 have hko2:k<o.length:=by rw [ho.len];exact hkl
 have hqo2:q<o.length:=by rw [ho.len];exact hql
 obtain ⟨b0,cap0,cs0,a1,c1,e2,m0,h3,hv1⟩:=aS9 hR hl
 cases e2
 refine aa3 mixed aa0 Tryz.func60 (by kernel_rfl) rfl Tryz.ntmps60 rfl ?_;intro BB
 repeat' (first|refine sk106 ?_|(intro b;conv=>whnf))
 refine Ld.cellm m0 (by rw [ix1];exact h3) ?_
 repeat' (first|refine sk106 ?_|(intro b;conv=>whnf))
 refine aa6 mixed aa0 (γ:=Nat × aa1) (fun g=>[(43,iD g.1)]) (fun g=>g.2) (fun g=>g.1≤l.length∧RWv (ag4 o k f (fun _=>0) g.1) (.slice (some ⟨b0,0,none⟩) o.length c) vs g.2) (fun g=>l.length - g.1) (0,σ) (aa2 cl2) cl3 ⟨Nat.zero_le _,by rw [aB1];exact hR⟩ ?_
 clear hR m0 h3 cs0
 rintro ⟨i,σ1⟩ ⟨hi,hR1⟩
 simp only at hi hR1 ⊢
 have hl1:(ag4 o k f (fun _=>0) i).length=o.length:=by unfold ag4;rw [List.length_set]
 have hk1:=ar8 hl f (fun _=>0) i
 by_cases hil:i<l.length
 ·obtain ⟨r,hri⟩:∃ r,l[i]?=some r:=⟨_,List.getElem?_eq_getElem hil⟩
  have hrk:=hlw r (List.mem_of_getElem? hri)
  obtain ⟨rf,hrf⟩:∃ z,r[f]?=some z:=⟨_,List.getElem?_eq_getElem (by omega)⟩
  obtain ⟨f0,fap0,fs0,f1,fap1,fs1,f2,fap2,fs2,ρ1,e4,p4,k0,kv,k1,k2,k3⟩:=aN2 hR1 hk1 (aE7 hri f _) hrf
  rw [hl1] at e4
  cases e4
  rw [List.length_mapIdx] at kv
  cases hv1.symm.trans kv
  have o1:(f1,Blk.cells 22 fs1)∈σ1:=p4.mem_iff.2 (by simp)
  have hs1:=aB2 hl hri f (fun _=>0)
  repeat' (first|refine sk106 ?_|(intro b;conv=>whnf))
  refine Ld.cellm o1 (by rw [ix1];exact k1) ?_
  repeat' (first|refine sk106 ?_|(intro b;conv=>whnf))
  refine Sv.cellm (tb:=3) (cs:=fs2) (cs':=fs2.set f (iD 0)) (τ:=(b0,.cells 75 fs0) :: (f1,.cells 22 fs1) :: ρ1) (p4.trans cl27) (by rw [ix1];exact (List.getElem?_eq_some_iff.1 k2).1) rfl (by rw [ix1]) ?_
  repeat' (first|refine sk106 ?_|(intro b;conv=>whnf))
  have hR4:=RowsV.perm (k3 0) (s':=(f2,.cells 3 (fs2.set f (iD 0))) :: (b0,.cells 75 fs0) :: (f1,.cells 22 fs1) :: ρ1) ((List.Perm.swap _ _ _).trans (List.Perm.cons _ (List.Perm.swap _ _ _)))
  rw [← hs1] at hR4
  exact ⟨(i+1,(f2,.cells 3 (fs2.set f (iD 0))) :: (b0,.cells 75 fs0) :: (f1,.cells 22 fs1) :: ρ1),(aa2 cl2),cl3,⟨by simp only;omega,hR4⟩,by simp only;omega⟩
 ·obtain rfl:i=l.length:=by omega
  have hq1:(ag4 o k f (fun _=>0) l.length)[q]?=some rows:=by rw [aL5 (by omega)];exact hrows
  obtain ⟨d0,dap0,ds0,a2,c2,e3,n0,g3,hv2⟩:=aS9 hR1 hq1
  rw [hl1] at e3
  cases e3
  repeat' (first|refine sk106 ?_|(intro b;conv=>whnf))
  refine Ld.cellm n0 (by rw [ix1];exact g3) ?_
  repeat' (first|refine sk106 ?_|(intro b;conv=>whnf))
  refine aa6 mixed aa0 (γ:=Nat × aa1) (fun g=>[(56,iD g.1)]) (fun g=>g.2) (fun g=>g.1≤rows.length∧RWv (ag4 o k f (ag6 (rows.take g.1) u sh) l.length) (.slice (some ⟨b0,0,none⟩) o.length c) vs g.2) (fun g=>rows.length - g.1) (0,σ1) (aa2 cl2) cl3 ⟨Nat.zero_le _,hR1⟩ ?_
  clear hR1 n0 g3 hl1 hk1 hq1 ds0
  rintro ⟨j,σ2⟩ ⟨hj,hR2⟩
  simp only at hj hR2 ⊢
  by_cases hjl:j<rows.length
  ·have hl2:(ag4 o k f (ag6 (rows.take j) u sh) l.length).length=o.length:=by unfold ag4;rw [List.length_set]
   have hk2:=ar8 hl f (ag6 (rows.take j) u sh) l.length
   have hq2:(ag4 o k f (ag6 (rows.take j) u sh) l.length)[q]?=some rows:=by rw [aL5 (by omega)];exact hrows
   obtain ⟨y,hy⟩:∃ r,rows[j]?=some r:=⟨_,List.getElem?_eq_getElem hjl⟩
   have hyl:=hrw y (List.mem_of_getElem? hy)
   obtain ⟨yu,hyu⟩:∃ r,y[u]?=some r:=⟨_,List.getElem?_eq_getElem (by omega)⟩
   obtain ⟨ys,hys⟩:∃ r,y[sh]?=some r:=⟨_,List.getElem?_eq_getElem (by omega)⟩
   have hyin:=hin y (List.mem_of_getElem? hy)
   rw [aa4 hyu] at hyin
   obtain ⟨i0,rfl⟩:∃ i0:Nat,yu=i0:=⟨yu.toNat,by omega⟩
   have hi0:i0<l.length:=by omega
   obtain ⟨r0,hr0⟩:∃ r,l[i0]?=some r:=⟨_,List.getElem?_eq_getElem hi0⟩
   have hr0k:=hlw r0 (List.mem_of_getElem? hr0)
   have hstep:=add_step (f:=f) hl hy hyu hys rfl hr0
   obtain ⟨d0,dap0,ds0,d1,dap1,ds1,d2,dap2,ds2,e5,n0,n1,n2,g0,gv,g1,g2⟩:=w_cells hR2 hq2 hy (fun e=>by subst e;simp at hyu)
   rw [hl2] at e5
   cases e5
   cases hv2.symm.trans gv
   have hri:(l.mapIdx fun i r=>if i<l.length then r.set f (ag6 (rows.take j) u sh i) else r)[i0]?=some (r0.set f (ag6 (rows.take j) u sh i0)):=by
    rw [List.getElem?_mapIdx,hr0];simp [hi0]
   have hcf:(r0.set f (ag6 (rows.take j) u sh i0))[f]?=some (ag6 (rows.take j) u sh i0):=List.getElem?_set_self (by omega)
   obtain ⟨f0,fap0,fs0,f1,fap1,fs1,f2,fap2,fs2,ρ1,e4,p4,k0,kv,k1,k2,k3⟩:=aN2 hR2 hk2 hri hcf
   rw [hl2] at e4
   cases e4
   rw [List.length_mapIdx] at kv k0
   rw [List.length_set] at k1
   have o0:(b0,Blk.cells 75 fs0)∈σ2:=p4.mem_iff.2 (by simp)
   have o1:(f1,Blk.cells 22 fs1)∈σ2:=p4.mem_iff.2 (by simp)
   have o2:(f2,Blk.cells 3 fs2)∈σ2:=p4.mem_iff.2 (by simp)
   repeat' (first|refine sk106 ?_|(intro b;conv=>whnf))
   refine Ld.cellm n1 (by rw [ix1];exact g1) ?_
   repeat' (first|refine sk106 ?_|(intro b;conv=>whnf))
   refine Ld.cellm o0 (by rw [ix1];exact k0) ?_
   repeat' (first|refine sk106 ?_|(intro b;conv=>whnf))
   refine Ld.cellm n2 (by rw [ix1];exact g2 u _ hyu) ?_
   repeat' (first|refine sk106 ?_|(intro b;conv=>whnf))
   refine Ld.cellm o1 (by rw [ix1];exact k1) ?_
   repeat' (first|refine sk106 ?_|(intro b;conv=>whnf))
   refine Ld.cellm o2 (by rw [ix1];exact k2) ?_
   repeat' (first|refine sk106 ?_|(intro b;conv=>whnf))
   refine Ld.cellm n2 (by rw [ix1];exact g2 sh _ hys) ?_
   repeat' (first|refine sk107 ?_|(intro b;conv=>whnf))
   refine Bx.r ?_
   refine' Ot.yd ?hyw1 ?_
   case hyw1=>exact yd_addw rfl rfl rfl
   repeat' (first|refine sk106 ?_|(intro b;conv=>whnf))
   refine Sv.cellm (tb:=3) (cs:=fs2) (cs':=fs2.set f (iD (IntKind.i64.wrap (ag6 (rows.take j) u sh i0+ys)))) (τ:=(b0,.cells 75 fs0) :: (f1,.cells 22 fs1) :: ρ1) (p4.trans cl27) (by rw [ix1];exact (List.getElem?_eq_some_iff.1 k2).1) rfl (by rw [ix1]) ?_
   repeat' (first|refine sk106 ?_|(intro b;conv=>whnf))
   have hR4:=RowsV.perm (k3 (IntKind.i64.wrap (ag6 (rows.take j) u sh i0+ys))) (s':=(f2,.cells 3 (fs2.set f (iD (IntKind.i64.wrap (ag6 (rows.take j) u sh i0+ys))))) :: (b0,.cells 75 fs0) :: (f1,.cells 22 fs1) :: ρ1) ((List.Perm.swap _ _ _).trans (List.Perm.cons _ (List.Perm.swap _ _ _)))
   rw [← hstep] at hR4
   exact ⟨(j+1,(f2,.cells 3 (fs2.set f (iD (IntKind.i64.wrap (ag6 (rows.take j) u sh i0+ys))))) :: (b0,.cells 75 fs0) :: (f1,.cells 22 fs1) :: ρ1),(aa2 cl2),cl3,⟨by simp only;omega,hR4⟩,by simp only;omega⟩
  ·obtain rfl:j=rows.length:=by omega
   rw [List.take_length,← hst] at hR2
   repeat' (first|refine sk106 ?_|(intro b;conv=>whnf))
   exact Rt.same ⟨rfl,hR2⟩
end
section
open Go
variable {x:Sch} {w:Wd}
def Right (x:Sch) (w:Wd) (v:Sb):Prop:=∀ k i,keptB v k i=true→ar4 x w v k i=false
theorem right_of {v:Sb} (h:ak9 x w v=true):Right x w v:=by
 intro k i hk
 unfold ak9 at h
 simp only [Bool.and_eq_true,List.all_eq_true] at h
 have:=h.2 (k,i) (aG5 hk)
 simp only [hk,Bool.true_and,Bool.not_eq_true'] at this
 exact this
def OrTo (a b:Sb) (j i:Nat) (u:Sb):Prop:=u.map List.length=a.map List.length∧∀ k m,keptB u k m=(keptB a k m || (decide (k<j∨(k=j∧m<i)) && keptB b k m))
def IsOr (a b u:Sb):Prop:=u.map List.length=a.map List.length∧∀ k m,keptB u k m=(keptB a k m || keptB b k m)
theorem OrTo.zero (a b:Sb):OrTo a b 0 0 a:=⟨rfl,fun k m=>by
 have:decide (k<0∨(k=0∧m<0))=false:=by simp
 rw [this];simp⟩
theorem aM1 {s:Sb} {k i:Nat} (h:∀ l,s[k]?=some l→l.length≤i):keptB s k i=false:=by
 unfold keptB
 rw [List.getD_eq_getElem?_getD,List.getD_eq_getElem?_getD]
 cases e:s[k]? with
 | none=>rfl
 | some l=>rw [Option.getD_some,List.getElem?_eq_none (h l e)];rfl
theorem kept_set {s:Sb} {k i:Nat} {l:List Bool} (hl:s[k]?=some l) (hi:i<l.length) (v:Bool) (k' i':Nat):keptB (s.set k (l.set i v)) k' i'=if k'=k∧i'=i then v else keptB s k' i':=by
 unfold keptB
 simp only [List.getD_eq_getElem?_getD]
 by_cases e:k'=k
 ·subst e
  rw [List.getElem?_set_self (List.getElem?_eq_some_iff.1 hl).1,hl]
  simp only [Option.getD_some,true_and]
  by_cases e2:i'=i
  ·subst e2;rw [List.getElem?_set_self hi];simp
  ·rw [List.getElem?_set_ne (Ne.symm e2),if_neg e2]
 ·rw [List.getElem?_set_ne (Ne.symm e),if_neg (by simp [e])]
theorem OrTo.next {a b u:Sb} {j i:Nat} {l:List Bool} (h:OrTo a b j i u) (hl:u[j]?=some l) (hi:i<l.length):OrTo a b j (i+1) (u.set j (l.set i (keptB u j i || keptB b j i))):=by
 refine ⟨?_,fun k m=>?_⟩
 ·rw [← h.1,List.map_set,List.length_set]
  refine List.ext_getElem? fun n=>?_
  by_cases e:n=j
  ·subst e
   rw [List.getElem?_set_self (by rw [List.length_map];exact (List.getElem?_eq_some_iff.1 hl).1),List.getElem?_map,hl];rfl
  ·rw [List.getElem?_set_ne (Ne.symm e)]
 ·rw [kept_set hl hi]
  by_cases e:k=j∧m=i
  ·obtain ⟨rfl,rfl⟩:=e
   rw [if_pos ⟨rfl,rfl⟩,h.2 k m]
   have h1:decide (k<k∨(k=k∧m<m))=false:=by simp
   have h2:decide (k<k∨(k=k∧m<m+1))=true:=by simp
   rw [h1,h2];simp
  ·rw [if_neg e,h.2 k m]
   have:decide (k<j∨(k=j∧m<i))=decide (k<j∨(k=j∧m<i+1)):=decide_eq_decide.2 ⟨fun h=>by omega,fun h=>by omega⟩
   rw [this]
theorem OrTo.row {a b u:Sb} {j:Nat} {l:List Bool} (h:OrTo a b j l.length u) (hb:b.map List.length=a.map List.length) (hl:u[j]?=some l):OrTo a b (j+1) 0 u:=by
 refine ⟨h.1,fun k m=>?_⟩
 rw [h.2 k m]
 by_cases e:k=j∧l.length≤m
 ·have:keptB b k m=false:=by
   obtain ⟨rfl,e⟩:=e
   refine aM1 fun l' hl'=>?_
   obtain ⟨l2,h2,e2⟩:=ai1 (hb.trans h.1.symm) hl'
   rw [hl] at h2;cases h2;omega
  rw [this];simp
 ·have:decide (k<j∨(k=j∧m<l.length))=decide (k<j+1∨(k=j+1∧m<0)):=decide_eq_decide.2 ⟨fun h=>by omega,fun h=>by omega⟩
  rw [this]
theorem OrTo.all {a b u:Sb} (h:OrTo a b u.length 0 u) (hb:b.map List.length=a.map List.length):IsOr a b u:=by
 refine ⟨h.1,fun k m=>?_⟩
 rw [h.2 k m]
 by_cases e:k<u.length
 ·have:decide (k<u.length∨(k=u.length∧m<0))=true:=by simp [e]
  rw [this,Bool.true_and]
 ·have:keptB b k m=false:=aM1 fun l hl=>by
   have h1:=(List.getElem?_eq_some_iff.1 hl).1
   have h2:=congrArg List.length (hb.trans h.1.symm)
   simp at h2;omega
  rw [this];simp
end
section
open Go
def al4 (w:Wd) (s:Sb) (k m:Nat):List (List Int):=((List.range m).filter (keptB s k)).map fun i=>(w.getD k []).getD i []
def nowN (s:Sb) (k i:Nat):Nat:=((List.range i).filter (keptB s k)).length
theorem aw6 (w:Wd) (s:Sb) (k m:Nat):(al4 w s k m).length=nowN s k m:=by simp [al4,nowN]
theorem aZ8 (s:Sb) (k m:Nat):nowN s k m≤m:=by
 unfold nowN
 have:=List.length_filter_le (keptB s k) (List.range m)
 simpa using this
theorem rowsTo_yes {w:Wd} {s:Sb} {k m:Nat} {l:List (List Int)} {r:List Int} (hl:w[k]?=some l) (hr:l[m]?=some r) (h:keptB s k m=true):al4 w s k (m+1)=al4 w s k m ++ [r]:=by
 unfold al4
 rw [List.range_succ,List.filter_append,List.map_append]
 simp [h,List.getD_eq_getElem?_getD,hl,hr]
theorem rowsTo_no {w:Wd} {s:Sb} {k m:Nat} (h:keptB s k m=false):al4 w s k (m+1)=al4 w s k m:=by
 unfold al4
 rw [List.range_succ,List.filter_append,List.map_append]
 simp [h]
theorem bg2 (s:Sb) (k m:Nat):nowN s k (m+1)=nowN s k m+(if keptB s k m then 1 else 0):=by
 unfold nowN
 rw [List.range_succ,List.filter_append,List.length_append]
 cases h:keptB s k m <;> simp [h]
theorem nowN_mono (s:Sb) (k:Nat) {m n:Nat} (h:m≤n):nowN s k m≤nowN s k n:=by
 induction h with
 | refl=>exact Nat.le_refl _
 | step h ih=>rw [bg2];omega
theorem nowN_lt {s:Sb} {k m n:Nat} (h:m<n) (hk:keptB s k m=true):nowN s k m<nowN s k n:=by
 have:=nowN_mono s k (show m+1≤n from h)
 rw [bg2,if_pos hk] at this
 omega
def al0 {β:Type} (n:Nat) (len:Nat→Nat) (f:Nat→Nat→List β) (j i:Nat):List (List β):=(List.range n).map fun k=>if k<j then f k (len k) else if k=j then f k i else f k 0
section
variable {β:Type} {n:Nat} {len:Nat→Nat} {f:Nat→Nat→List β}
theorem as7 (j i:Nat):(al0 n len f j i).length=n:=by simp [al0]
theorem ax3 {j i k:Nat} (h:k<n):(al0 n len f j i)[k]?=some (if k<j then f k (len k) else if k=j then f k i else f k 0):=by
 unfold al0
 rw [List.getElem?_map,List.getElem?_range h];rfl
theorem aP8 {j i:Nat} (h:j<n):(al0 n len f j i)[j]?=some (f j i):=by rw [ax3 h,if_neg (by omega),if_pos rfl]
theorem aB6 {j i:Nat} (i':Nat) (h:j<n):al0 n len f j i'=(al0 n len f j i).set j (f j i'):=by
 refine List.ext_getElem? fun k=>?_
 by_cases hk:k<n
 ·by_cases e:k=j
  ·subst e
   rw [aP8 hk,List.getElem?_set_self (by rw [as7];exact hk)]
  ·rw [List.getElem?_set_ne (Ne.symm e),ax3 hk,ax3 hk,if_neg e,if_neg e]
 ·rw [List.getElem?_eq_none (by rw [as7];omega),List.getElem?_eq_none (by rw [List.length_set,as7];omega)]
theorem aU1 (j:Nat):al0 n len f j (len j)=al0 n len f (j+1) 0:=by
 unfold al0
 refine List.map_congr_left fun k _=>?_
 by_cases h1:k<j
 ·rw [if_pos h1,if_pos (by omega)]
 ·rw [if_neg h1]
  by_cases h2:k=j
  ·subst h2;rw [if_pos rfl,if_pos (by omega)]
  ·rw [if_neg h2,if_neg (by omega)]
   split <;> rfl
theorem aP7 (h0:∀ k,f k 0=[]):al0 n len f 0 0=List.replicate n []:=by
 unfold al0
 refine List.ext_getElem? fun k=>?_
 by_cases hk:k<n
 ·rw [List.getElem?_map,List.getElem?_range hk,List.getElem?_replicate,if_pos hk]
  simp [h0]
 ·rw [List.getElem?_eq_none (by simp;omega),List.getElem?_eq_none (by simp;omega)]
end
def wlen (w:Wd) (k:Nat):Nat:=(w.getD k []).length
def outA (w:Wd) (s:Sb):Wd:=al0 w.length (wlen w) (al4 w s) w.length 0
theorem aL7 {w:Wd} {s:Sb} {k:Nat} {l:List (List Int)} (hl:w[k]?=some l):(outA w s)[k]?=some (al4 w s k l.length):=by
 have h:=(List.getElem?_eq_some_iff.1 hl).1
 unfold outA
 rw [ax3 h,if_pos h]
 unfold wlen
 rw [aa4 hl]
def orig (w:Wd) (s:Sb) (k n:Nat):List Int:=((outA w s).getD k []).getD n []
def aS4 (w:Wd) (s:Sb) (rf:Rf) (n:Nat):Int:=nowN s rf.up.toNat ((orig w s rf.kind n).getD rf.field 0).toNat
def av0 (w:Wd) (s:Sb) (o:Wd) (rf:Rf):Wd:=ag4 o rf.kind rf.field (aS4 w s rf) (o.getD rf.kind []).length
def ao3 (x:Sch) (w:Wd) (s:Sb) (q:Nat):Wd:=((aa7 x).take q).foldl (av0 w s) (outA w s)
def moved (x:Sch) (w:Wd) (s:Sb):Wd:=ao3 x w s (aa7 x).length
def ap4 (x:Sch) (w:Wd) (s:Sb):Wd × Int:=if ac0 x w s≠0 then ([],ac0 x w s) else if ak9 x w s=false then ([],8) else (sumsE x (moved x w s),0)
theorem at5 {x:Sch} {w:Wd} {s:Sb} {q:Nat} {rf:Rf} (h:(aa7 x)[q]?=some rf):ao3 x w s (q+1)=av0 w s (ao3 x w s q) rf:=by
 unfold ao3
 rw [ah6 h,List.foldl_append];rfl
theorem at0 (x:Sch) (w:Wd) (s:Sb):∀ q,q≤(aa7 x).length→shp (ao3 x w s q)=shp (outA w s)
 | 0,_=>rfl
 | q+1,h=>by
  rw [at5 (List.getElem?_eq_getElem (by omega)),av0,bd5,at0 x w s q (by omega)]
def am9 (o:Wd) (k n f:Nat):Int:=((o.getD k []).getD n []).getD f 0
theorem aI9 {o:Wd} {k f:Nat} {g:Nat→Int} {m:Nat} (k' n f':Nat) (h:k≠k'∨f≠f'):am9 (ag4 o k f g m) k' n f'=am9 o k' n f':=by
 unfold am9
 by_cases e:k=k'
 ·subst e
  have hf:f≠f':=h.resolve_left (fun h=>h rfl)
  cases hl:o[k]? with
  | none=>
   have:(ag4 o k f g m)[k]?=none:=by
    rw [List.getElem?_eq_none_iff] at hl ⊢
    unfold ag4;rw [List.length_set];exact hl
   simp only [List.getD_eq_getElem?_getD,hl,this]
  | some l=>
   rw [aa4 (ar8 hl f g m),aa4 hl]
   simp only [List.getD_eq_getElem?_getD,List.getElem?_mapIdx]
   cases hr:l[n]? with
   | none=>rfl
   | some r=>
    simp only [Option.map_some,Option.getD_some]
    split
    ·rw [List.getElem?_set_ne hf]
    ·rfl
 ·simp only [List.getD_eq_getElem?_getD,aL5 e]
theorem cell_set {o:Wd} {k f n m:Nat} {g:Nat→Int} {l:List (List Int)} {r:List Int} (hl:o[k]?=some l) (hr:l[n]?=some r) (hf:f<r.length) (hn:n<m):am9 (ag4 o k f g m) k n f=g n:=by
 unfold am9
 rw [aa4 (ar8 hl f g m)]
 have:(l.mapIdx fun i r=>if i<m then r.set f (g i) else r)[n]?=some (r.set f (g n)):=by
  rw [List.getElem?_mapIdx,hr];simp [hn]
 rw [aa4 this,aa4 (List.getElem?_set_self hf)]
theorem refs_apart (x:Sch):(aa7 x).Pairwise fun a b=>a.kind≠b.kind∨a.field≠b.field:=by
 have hF:∀ k kd i a,a∈refF x k kd i→a.kind=k∧a.field=i:=by
  intro k kd i a h
  unfold refF at h
  split at h
  ·split at h
   ·rw [List.mem_singleton] at h;subst h;exact ⟨rfl,rfl⟩
   ·cases h
  ·cases h
 have hK:∀ k a,a∈refK x k→a.kind=k:=by
  intro k a h
  unfold refK at h
  split at h
  ·obtain ⟨i,_,h⟩:=aB5.1 h;exact (hF _ _ _ _ h).1
  ·cases h
 unfold aa7 upTo
 rw [List.pairwise_flatMap]
 refine ⟨fun k _=>?_,List.nodup_range.imp fun hab a ha b hb=>.inl (by rw [hK _ _ ha,hK _ _ hb];exact hab)⟩
 unfold refK
 split
 ·unfold upTo
  rw [List.pairwise_flatMap]
  refine ⟨fun i _=>?_,List.nodup_range.imp fun hab a ha b hb=>.inr (by rw [(hF _ _ _ _ ha).2,(hF _ _ _ _ hb).2];exact hab)⟩
  unfold refF
  split
  ·split <;> simp
  ·simp
 ·simp
theorem refs_ne {x:Sch} {p q:Nat} {a b:Rf} (ha:(aa7 x)[p]?=some a) (hb:(aa7 x)[q]?=some b) (h:p≠q):a.kind≠b.kind∨a.field≠b.field:=by
 obtain ⟨l1,e1⟩:=List.getElem?_eq_some_iff.1 ha
 obtain ⟨l2,e2⟩:=List.getElem?_eq_some_iff.1 hb
 have hp:=List.pairwise_iff_getElem.1 (refs_apart x)
 rcases Nat.lt_or_gt_of_ne h with h|h
 ·have:=hp p q l1 l2 h;rwa [e1,e2] at this
 ·have:=hp q p l2 l1 h
  rw [e1,e2] at this
  exact this.imp Ne.symm Ne.symm
theorem bb6 {x:Sch} {w:Wd} {s:Sb} {p:Nat} {a:Rf} (ha:(aa7 x)[p]?=some a) (n:Nat):∀ q,q≤p→am9 (ao3 x w s q) a.kind n a.field=am9 (outA w s) a.kind n a.field
 | 0,_=>rfl
 | q+1,h=>by
  have hpl:=(List.getElem?_eq_some_iff.1 ha).1
  have hb:=List.getElem?_eq_getElem (l:=aa7 x) (i:=q) (by omega)
  rw [at5 hb,av0,aI9 _ _ _ (refs_ne hb ha (by omega)),bb6 ha n q (by omega)]
theorem cell_new {x:Sch} {w:Wd} {s:Sb} {p:Nat} {a:Rf} (ha:(aa7 x)[p]?=some a) {n:Nat} {l:List (List Int)} {r:List Int} (hl:(outA w s)[a.kind]?=some l) (hr:l[n]?=some r) (hf:a.field<r.length):∀ q,p<q→q≤(aa7 x).length→am9 (ao3 x w s q) a.kind n a.field=aS4 w s a n
 | 0,h,_=>by omega
 | q+1,h,hq=>by
  have hb:=List.getElem?_eq_getElem (l:=aa7 x) (i:=q) (by omega)
  rw [at5 hb]
  by_cases e:p=q
  ·subst e
   rw [ha] at hb
   obtain ⟨l',h1,h2⟩:=az6 (at0 x w s p (by omega)).symm hl
   have h3:=congrArg (fun z=>z[n]?) h2
   simp only [List.getElem?_map,hr,Option.map_some] at h3
   cases hr':l'[n]? with
   | none=>rw [hr'] at h3;cases h3
   | some r'=>
    rw [hr'] at h3
    simp only [Option.map_some,Option.some.injEq] at h3
    rw [← Option.some.inj hb,av0,aa4 h1,cell_set h1 hr' (by omega) (List.getElem?_eq_some_iff.1 hr').1]
  ·rw [av0,aI9 _ _ _ (refs_ne hb ha (Ne.symm e)),cell_new ha hl hr hf q (by omega) (by omega)]
end
section
open Go
variable {x:Sch} {w:Wd} {s:Sb}
theorem kept_row {k n:Nat} {l:List (List Int)} {r:List Int} (hl:w[k]?=some l) (hr:(al4 w s k l.length)[n]?=some r):∃ i,l[i]?=some r∧keptB s k i=true:=by
 unfold al4 at hr
 rw [List.getElem?_map] at hr
 cases hi:((List.range l.length).filter (keptB s k))[n]? with
 | none=>rw [hi] at hr;cases hr
 | some i=>
  rw [hi,Option.map_some,Option.some.injEq] at hr
  obtain ⟨h1,h2⟩:=List.mem_filter.1 (List.mem_of_getElem? hi)
  have hil:=List.mem_range.1 h1
  refine ⟨i,?_,h2⟩
  rw [← hr,aa4 hl,List.getElem?_eq_getElem hil,aa4 (List.getElem?_eq_getElem hil)]
theorem fit_flen (hF:Fit x w s) {k:Nat} {l:List (List Int)} (hl:w[k]?=some l) {r:List Int} (hr:r∈l):r.length=flen x k:=by
 have:=(ai9 hF.fit).2.1 k l hl
 rw [List.any_eq_false] at this
 have:=this r hr
 simp only [Bool.not_eq_true',Bool.not_eq_false,lenOk,decide_eq_true_eq] at this
 unfold flen
 cases hx:x.kinds[k]? with
 | none=>rw [hx] at this;exact this
 | some kd=>rw [hx] at this;exact this
theorem aF7:(outA w s).length=w.length:=as7 _ _
theorem outA_sh (hF:Fit x w s):Wsh x (outA w s) where
 len:=by rw [aF7];exact (ai9 hF.fit).1
 nr:=fun l hl=>by
  obtain ⟨k,hk⟩:=List.getElem?_of_mem hl
  have hkl:=(List.getElem?_eq_some_iff.1 hk).1
  rw [aF7] at hkl
  have hw:=List.getElem?_eq_getElem hkl
  rw [aL7 hw] at hk
  cases hk
  have:=hF.ws.nr _ (List.mem_of_getElem? hw)
  rw [aw6]
  have:=aZ8 s k (w[k]).length
  omega
 row:=fun k l hk r hr=>by
  have hkl:=(List.getElem?_eq_some_iff.1 hk).1
  rw [aF7] at hkl
  have hw:=List.getElem?_eq_getElem hkl
  rw [aL7 hw] at hk
  cases hk
  obtain ⟨n,hn⟩:=List.getElem?_of_mem hr
  obtain ⟨i,h1,_⟩:=kept_row hw hn
  exact fit_flen hF hw (List.mem_of_getElem? h1)
theorem aL8 (hF:Fit x w s) {q:Nat} (h:q≤(aa7 x).length):Wsh x (ao3 x w s q):=(outA_sh hF).shp (at0 x w s q h)
theorem aZ7 (hF:Fit x w s) (hv:ak9 x w s=true) {rf:Rf} (hrf:rf∈aa7 x) {n:Nat} {l:List (List Int)} {r:List Int} (hl:(outA w s)[rf.kind]?=some l) (hr:l[n]?=some r) :
  ∃ v:Nat,r[rf.field]?=some (v:Int)∧v<wlen w rf.up.toNat∧keptB s rf.up.toNat v=true:=by
 have hkl:=(List.getElem?_eq_some_iff.1 hl).1
 rw [aF7] at hkl
 have hw:=List.getElem?_eq_getElem hkl
 rw [aL7 hw] at hl
 cases hl
 obtain ⟨i,h1,h2⟩:=kept_row hw hr
 obtain ⟨kd,f,g1,g2,_,_,_⟩:=aL9 hrf
 have hlen:=fit_flen hF hw (List.mem_of_getElem? h1)
 unfold flen at hlen
 rw [g1] at hlen
 simp only at hlen
 have hfl:rf.field<r.length:=by rw [hlen];exact (List.getElem?_eq_some_iff.1 g2).1
 have hc:=List.getElem?_eq_getElem hfl
 have ho:=(ai9 hF.fit).2.2.1 rf hrf r (by rw [aa4 hw];exact List.mem_of_getElem? h1)
 unfold refOk at ho
 simp only [Bool.not_eq_true',Bool.or_eq_false_iff,decide_eq_false_iff_not] at ho
 rw [aa4 hc] at ho
 obtain ⟨v,ev⟩:∃ v:Nat,r[rf.field]=(v:Int):=⟨r[rf.field].toNat,by omega⟩
 refine ⟨v,by rw [hc,ev],by unfold wlen;omega,?_⟩
 have hR:=right_of hv _ _ h2
 unfold ar4 at hR
 rw [List.any_eq_false] at hR
 have:=hR rf hrf
 unfold au6 at this
 simp only [decide_true,Bool.true_and,Bool.or_eq_true,not_or,Bool.not_eq_true',Bool.not_eq_false] at this
 have h3:=this.1
 have hval:ay1 w rf.kind i rf.field=(v:Int):=by unfold ay1 aX5;rw [aa4 hw,aa4 h1,aa4 hc,ev]
 rw [hval] at h3
 simpa using h3
theorem aZ9 {rf:Rf} {n v:Nat} {l:List (List Int)} {r:List Int} (hl:(outA w s)[rf.kind]?=some l) (hr:l[n]?=some r) (hc:r[rf.field]?=some (v:Int)):aS4 w s rf n=nowN s rf.up.toNat v:=by
 unfold aS4 orig
 rw [aa4 hl,aa4 hr,aa4 hc]
 rfl
theorem aN9 {o o':Wd} (h:shp o=shp o') (k:Nat):(o.getD k []).length=(o'.getD k []).length:=by
 cases hl:o[k]? with
 | none=>
  have:o'[k]?=none:=by
   have:=congrArg List.length h
   simp [shp] at this
   rw [List.getElem?_eq_none_iff] at hl ⊢;omega
  simp only [List.getD_eq_getElem?_getD,hl,this]
 | some l=>
  obtain ⟨l',h1,h2⟩:=az6 h hl
  have:=congrArg List.length h2
  simp at this
  rw [aa4 hl,aa4 h1,this]
theorem up_len (hF:Fit x w s) {rf:Rf} (hrf:rf∈aa7 x):((outA w s).getD rf.up.toNat []).length=nowN s rf.up.toNat (wlen w rf.up.toNat):=by
 obtain ⟨h1,h2,h3⟩:=hF.snd.up rf hrf
 have hlt:rf.up.toNat<w.length:=by rw [(ai9 hF.fit).1];omega
 have hw:=List.getElem?_eq_getElem hlt
 rw [aa4 (aL7 hw),aw6]
 unfold wlen
 rw [aa4 hw]
theorem moved_in (hF:Fit x w s) (hv:ak9 x w s=true):RefIn x (moved x w s):=by
 intro rf hrf r hr
 obtain ⟨p,hp⟩:=List.getElem?_of_mem hrf
 have hpl:=(List.getElem?_eq_some_iff.1 hp).1
 have hS:=at0 x w s (aa7 x).length (Nat.le_refl _)
 obtain ⟨n,hn⟩:=List.getElem?_of_mem hr
 have hkl:rf.kind<(moved x w s).length:=by
  refine Nat.lt_of_not_le fun h=>?_
  rw [List.getD_eq_getElem?_getD,List.getElem?_eq_none h] at hr;cases hr
 have hk:=List.getElem?_eq_getElem hkl
 rw [aa4 hk] at hn
 obtain ⟨l0,q1,q2⟩:=az6 hS hk
 have h3:=congrArg (fun z=>z[n]?) q2
 simp only [List.getElem?_map,hn,Option.map_some] at h3
 cases hr0:l0[n]? with
 | none=>rw [hr0] at h3;cases h3
 | some r0=>
  obtain ⟨v,e1,e2,e3⟩:=aZ7 hF hv hrf q1 hr0
  have hfl:=(List.getElem?_eq_some_iff.1 e1).1
  have hc:=cell_new hp q1 hr0 hfl (aa7 x).length hpl (Nat.le_refl _)
  rw [aZ9 q1 hr0 e1] at hc
  unfold am9 at hc
  change ((List.getD (moved x w s) rf.kind []).getD n []).getD rf.field 0=_ at hc
  rw [aa4 hk,aa4 hn] at hc
  rw [hc]
  have hl:=aN9 hS rf.up.toNat
  change (List.getD (moved x w s) rf.up.toNat []).length=_ at hl
  rw [hl,up_len hF hrf]
  have:=nowN_lt e2 e3
  omega
end
section
open Go
def aS2 (w:Wd) (s:Sb) (m k:Nat):List (List Int):=(((ag1 s).take m).filter fun p=>p.1 == k).map fun p=>aX5 w p.1 p.2
def outK (w:Wd) (s:Sb) (m:Nat):Wd:=(List.range w.length).map (aS2 w s m)
theorem aF5 (w:Wd) (s:Sb) (m:Nat):(outK w s m).length=w.length:=by simp [outK]
theorem aF6 {w:Wd} {s:Sb} {m k:Nat} (h:k<w.length):(outK w s m)[k]?=some (aS2 w s m k):=by
 unfold outK
 rw [List.getElem?_map,List.getElem?_range h];rfl
theorem outK_zero (w:Wd) (s:Sb):outK w s 0=List.replicate w.length []:=by
 refine List.ext_getElem? fun k=>?_
 by_cases h:k<w.length
 ·rw [aF6 h,List.getElem?_replicate,if_pos h];rfl
 ·rw [List.getElem?_eq_none (by rw [aF5];omega),List.getElem?_eq_none (by simp;omega)]
theorem aT3 {w:Wd} {s:Sb} {m:Nat} {p:Nat × Nat} (h:(ag1 s)[m]?=some p) (k:Nat):aS2 w s (m+1) k=aS2 w s m k ++ (if p.1=k then [aX5 w p.1 p.2] else []):=by
 unfold aS2
 rw [ah6 h,List.filter_append,List.map_append]
 by_cases e:p.1=k <;> simp [e]
theorem outK_succ {w:Wd} {s:Sb} {m:Nat} {p:Nat × Nat} (h:(ag1 s)[m]?=some p) (hp:p.1<w.length):outK w s (m+1)=(outK w s m).set p.1 (aS2 w s m p.1 ++ [aX5 w p.1 p.2]):=by
 refine List.ext_getElem? fun k=>?_
 by_cases hk:k<w.length
 ·by_cases e:k=p.1
  ·subst e
   rw [aF6 hk,List.getElem?_set_self (by rw [aF5];exact hk),aT3 h,if_pos rfl]
  ·rw [List.getElem?_set_ne (Ne.symm e),aF6 hk,aF6 hk,aT3 h,if_neg (Ne.symm e),List.append_nil]
 ·rw [List.getElem?_eq_none (by rw [aF5];omega),List.getElem?_eq_none (by rw [List.length_set,aF5];omega)]
theorem bh0 (n k' k:Nat):((List.range n).map fun i=>(k',i)).filter (fun p=>p.1 == k)=if k'=k then (List.range n).map fun i=>(k,i) else []:=by
 by_cases e:k'=k
 ·subst e
  rw [if_pos rfl,List.filter_eq_self]
  intro p hp
  obtain ⟨i,_,rfl⟩:=List.mem_map.1 hp
  simp
 ·rw [if_neg e,List.filter_eq_nil_iff]
  intro p hp
  obtain ⟨i,_,rfl⟩:=List.mem_map.1 hp
  simp [e]
theorem bc5 (len:Nat→Nat) (k:Nat):∀ j,(upTo j fun k'=>(List.range (len k')).map fun i=>(k',i)).filter (fun p=>p.1 == k)=if k<j then (List.range (len k)).map fun i=>(k,i) else []
 | 0=>by rw [if_neg (by omega)];rfl
 | j+1=>by
  rw [ac8,List.filter_append,bc5 len k j,bh0]
  by_cases h1:k<j
  ·rw [if_pos h1,if_neg (by omega),if_pos (by omega),List.append_nil]
  ·rw [if_neg h1]
   by_cases h2:j=k
   ·subst h2;rw [if_pos rfl,if_pos (by omega)];rfl
   ·rw [if_neg h2,if_neg (by omega)];rfl
theorem posTo_kind (s:Sb) (j i k:Nat):(aD3 s j i).filter (fun p=>p.1 == k)=if k<j then (List.range (s.getD k []).length).map (fun i=>(k,i)) else if k=j then (List.range i).map (fun i=>(k,i)) else []:=by
 unfold aD3
 rw [List.filter_append,bc5 (fun k=>(s.getD k []).length),bh0]
 by_cases h1:k<j
 ·rw [if_pos h1,if_pos h1,if_neg (by omega),List.append_nil]
 ·rw [if_neg h1,if_neg h1]
  by_cases h2:k=j
  ·subst h2;simp
  ·rw [if_neg h2,if_neg (by omega)];rfl
theorem kept_map (w:Wd) (s:Sb) (k n:Nat):((((List.range n).map fun i=>(k,i)).filter fun p=>keptB s p.1 p.2).map fun p=>aX5 w p.1 p.2)=al4 w s k n:=by
 rw [List.filter_map,List.map_map]
 rfl
theorem take_kept {s:Sb} {j i:Nat} {l:List Bool} (h:s[j]?=some l) (hi:i≤l.length):(ag1 s).take (al6 s j i).length=al6 s j i:=by
 obtain ⟨r,hr⟩:=aU4 h hi
 rw [← hr,List.take_left]
theorem rowsK_of {w:Wd} {s:Sb} {m:Nat} {j i:Nat} (h:(ag1 s).take m=al6 s j i) (k:Nat):aS2 w s m k=if k<j then al4 w s k (s.getD k []).length else if k=j then al4 w s k i else []:=by
 unfold aS2
 rw [h]
 unfold al6
 rw [List.filter_filter,List.filter_congr (fun p _=>Bool.and_comm _ _),← List.filter_filter,posTo_kind]
 split
 ·exact kept_map _ _ _ _
 ·split
  ·exact kept_map _ _ _ _
  ·rfl
theorem take_at {s:Sb} {m:Nat} {p:Nat × Nat} (h:(ag1 s)[m]?=some p):(ag1 s).take m=al6 s p.1 p.2:=by
 have hk:keptB s p.1 p.2=true:=at7.1 (List.mem_of_getElem? h)
 unfold keptB at hk
 simp only [List.getD_eq_getElem?_getD] at hk
 cases hl:s[p.1]? with
 | none=>rw [hl] at hk;simp at hk
 | some l=>
  rw [hl,Option.getD_some] at hk
  cases hb:l[p.2]? with
  | none=>rw [hb] at hk;cases hk
  | some b=>
   rw [hb,Option.getD_some] at hk
   subst hk
   have hi:=(List.getElem?_eq_some_iff.1 hb).1
   have h2:=aU6 hl hi (at6 hl hb)
   have:m=(al6 s p.1 p.2).length:=(List.getElem?_inj (List.getElem?_eq_some_iff.1 h).1 (aQ1 s)).1 (h.trans h2.symm)
   rw [this]
   exact take_kept hl (Nat.le_of_lt hi)
theorem be1 {w:Wd} {s:Sb} {m:Nat} {p:Nat × Nat} (h:(ag1 s)[m]?=some p):(aS2 w s m p.1).length=nowN s p.1 p.2:=by
 rw [rowsK_of (take_at h),if_neg (by omega),if_pos rfl,aw6]
theorem outK_all {w:Wd} {s:Sb} (h:w.map List.length=s.map List.length):outK w s (ag1 s).length=outA w s:=by
 unfold outK outA al0
 refine List.map_congr_left fun k hk=>?_
 have hkw:=List.mem_range.1 hk
 have hl:w.length=s.length:=by have:=congrArg List.length h;simpa using this
 rw [rowsK_of (j:=s.length) (i:=0) (by rw [List.take_length,aU5]),if_pos (by omega),if_pos hkw]
 have h1:=List.getElem?_eq_getElem hkw
 obtain ⟨m,hm,e⟩:=ai1 h h1
 unfold wlen
 rw [aa4 hm,aa4 h1,e]
end
section
open Go
theorem aV9 {x:Sch} {w:Wd} {s:Sb} (h:ac0 x w s≠0):ap4 x w s=([],ac0 x w s):=by unfold ap4;rw [if_pos h]
theorem world_8 {x:Sch} {w:Wd} {s:Sb} (h:ac0 x w s=0) (h2:ak9 x w s=false):ap4 x w s=([],8):=by unfold ap4;rw [if_neg (by simpa using h),if_pos h2]
theorem aN0 {x:Sch} {w:Wd} {s:Sb} (h:ac0 x w s=0) (h2:ak9 x w s=true):ap4 x w s=(sumsE x (moved x w s),0):=by unfold ap4;rw [if_neg (by simpa using h),if_neg (by simp [h2])]
theorem rw_nil:RW [] (.slice none 0 0) []:=RowsOf.nil _ _
def aw0 (s:Sb) (k i:Nat):List Int:=(List.range i).map fun n=>(nowN s k n:Int)
theorem nowTo_succ (s:Sb) (k i:Nat):aw0 s k (i+1)=aw0 s k i ++ [(nowN s k i:Int)]:=by simp [aw0,List.range_succ]
theorem aP0 (s:Sb) (k i:Nat):(aw0 s k i).length=i:=by simp [aw0]
def nowA (w:Wd) (s:Sb):List (List Int):=al0 w.length (wlen w) (aw0 s) w.length 0
theorem nowA_get {w:Wd} {s:Sb} {k:Nat} (h:k<w.length):(nowA w s)[k]?=some (aw0 s k (wlen w k)):=by
 unfold nowA
 rw [ax3 h,if_pos h]
theorem nowTo_get {s:Sb} {k i n:Nat} (h:n<i):(aw0 s k i)[n]?=some (nowN s k n:Int):=by
 unfold aw0
 rw [List.getElem?_map,List.getElem?_range h];rfl
theorem sk108 {A B:Prop} (k:B) (h:Hd7 B→A:=by intro hk7q;(first|refine sb0 ?_|refine sb1 ?_|((with_reducible refine' Cp.by ?hc ?_);(case hc=>first|exact HC|exact HK|exact HRf))|((with_reducible refine' CE.pure ?hc ?_);(case hc=>first|exact HC|exact HK|exact HRf)));exact hk7q.run):A:=h ⟨k⟩
theorem sb109 {A B:Prop} (k:B) (h:Hd7 B→A:=by intro hk7q;(first|(with_reducible refine Bc.l ?_)|(with_reducible refine Bx.l ?_)|fail|((with_reducible refine Dm.l ?h ?_);(case h=>decide +kernel))|((with_reducible refine Cb.go ?h ?_);(case h=>decide +kernel)));exact hk7q.run):A:=h ⟨k⟩
theorem sk110 {A B:Prop} (k:B) (h:Hd7 B→A:=by intro hk7q;(first|refine sb0 ?_|refine sb109 ?_|((with_reducible refine' Cp.by ?hc ?_);(case hc=>first|exact HC|exact HK|exact HRf))|((with_reducible refine' CE.pure ?hc ?_);(case hc=>first|exact HC|exact HK|exact HRf)));exact hk7q.run):A:=h ⟨k⟩
theorem cl28 {p:Prop} (h:p:=by refine ac3 fun a=>?_;have e1:=And.intro (al2 p0 a) (al2 q3 a);simp only [List.append_eq,List.nil_append,ac4,ae7,af1] at e1 ⊢;omega):p:=h
theorem r31_world (x:Sch) (w:Wd) (s:Sb) (hw:Ws w) (hs:Ss s) (HV:APure Tryz.prog 94 [schD x] (iD (ac9 x))):ACall Tryz.prog 35 [schD x,slW w,slS2 s] [] (fun d σ=>∃ v,d = .tup [.v v,iD (ap4 x w s).2]∧RW (ap4 x w s).1 v σ):=by
 have HC:=aD2 x w s hw HV
 have HK:=r31_valid x w s hw hs HV
 by_cases h0:ac0 x w s=0
 ·have hF:=av5 hw hs h0
  have hwl:=hw.nk
  by_cases h1:ak9 x w s=true
  ·rw [aN0 h0 h1]
   rw [h0] at HC
   rw [h1] at HK
   have HRf:=aX7 x hF.snd.vld
   refine aa3 mixed aa0 Tryz.func35 (by kernel_rfl) rfl Tryz.ntmps35 rfl ?_;intro BB
   repeat' (first|refine sk108 ?_|(intro b;conv=>whnf)|(with_reducible refine Br.t (beq_self_eq_true _) ?_)|(with_reducible refine Br.f Bool.not_true ?_)|(with_reducible refine Br.t (decide_eq_true trivial) ?_)|(with_reducible refine Br.f Bool.not_true ?_))
   refine Mk.go w.length rfl rfl rfl rfl rfl (by simp) (by omega) (by omega) (fun bo=>?_)
   repeat' (first|refine sk108 ?_|(intro b;conv=>whnf)|(with_reducible refine Br.t (beq_self_eq_true _) ?_)|(with_reducible refine Br.f Bool.not_true ?_)|(with_reducible refine Br.t (decide_eq_true trivial) ?_)|(with_reducible refine Br.f Bool.not_true ?_))
   refine Mk.go w.length rfl rfl rfl rfl rfl (by simp) (by omega) (by omega) (fun bn=>?_)
   repeat' (first|refine sk108 ?_|(intro b;conv=>whnf)|(with_reducible refine Br.t (beq_self_eq_true _) ?_)|(with_reducible refine Br.f Bool.not_true ?_)|(with_reducible refine Br.t (decide_eq_true trivial) ?_)|(with_reducible refine Br.f Bool.not_true ?_))
   have hR0:RW (al0 w.length (wlen w) (al4 w s) 0 0) (.slice (some ⟨bo,0,none⟩) w.length w.length) [(bo,.cells 75 (List.replicate w.length (.v (.slice none 0 0))))]:=by
    rw [aP7 (fun k=>rfl)]
    exact RowsOf.made (R:=RW1) (x0:=[]) (RowsOf.nil _ _) _ bo (by unfold maxLen;omega)
   have hN0:RW1 (al0 w.length (wlen w) (aw0 s) 0 0) (.slice (some ⟨bn,0,none⟩) w.length w.length) [(bn,.cells 22 (List.replicate w.length (.v (.slice none 0 0))))]:=by
    rw [aP7 (fun k=>rfl)]
    exact RowsOf.made (R:=RI) (x0:=[]) (RowIs.nil _ _) _ bn (by unfold maxLen;omega)
   refine aa6 mixed aa0 (γ:=Nat × aa1 × aa1) (fun g=>[(11,iD g.1)]) (fun g=>g.2.2 ++ g.2.1) (fun g=>g.1≤w.length∧RW (al0 w.length (wlen w) (al4 w s) g.1 0) (.slice (some ⟨bo,0,none⟩) w.length w.length) g.2.1∧RW1 (al0 w.length (wlen w) (aw0 s) g.1 0) (.slice (some ⟨bn,0,none⟩) w.length w.length) g.2.2) (fun g=>w.length - g.1) (0,[(bo,.cells 75 (List.replicate w.length (.v (.slice none 0 0))))],[(bn,.cells 22 (List.replicate w.length (.v (.slice none 0 0))))]) (aa2 cl2) cl3 ⟨Nat.zero_le _,hR0,hN0⟩ ?_
   clear hR0 hN0
   rintro ⟨k,σo,σn⟩ ⟨hk,hRo,hRn⟩
   simp only at hk hRo hRn ⊢
   by_cases hkl:k<w.length
   ·obtain ⟨l,hl⟩:∃ l,w[k]?=some l:=⟨_,List.getElem?_eq_getElem hkl⟩
    have hl':w[((k:Nat):Int).toNat]?=some l:=hl
    have hll:=hw.nr l (List.mem_of_getElem? hl)
    obtain ⟨sl,hsl,hsll⟩:=ai1 hF.shp hl
    have hsl':s[((k:Nat):Int).toNat]?=some sl:=hsl
    repeat' (first|refine sk108 ?_|(intro b;conv=>whnf)|(with_reducible refine Br.t (beq_self_eq_true _) ?_)|(with_reducible refine Br.f Bool.not_true ?_)|(with_reducible refine Br.t (decide_eq_true trivial) ?_)|(with_reducible refine Br.f Bool.not_true ?_))
    refine aa6 mixed aa0 (γ:=Nat × aa1 × aa1) (fun g=>[(12,iD g.1)]) (fun g=>g.2.2 ++ g.2.1) (fun g=>g.1≤l.length∧RW (al0 w.length (wlen w) (al4 w s) k g.1) (.slice (some ⟨bo,0,none⟩) w.length w.length) g.2.1∧RW1 (al0 w.length (wlen w) (aw0 s) k g.1) (.slice (some ⟨bn,0,none⟩) w.length w.length) g.2.2) (fun g=>l.length - g.1) (0,σo,σn) (aa2 cl2) cl3 ⟨Nat.zero_le _,hRo,hRn⟩ ?_
    clear hRo hRn
    rintro ⟨i,σo,σn⟩ ⟨hi,hRo,hRn⟩
    simp only at hi hRo hRn ⊢
    by_cases hil:i<l.length
    ·obtain ⟨r,hr⟩:∃ r,l[i]?=some r:=⟨_,List.getElem?_eq_getElem hil⟩
     have hr':l[((i:Nat):Int).toNat]?=some r:=hr
     obtain ⟨b,hb⟩:∃ b,sl[i]?=some b:=⟨_,List.getElem?_eq_getElem (by omega)⟩
     have hb':sl[((i:Nat):Int).toNat]?=some b:=hb
     have hkb:=at6 hsl hb
     obtain ⟨b0,cap0,cs0,u,t,τ,e0,p0,c0,hu,upo⟩:=RowsOf.at hRo (aP8 (len:=wlen w) (f:=al4 w s) (i:=i) hkl)
     obtain ⟨d0,dap0,ds0,ud,td,τd,e1,p1,c1,hud,upn⟩:=RowsOf.at hRn (aP8 (len:=wlen w) (f:=aw0 s) (i:=i) hkl)
     rw [as7] at e0 e1
     cases e0
     cases e1
     obtain ⟨a1,ca1,rfl⟩:=RowsOf.slice hu
     obtain ⟨a2,ca2,rfl⟩:=hud.slice
     have m0:(bo,Blk.cells 75 cs0)∈σn ++ σo:=List.mem_append_right _ (p0.mem_iff.2 (by simp))
     have n0:(bn,Blk.cells 22 ds0)∈σn ++ σo:=List.mem_append_left _ (p1.mem_iff.2 (by simp))
     have hnl:(aw0 s k i).length=i:=by simp [aw0]
     repeat' (first|refine sk108 ?_|(intro b;conv=>whnf)|(with_reducible refine Br.t (beq_self_eq_true _) ?_)|(with_reducible refine Br.f Bool.not_true ?_)|(with_reducible refine Br.t (decide_eq_true trivial) ?_)|(with_reducible refine Br.f Bool.not_true ?_))
     refine Ld.cellm n0 (by rw [ix1];exact c1) ?_
     repeat' (first|refine sk108 ?_|(intro b;conv=>whnf)|(with_reducible refine Br.t (beq_self_eq_true _) ?_)|(with_reducible refine Br.f Bool.not_true ?_)|(with_reducible refine Br.t (decide_eq_true trivial) ?_)|(with_reducible refine Br.f Bool.not_true ?_))
     refine Ld.cellm m0 (by rw [ix1];exact c0) ?_
     repeat' (first|refine sk108 ?_|(intro b;conv=>whnf)|(with_reducible refine Br.t (beq_self_eq_true _) ?_)|(with_reducible refine Br.f Bool.not_true ?_)|(with_reducible refine Br.t (decide_eq_true trivial) ?_)|(with_reducible refine Br.f Bool.not_true ?_))
     refine Ap.go rfl rfl rfl rfl hud (τ:=(bn,.cells 22 ds0) :: (τd ++ σo)) ((p1.append_right σo).trans cl27) rfl (zs:=(aw0 s k (i+1)).map fun n=>[iD n]) (by rw [nowTo_succ,List.map_append,aw6];rfl) (by rw [List.length_map,aP0];omega) (by rw [List.length_map,aP0];omega) (fun s2=>s2 ++ ((bn,.cells 22 ds0) :: (τd ++ σo))) (fun s2=>List.Perm.refl _) (fun a7 c7 s7 hr7=>?_)
     repeat' (first|refine sk108 ?_|(intro b;conv=>whnf)|(with_reducible refine Br.t (beq_self_eq_true _) ?_)|(with_reducible refine Br.f Bool.not_true ?_)|(with_reducible refine Br.t (decide_eq_true trivial) ?_)|(with_reducible refine Br.f Bool.not_true ?_))
     refine Sv.cellm (tb:=22) (cs:=ds0) (cs':=ds0.set k (.v (.slice a7 ((aw0 s k (i+1)).map fun n=>[iD n]).length c7))) (τ:=(s7 ++ τd) ++ σo) cl27 (by rw [ix1];exact (List.getElem?_eq_some_iff.1 c1).1) rfl (by rw [ix1]) ?_
     have hRn2:=upn _ _ s7 ((bn,.cells 22 (ds0.set k (.v (.slice a7 ((aw0 s k (i+1)).map fun n=>[iD n]).length c7)))) :: (s7 ++ τd)) hr7 (List.Perm.refl _)
     rw [← aB6 (i+1) hkl] at hRn2
     generalize hsn:(bn,Blk.cells 22 (ds0.set k (.v (.slice a7 ((aw0 s k (i+1)).map fun n=>[iD n]).length c7)))) :: (s7 ++ τd)=σn2 at hRn2
     have hsn':(bn,Blk.cells 22 (ds0.set k (.v (.slice a7 ((aw0 s k (i+1)).map fun n=>[iD n]).length c7)))) :: ((s7 ++ τd) ++ σo)=σn2 ++ σo:=by rw [← hsn];rfl
     rw [hsn']
     have m0:(bo,Blk.cells 75 cs0)∈σn2 ++ σo:=List.mem_append_right _ (p0.mem_iff.2 (by simp))
     cases b with
     | false=>
      have e:=rowsTo_no (w:=w) (s:=s) hkb
      repeat' (first|refine sk108 ?_|(intro b;conv=>whnf)|(with_reducible refine Br.t (beq_self_eq_true _) ?_)|(with_reducible refine Br.f Bool.not_true ?_)|(with_reducible refine Br.t (decide_eq_true trivial) ?_)|(with_reducible refine Br.f Bool.not_true ?_))
      exact ⟨(i+1,σo,σn2),(aa2 cl2),cl3,⟨by simp only;omega,by rw [aB6 (i:=i) (i+1) hkl,e,← aB6 (i:=i) i hkl];exact hRo,hRn2⟩,by simp only;omega⟩
     | true=>
      have e:=rowsTo_yes (s:=s) hl hr hkb
      have hrl:=hw.nf l (List.mem_of_getElem? hl) r (List.mem_of_getElem? hr)
      obtain ⟨vs,s0,ts,q1,q2,q3⟩:=hu.ex
      have hlen:=q2.len.1
      have hnl2:=aw6 w s k i
      have hnle:=aZ8 s k i
      clear hRo hRn hud upn hr7 n0 p1 c1
      repeat' (first|refine sk110 ?_|(intro b;conv=>whnf)|(with_reducible refine Br.t (beq_self_eq_true _) ?_)|(with_reducible refine Br.f Bool.not_true ?_)|(with_reducible refine Br.t (decide_eq_true trivial) ?_)|(with_reducible refine Br.f Bool.not_true ?_))
      (refine Dr.r ?_;(((with_reducible refine W.mk ?_);(conv=>whnf)));refine Dm.r ?_;refine W.mk ?_)
      refine aK1 mixed aa0 rfl [0,1,2,3,4,7,8,9,10,11,12,13] 7 (inE [5,6,14,15,16,18]) (.two 5 (.one 6 (.one 14 (.one 15 (.one 16 (.fst 17 (.one 18 .done)))))) 6 (.two 5 (.one 14 (.one 15 (.one 16 (.fst 17 (.one 18 .done))))) 14 (.two 5 (.one 15 (.one 16 (.fst 17 (.one 18 .done)))) 15 (.one 5 (.one 16 (.fst 17 (.one 18 .done))))))) (γ:=aa1) (fun _=>[]) (fun g=>σn2 ++ g) (fun g=>RW (al0 w.length (wlen w) (al4 w s) k (i+1)) (.slice (some ⟨bo,0,none⟩) w.length w.length) g) (by decide +kernel) ?_ ?_
      ·repeat' (first|refine sk110 ?_|(intro b;conv=>whnf)|(refine And.intro ?_ ?_ <;> (conv=>whnf))|((with_reducible refine' Ld.cellm (b:=bo) (cs:=cs0) ?mm8 ?hq8 ?_);(case mm8=>first|exact m0|exact List.mem_append_right _ m0);(case hq8=>(rw [ix1];exact c0)))|(refine Ap.go rfl rfl rfl rfl (RowIs.e0 _ _ _) (List.Perm.refl ([] ++ _)) (one_i r) (zs:=r.map fun n=>[iD n]) rfl (by simp;omega) (by simp;omega) (fun s'=>s' ++ _) (fun s'=>List.Perm.refl _) (fun a6 c6 s6 hr6=>?_))|(refine Ap.go rfl rfl rfl rfl q1 (τ:=(bo,.cells 75 cs0) :: (ts.flatten ++ (s6 ++ (τ ++ σn2)))) cl28 rfl (zs:=vs.map (fun u=>[D.v u]) ++ [[D.v (.slice a6 (r.map fun n=>[iD n]).length c6)]]) rfl (by simp [hlen];omega) (by simp [hlen];omega) (fun s2=>s2 ++ ((bo,.cells 75 cs0) :: (ts.flatten ++ (s6 ++ (τ ++ σn2))))) (fun s2=>List.Perm.refl _) (fun a9 c9 s9 hr9=>?_))|(refine OtE.yd rfl (bc2 aa0 rfl rfl rfl rfl rfl rfl rfl rfl rfl rfl) ?_))
       all_goals
        refine Sv.cellm (tb:=75) (cs:=cs0) (cs':=cs0.set k (.v (.slice a9 (vs.map (fun u=>[D.v u]) ++ [[D.v (.slice a6 (r.map fun n=>[iD n]).length c6)]]).length c9))) (τ:=((s9 ++ (ts.flatten ++ s6)) ++ τ) ++ σn2) cl27 (by rw [ix1];exact (List.getElem?_eq_some_iff.1 c0).1) rfl (by rw [ix1]) ?_
        repeat' (first|refine sk110 ?_|(intro b;conv=>whnf)|(refine And.intro ?_ ?_ <;> (conv=>whnf))|((with_reducible refine' Ld.cellm (b:=bo) (cs:=cs0) ?mm8 ?hq8 ?_);(case mm8=>first|exact m0|exact List.mem_append_right _ m0);(case hq8=>(rw [ix1];exact c0)))|(refine Ap.go rfl rfl rfl rfl (RowIs.e0 _ _ _) (List.Perm.refl ([] ++ _)) (one_i r) (zs:=r.map fun n=>[iD n]) rfl (by simp;omega) (by simp;omega) (fun s'=>s' ++ _) (fun s'=>List.Perm.refl _) (fun a6 c6 s6 hr6=>?_))|(refine Ap.go rfl rfl rfl rfl q1 (τ:=(bo,.cells 75 cs0) :: (ts.flatten ++ (s6 ++ (τ ++ σn2)))) cl28 rfl (zs:=vs.map (fun u=>[D.v u]) ++ [[D.v (.slice a6 (r.map fun n=>[iD n]).length c6)]]) rfl (by simp [hlen];omega) (by simp [hlen];omega) (fun s2=>s2 ++ ((bo,.cells 75 cs0) :: (ts.flatten ++ (s6 ++ (τ ++ σn2))))) (fun s2=>List.Perm.refl _) (fun a9 c9 s9 hr9=>?_))|(refine OtE.yd rfl (bc2 aa0 rfl rfl rfl rfl rfl rfl rfl rfl rfl rfl) ?_))
        have h8:=upo _ _ (s9 ++ (ts.flatten ++ s6)) ((bo,.cells 75 (cs0.set k (.v (.slice a9 (vs.map (fun u=>[D.v u]) ++ [[D.v (.slice a6 (r.map fun n=>[iD n]).length c6)]]).length c9)))) :: ((s9 ++ (ts.flatten ++ s6)) ++ τ)) (RowsOf.push q2 hr9 hr6 (List.Perm.refl _)) (List.Perm.refl _)
        rw [← e,← aB6 (i+1) hkl] at h8
        exact ⟨(bo,.cells 75 (cs0.set k (.v (.slice a9 (vs.map (fun u=>[D.v u]) ++ [[D.v (.slice a6 (r.map fun n=>[iD n]).length c6)]]).length c9)))) :: ((s9 ++ (ts.flatten ++ s6)) ++ τ),(aa2 cl2),Sc.perm cl27,h8⟩
      ·rintro σo2 hRo2
       repeat' (first|refine sk108 ?_|(intro b;conv=>whnf)|(with_reducible refine Br.t (beq_self_eq_true _) ?_)|(with_reducible refine Br.f Bool.not_true ?_)|(with_reducible refine Br.t (decide_eq_true trivial) ?_)|(with_reducible refine Br.f Bool.not_true ?_))
       exact ⟨(i+1,σo2,σn2),(aa2 cl2),cl3,⟨by simp only;omega,hRo2,hRn2⟩,by simp only;omega⟩
    ·obtain rfl:i=l.length:=by omega
     repeat' (first|refine sk108 ?_|(intro b;conv=>whnf)|(with_reducible refine Br.t (beq_self_eq_true _) ?_)|(with_reducible refine Br.f Bool.not_true ?_)|(with_reducible refine Br.t (decide_eq_true trivial) ?_)|(with_reducible refine Br.f Bool.not_true ?_))
     have e:=aU1 (n:=w.length) (len:=wlen w) (f:=al4 w s) k
     have e':=aU1 (n:=w.length) (len:=wlen w) (f:=aw0 s) k
     have hwk:wlen w k=l.length:=by unfold wlen;rw [aa4 hl]
     rw [hwk] at e e'
     exact ⟨(k+1,σo,σn),(aa2 cl2),cl3,⟨by simp only;omega,by rw [← e];exact hRo,by rw [← e'];exact hRn⟩,by simp only;omega⟩
   ·obtain rfl:k=w.length:=by omega
    repeat' (first|refine sk108 ?_|(intro b;conv=>whnf)|(with_reducible refine Br.t (beq_self_eq_true _) ?_)|(with_reducible refine Br.f Bool.not_true ?_)|(with_reducible refine Br.t (decide_eq_true trivial) ?_)|(with_reducible refine Br.f Bool.not_true ?_))
    change RW (outA w s) _ σo at hRo
    change RW1 (nowA w s) _ σn at hRn
    obtain ⟨vs,hRv⟩:=RowsV.of hRo
    clear hRo
    have hrl:=au9 hF.snd.vld
    refine lp_perm (List.perm_append_comm (l₁:=σn) (l₂:=σo)) ?_
    refine aa6 mixed aa0 (γ:=Nat × aa1) (fun g=>[(14,iD g.1)]) (fun g=>g.2 ++ σn) (fun g=>g.1≤(aa7 x).length∧RWv (ao3 x w s g.1) (.slice (some ⟨bo,0,none⟩) w.length w.length) vs g.2) (fun g=>(aa7 x).length - g.1) (0,σo) (aa2 cl2) cl3 ⟨Nat.zero_le _,hRv⟩ ?_
    clear hRv
    rintro ⟨q,σ1⟩ ⟨hq,hR1⟩
    simp only at hq hR1 ⊢
    by_cases hql:q<(aa7 x).length
    ·obtain ⟨rf,hrf⟩:∃ y,(aa7 x)[q]?=some y:=⟨_,List.getElem?_eq_getElem hql⟩
     have hrf':(aa7 x)[((q:Nat):Int).toNat]?=some rf:=hrf
     have hrm:=List.mem_of_getElem? hrf
     obtain ⟨u1,u2,u3⟩:=hF.snd.up rf hrm
     have hMs:=aL8 hF (Nat.le_of_lt hql)
     have hst:=at5 (w:=w) (s:=s) hrf
     have hkw:rf.kind<w.length:=by rw [(ai9 hF.fit).1];exact u3
     have hml:(ao3 x w s q).length=w.length:=by rw [hMs.len,(ai9 hF.fit).1]
     obtain ⟨lq,hlq⟩:∃ l,(ao3 x w s q)[rf.kind]?=some l:=⟨_,List.getElem?_eq_getElem (by rw [hml];exact hkw)⟩
     obtain ⟨l0,hl0,hl0l⟩:=az6 (at0 x w s q (Nat.le_of_lt hql)) hlq
     have hll0:l0.length=lq.length:=by have:=congrArg List.length hl0l;simpa using this
     have hlqn:=hMs.nr lq (List.mem_of_getElem? hlq)
     obtain ⟨up,hupe⟩:∃ u:Nat,rf.up=u:=⟨rf.up.toNat,by omega⟩
     have hupw:up<w.length:=by omega
     obtain ⟨b0,cap0,cs0,a1,c1,e1,m0,h3,hv1⟩:=aS9 hR1 hlq
     rw [hml] at e1
     cases e1
     unfold av0 at hst
     rw [aa4 hlq] at hst
     repeat' (first|refine sk108 ?_|(intro b;conv=>whnf)|(with_reducible refine Br.t (beq_self_eq_true _) ?_)|(with_reducible refine Br.f Bool.not_true ?_)|(with_reducible refine Br.t (decide_eq_true trivial) ?_)|(with_reducible refine Br.f Bool.not_true ?_))
     refine Ld.cellm (List.mem_append_left _ m0) (by rw [ix1];exact h3) ?_
     repeat' (first|refine sk108 ?_|(intro b;conv=>whnf)|(with_reducible refine Br.t (beq_self_eq_true _) ?_)|(with_reducible refine Br.f Bool.not_true ?_)|(with_reducible refine Br.t (decide_eq_true trivial) ?_)|(with_reducible refine Br.f Bool.not_true ?_))
     refine aa6 mixed aa0 (γ:=Nat × aa1) (fun g=>[(16,iD g.1)]) (fun g=>g.2 ++ σn) (fun g=>g.1≤lq.length∧RWv (ag4 (ao3 x w s q) rf.kind rf.field (aS4 w s rf) g.1) (.slice (some ⟨bo,0,none⟩) w.length w.length) vs g.2) (fun g=>lq.length - g.1) (0,σ1) (aa2 cl2) cl3 ⟨Nat.zero_le _,by rw [aB1];exact hR1⟩ ?_
     clear hR1 m0 h3 cs0
     rintro ⟨i,σ2⟩ ⟨hi,hR2⟩
     simp only at hi hR2 ⊢
     by_cases hil:i<lq.length
     ·obtain ⟨rq,hrq⟩:∃ r,lq[i]?=some r:=⟨_,List.getElem?_eq_getElem hil⟩
      obtain ⟨r0,hr0⟩:∃ r,l0[i]?=some r:=⟨_,List.getElem?_eq_getElem (by omega)⟩
      obtain ⟨v,hv0,hvw,hvk⟩:=aZ7 hF h1 hrm hl0 hr0
      have hrql:rq.length=r0.length:=by
       have:=congrArg (fun z=>z[i]?) hl0l
       simp only [List.getElem?_map,hrq,hr0,Option.map_some,Option.some.injEq] at this
       omega
      have hfl:=(List.getElem?_eq_some_iff.1 hv0).1
      have hco:=bb6 (w:=w) (s:=s) hrf i q (Nat.le_refl _)
      unfold am9 at hco
      rw [aa4 hlq,aa4 hrq,aa4 hl0,aa4 hr0,aa4 hv0] at hco
      obtain ⟨z,hz⟩:∃ z,rq[rf.field]?=some z:=⟨_,List.getElem?_eq_getElem (by omega)⟩
      rw [aa4 hz] at hco
      subst hco
      have hmv:=aZ9 hl0 hr0 hv0
      rw [hupe,Int.toNat_natCast] at hmv hvw
      have hl2:(ag4 (ao3 x w s q) rf.kind rf.field (aS4 w s rf) i).length=w.length:=by unfold ag4;rw [List.length_set];exact hml
      obtain ⟨f0,fap0,fs0,f1,fap1,fs1,f2,fap2,fs2,ρ1,e4,p4,k0,kv,k1,k2,k3⟩:=aN2 hR2 (ar8 hlq _ _ i) (aE7 hrq _ _) hz
      rw [hl2] at e4
      cases e4
      rw [List.length_mapIdx] at kv
      cases hv1.symm.trans kv
      obtain ⟨d0,dap0,ds0,d1,dap1,ds1,ρ2,e5,p5,g0,g1,_⟩:=at1 hRn (nowA_get (s:=s) hupw) (nowTo_get hvw)
      rw [show (nowA w s).length=w.length from as7 _ _] at e5
      cases e5
      rw [aP0] at g0
      have o1:(f1,Blk.cells 22 fs1)∈σ2 ++ σn:=List.mem_append_left _ (p4.mem_iff.2 (by simp))
      have o2:(f2,Blk.cells 3 fs2)∈σ2 ++ σn:=List.mem_append_left _ (p4.mem_iff.2 (by simp))
      have n0:(bn,Blk.cells 22 ds0)∈σ2 ++ σn:=List.mem_append_right _ (p5.mem_iff.2 (by simp))
      have n1:(d1,Blk.cells 3 ds1)∈σ2 ++ σn:=List.mem_append_right _ (p5.mem_iff.2 (by simp))
      have hs1:=aB2 hlq hrq rf.field (aS4 w s rf)
      rw [hmv] at hs1
      repeat' (first|refine sk108 ?_|(intro b;conv=>whnf)|(with_reducible refine Br.t (beq_self_eq_true _) ?_)|(with_reducible refine Br.f Bool.not_true ?_)|(with_reducible refine Br.t (decide_eq_true trivial) ?_)|(with_reducible refine Br.f Bool.not_true ?_))
      refine Ld.cellm o1 (by rw [ix1];exact k1) ?_
      repeat' (first|refine sk108 ?_|(intro b;conv=>whnf)|(with_reducible refine Br.t (beq_self_eq_true _) ?_)|(with_reducible refine Br.f Bool.not_true ?_)|(with_reducible refine Br.t (decide_eq_true trivial) ?_)|(with_reducible refine Br.f Bool.not_true ?_))
      refine Ld.cellm n0 (by rw [hupe,ix1];exact g0) ?_
      repeat' (first|refine sk108 ?_|(intro b;conv=>whnf)|(with_reducible refine Br.t (beq_self_eq_true _) ?_)|(with_reducible refine Br.f Bool.not_true ?_)|(with_reducible refine Br.t (decide_eq_true trivial) ?_)|(with_reducible refine Br.f Bool.not_true ?_))
      refine Ld.cellm o1 (by rw [ix1];exact k1) ?_
      repeat' (first|refine sk108 ?_|(intro b;conv=>whnf)|(with_reducible refine Br.t (beq_self_eq_true _) ?_)|(with_reducible refine Br.f Bool.not_true ?_)|(with_reducible refine Br.t (decide_eq_true trivial) ?_)|(with_reducible refine Br.f Bool.not_true ?_))
      refine Ld.cellm o2 (by rw [ix1];exact k2) ?_
      repeat' (first|refine sk108 ?_|(intro b;conv=>whnf)|(with_reducible refine Br.t (beq_self_eq_true _) ?_)|(with_reducible refine Br.f Bool.not_true ?_)|(with_reducible refine Br.t (decide_eq_true trivial) ?_)|(with_reducible refine Br.f Bool.not_true ?_))
      refine Ld.cellm n1 (by rw [ix1];exact g1) ?_
      repeat' (first|refine sk108 ?_|(intro b;conv=>whnf)|(with_reducible refine Br.t (beq_self_eq_true _) ?_)|(with_reducible refine Br.f Bool.not_true ?_)|(with_reducible refine Br.t (decide_eq_true trivial) ?_)|(with_reducible refine Br.f Bool.not_true ?_))
      refine Sv.cellm (tb:=3) (cs:=fs2) (cs':=fs2.set rf.field (iD (nowN s up v))) (τ:=((bo,.cells 75 fs0) :: (f1,.cells 22 fs1) :: ρ1) ++ σn) ((p4.append_right σn).trans cl27) (by rw [ix1];exact (List.getElem?_eq_some_iff.1 k2).1) rfl (by rw [ix1]) ?_
      repeat' (first|refine sk108 ?_|(intro b;conv=>whnf)|(with_reducible refine Br.t (beq_self_eq_true _) ?_)|(with_reducible refine Br.f Bool.not_true ?_)|(with_reducible refine Br.t (decide_eq_true trivial) ?_)|(with_reducible refine Br.f Bool.not_true ?_))
      have hR4:=RowsV.perm (k3 (nowN s up v)) (s':=(f2,.cells 3 (fs2.set rf.field (iD (nowN s up v)))) :: (bo,.cells 75 fs0) :: (f1,.cells 22 fs1) :: ρ1) ((List.Perm.swap _ _ _).trans (List.Perm.cons _ (List.Perm.swap _ _ _)))
      rw [← hs1] at hR4
      exact ⟨(i+1,(f2,.cells 3 (fs2.set rf.field (iD (nowN s up v)))) :: (bo,.cells 75 fs0) :: (f1,.cells 22 fs1) :: ρ1),(aa2 cl2),cl3,⟨by simp only;omega,hR4⟩,by simp only;omega⟩
     ·obtain rfl:i=lq.length:=by omega
      repeat' (first|refine sk108 ?_|(intro b;conv=>whnf)|(with_reducible refine Br.t (beq_self_eq_true _) ?_)|(with_reducible refine Br.f Bool.not_true ?_)|(with_reducible refine Br.t (decide_eq_true trivial) ?_)|(with_reducible refine Br.f Bool.not_true ?_))
      exact ⟨(q+1,σ2),(aa2 cl2),cl3,⟨by simp only;omega,by rw [hst];exact hR2⟩,by simp only;omega⟩
    ·obtain rfl:q=(aa7 x).length:=by omega
     have hMs:=aL8 (w:=w) (s:=s) hF (Nat.le_refl _)
     have hml:(moved x w s).length=w.length:=by rw [moved,hMs.len,(ai9 hF.fit).1]
     have HSu:=r31_sums x hF.snd.vld (moved x w s) hMs (some ⟨bo,0,none⟩) w.length vs σ1 (by rw [hml];exact hR1)
     rw [hml] at HSu
     repeat' (first|refine sk108 ?_|(intro b;conv=>whnf)|(with_reducible refine Br.t (beq_self_eq_true _) ?_)|(with_reducible refine Br.f Bool.not_true ?_)|(with_reducible refine Br.t (decide_eq_true trivial) ?_)|(with_reducible refine Br.f Bool.not_true ?_))
     refine CE.own HSu (List.Perm.refl (σ1 ++ σn)) (fun s'=>s' ++ σn) (fun s'=>List.Perm.refl _) ?_
     rintro _ σ3 ⟨rfl,hR3⟩
     repeat' (first|refine sk108 ?_|(intro b;conv=>whnf)|(with_reducible refine Br.t (beq_self_eq_true _) ?_)|(with_reducible refine Br.f Bool.not_true ?_)|(with_reducible refine Br.t (decide_eq_true trivial) ?_)|(with_reducible refine Br.f Bool.not_true ?_))
     refine Rt.by (Vs.drop (List.sublist_append_left σ3 σn)) ?_
     exact ⟨_,rfl,hR3.to⟩
  ·have h1:ak9 x w s=false:=by simpa using h1
   rw [world_8 h0 h1]
   rw [h0] at HC
   rw [h1] at HK
   have HRf:=True.intro
   refine aa3 mixed aa0 Tryz.func35 (by kernel_rfl) rfl Tryz.ntmps35 rfl ?_;intro BB
   repeat' (first|refine sk108 ?_|(intro b;conv=>whnf)|(with_reducible refine Br.t (beq_self_eq_true _) ?_)|(with_reducible refine Br.f Bool.not_true ?_)|(with_reducible refine Br.t (decide_eq_true trivial) ?_)|(with_reducible refine Br.f Bool.not_true ?_))
   exact Rt.same ⟨_,rfl,rw_nil⟩
 ·rw [aV9 h0]
  have HRf:=True.intro
  refine aa3 mixed aa0 Tryz.func35 (by kernel_rfl) rfl Tryz.ntmps35 rfl ?_;intro BB
  repeat' (first|refine sk108 ?_|(intro b;conv=>whnf)|(with_reducible refine Br.t (beq_self_eq_true _) ?_)|(with_reducible refine Br.f Bool.not_true ?_)|(with_reducible refine Br.t (decide_eq_true trivial) ?_)|(with_reducible refine Br.f Bool.not_true ?_))
  exact Rt.same ⟨_,rfl,rw_nil⟩
end
end Go.Proofs.YtjbbmjjildhfbaaGreatDoor
