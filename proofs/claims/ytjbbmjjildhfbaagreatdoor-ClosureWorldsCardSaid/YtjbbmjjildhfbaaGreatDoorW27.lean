/- A part of the proof: Px Wc Gp Gq. -/
import Derived.Test.YtjbbmjjildhfbaaGreatDoorW26
set_option maxRecDepth 100000
set_option maxHeartbeats 4000000
set_option linter.unusedVariables false
set_option linter.unusedSimpArgs false
namespace Go.Proofs.YtjbbmjjildhfbaaGreatDoor
section
open Go
variable {x:Sch} {w:Wd} {s t:Sb}
theorem sum_six {k f:Nat} (h:0≤(ac6 x k f).1):∃ kd g,x.kinds[k]?=some kd∧kd.fields[f]?=some g∧g.kind=6:=by
 unfold ac6 at h
 split at h
 ·simp at h
 ·rename_i g hg
  simp only [am0] at h
  by_cases hn:ak4 x k g=true
  ·rw [if_pos hn] at h;simp [aZ1] at h
  ·have hn':ak4 x k g=false:=by simpa using hn
   simp only [ak4,Bool.or_eq_false_iff,Bool.not_eq_false',decide_eq_true_eq,decide_eq_false_iff_not] at hn'
   obtain ⟨_,_,kd,hk,hf⟩:=af7 hg
   exact ⟨kd,g,by simpa using hk,by simpa using hf,hn'.1⟩
theorem az1 {k f:Nat} {kd:Knd} {g:Fld} (hk:x.kinds[k]?=some kd) (hf:kd.fields[f]?=some g) (h:g.kind≠6):(ac6 x k f).1<0:=by
 refine Int.not_le.1 fun h0=>?_
 obtain ⟨kd',g',h1,h2,h3⟩:=sum_six h0
 rw [hk] at h1;cases h1
 rw [hf] at h2;cases h2
 exact h h3
theorem be2 {rf:Rf} (h:rf∈aa7 x):(ac6 x rf.kind rf.field).1<0:=by
 obtain ⟨kd,g,h1,h2,h3,_⟩:=aL9 h
 exact az1 h1 h2 (by omega)
theorem aR4 {o:Wd} {k f k' n f':Nat} (h:k≠k'∨f≠f'):am9 (af9 x o k f) k' n f'=am9 o k' n f':=by
 unfold af9
 split
 ·rfl
 ·exact aI9 _ _ _ h
theorem cell_step_no {o:Wd} {k f k' n f':Nat} (h:(ac6 x k' f').1<0):am9 (af9 x o k f) k' n f'=am9 o k' n f':=by
 by_cases e:k=k'∧f=f'
 ·obtain ⟨rfl,rfl⟩:=e
  unfold af9
  rw [if_pos h]
 ·exact aR4 (by omega)
theorem cell_F {k' n f':Nat} (h:(ac6 x k' f').1<0) (o:Wd) (k:Nat):∀ q,am9 (sumsF x k o q) k' n f'=am9 o k' n f'
 | 0=>rfl
 | q+1=>by rw [as5,cell_step_no h,cell_F h o k q]
theorem cell_K {k' n f':Nat} (h:(ac6 x k' f').1<0) (o:Wd):∀ q,am9 (sumsK x o q) k' n f'=am9 o k' n f'
 | 0=>rfl
 | q+1=>by rw [as4,cell_F h,cell_K h o q]
theorem getD_out {α:Type} {l:List α} {i:Nat} (h:l.length≤i) (d:α):l.getD i d=d:=by rw [List.getD_eq_getElem?_getD,List.getElem?_eq_none h];rfl
theorem refIn_cells {o:Wd}:RefIn x o↔∀ rf∈aa7 x,∀ n,n<(o.getD rf.kind []).length→0≤am9 o rf.kind n rf.field∧am9 o rf.kind n rf.field<((o.getD rf.up.toNat []).length:Int):=by
 constructor
 ·intro h rf hrf n hn
  have hr:=List.getElem?_eq_getElem hn
  have:=h rf hrf _ (List.mem_of_getElem? hr)
  unfold am9
  rw [aa4 hr]
  exact this
 ·intro h rf hrf r hr
  obtain ⟨n,hn⟩:=List.getElem?_of_mem hr
  have:=h rf hrf n (List.getElem?_eq_some_iff.1 hn).1
  unfold am9 at this
  rw [aa4 hn] at this
  exact this
theorem RefIn.of {o o':Wd} (h:RefIn x o) (hs:shp o'=shp o) (hc:∀ rf∈aa7 x,∀ n,am9 o' rf.kind n rf.field=am9 o rf.kind n rf.field):RefIn x o':=by
 rw [refIn_cells] at h ⊢
 intro rf hrf n hn
 rw [aN9 hs] at hn
 rw [hc rf hrf,aN9 hs]
 exact h rf hrf n hn
theorem refIn_F {o:Wd} (h:RefIn x o) (k q:Nat):RefIn x (sumsF x k o q):=h.of (shp_F _ _ _ _) fun _ hrf _=>cell_F (be2 hrf) _ _ _
theorem refIn_K {o:Wd} (h:RefIn x o) (q:Nat):RefIn x (sumsK x o q):=h.of (shp_K _ _ _) fun _ hrf _=>cell_K (be2 hrf) _ _
theorem bd2 {u sh i:Nat}:∀ (a b:List (List Int)),a.length=b.length→(∀ n,(a.getD n []).getD u 0=(b.getD n []).getD u 0)→(∀ n,(a.getD n []).getD sh 0=(b.getD n []).getD sh 0)→ag6 a u sh i=ag6 b u sh i:=by
 unfold ag6
 have key:∀ (a b:List (List Int)) (c:Int),a.length=b.length→(∀ n,(a.getD n []).getD u 0=(b.getD n []).getD u 0)→(∀ n,(a.getD n []).getD sh 0=(b.getD n []).getD sh 0) →
   a.foldl (fun (acc:Int) (r:List Int)=>if r.getD u 0=(i:Int) then IntKind.i64.wrap (acc+r.getD sh 0) else acc) c=b.foldl (fun (acc:Int) (r:List Int)=>if r.getD u 0=(i:Int) then IntKind.i64.wrap (acc+r.getD sh 0) else acc) c:=by
  intro a
  induction a with
  | nil=>
   intro b c hl _ _
   cases b with
   | nil=>rfl
   | cons=>cases hl
  | cons r a ih=>
   intro b c hl h1 h2
   cases b with
   | nil=>cases hl
   | cons r' b=>
    have e1:r.getD u 0=r'.getD u 0:=h1 0
    have e2:r.getD sh 0=r'.getD sh 0:=h2 0
    rw [List.foldl_cons,List.foldl_cons,e1,e2]
    exact ih b _ (Nat.succ.inj hl) (fun n=>h1 (n+1)) (fun n=>h2 (n+1))
 exact fun a b=>key a b 0
theorem aR3 {o o':Wd} (hs:shp o=shp o') {k f:Nat} {g g':Nat→Int} (hg:∀ i,g i=g' i) (n:Nat):am9 (ag4 o k f g (o.getD k []).length) k n f=am9 (ag4 o' k f g' (o'.getD k []).length) k n f:=by
 rw [← aN9 hs]
 rw [sumTo_const hg]
 have hlen:o.length=o'.length:=by have:=congrArg List.length hs;simpa [shp] using this
 unfold am9
 cases hl:o[k]? with
 | none=>
  rw [List.getElem?_eq_none_iff] at hl
  rw [getD_out (l:=ag4 o k f g' _) (by unfold ag4;rw [List.length_set];exact hl),getD_out (l:=ag4 o' k f g' _) (by unfold ag4;rw [List.length_set];omega)]
 | some l=>
  obtain ⟨l',h1,h2⟩:=az6 hs hl
  have hll:l'.length=l.length:=by have:=congrArg List.length h2;simpa using this
  rw [aa4 (ar8 hl _ _ _),aa4 (ar8 h1 _ _ _),aa4 hl]
  simp only [List.getD_eq_getElem?_getD,List.getElem?_mapIdx]
  cases hr:l[n]? with
  | none=>
   rw [List.getElem?_eq_none_iff] at hr
   rw [List.getElem?_eq_none (show l'.length≤n by omega)]
  | some r=>
   have hnl:=(List.getElem?_eq_some_iff.1 hr).1
   have h3:=congrArg (fun z=>z[n]?) h2
   simp only [List.getElem?_map,hr,Option.map_some] at h3
   cases hr':l'[n]? with
   | none=>rw [hr'] at h3;cases h3
   | some r'=>
    rw [hr'] at h3
    simp only [Option.map_some,Option.some.injEq] at h3
    simp only [Option.map_some,Option.getD_some,if_pos hnl,List.getElem?_set,h3,if_true]
def AgF (x:Sch) (k q:Nat) (o o':Wd):Prop:=shp o=shp o'∧∀ k' n f',((ac6 x (k':Nat) (f':Nat)).1<0∨k' < k∨(k'=k∧f' < q))→am9 o k' n f'=am9 o' k' n f'
theorem AgF.step {k q:Nat} {o o':Wd} (h:AgF x k q o o'):AgF x k (q+1) (af9 x o k q) (af9 x o' k q):=by
 refine ⟨by rw [aW8,aW8];exact h.1,fun k' n f' hc=>?_⟩
 by_cases hn:(ac6 x k q).1<0
 ·have e1:af9 x o k q=o:=by unfold af9;rw [if_pos hn]
  have e2:af9 x o' k q=o':=by unfold af9;rw [if_pos hn]
  rw [e1,e2]
  refine h.2 _ _ _ ?_
  rcases hc with hc|hc|⟨rfl,hc⟩
  ·exact .inl hc
  ·exact .inr (.inl hc)
  ·by_cases e:f'=q
   ·subst e;exact .inl hn
   ·exact .inr (.inr ⟨rfl,by omega⟩)
 ·by_cases e:k=k'∧q=f'
  ·obtain ⟨rfl,rfl⟩:=e
   obtain ⟨p,sh,u,ko,g,gu,e1,hkq,hko,hg,hg7,hfu,hgu,hgu1,huq,hup⟩:=aI0 (x:=x) (i:=k) (j:=q) (by omega)
   unfold af9
   rw [if_neg hn,if_neg hn,e1]
   simp only [Int.toNat_natCast,hup]
   refine aR3 h.1 (fun i=>?_) n
   exact bd2 _ _ (aN9 h.1 _) (fun n=>h.2 p n u (.inl (az1 hko hgu (by omega)))) (fun n=>h.2 p n sh (.inl (az1 hko hg (by omega))))
  ·have e':k≠k'∨q≠f':=by omega
   rw [aR4 e',aR4 e']
   refine h.2 _ _ _ ?_
   rcases hc with hc|hc|⟨hc1,hc⟩
   ·exact .inl hc
   ·exact .inr (.inl hc)
   ·exact .inr (.inr ⟨hc1,by omega⟩)
theorem AgF.sumsF {k:Nat} {o o':Wd} (h:AgF x k 0 o o'):∀ q,AgF x k q (sumsF x k o q) (sumsF x k o' q)
 | 0=>h
 | q+1=>by rw [as5,as5];exact (h.sumsF q).step
theorem AgF.row {k:Nat} {o o':Wd} (h:AgF x k (flen x k) o o'):AgF x (k+1) 0 o o':=by
 refine ⟨h.1,fun k' n f' hc=>h.2 _ _ _ ?_⟩
 by_cases hn:(ac6 x k' f').1<0
 ·exact .inl hn
 ·obtain ⟨kd,g,h1,h2,_⟩:=sum_six (x:=x) (k:=k') (f:=f') (by omega)
  rcases hc with hc|hc|⟨rfl,hc⟩
  ·exact absurd hc hn
  ·by_cases e:k' < k
   ·exact .inr (.inl e)
   ·obtain rfl:k'=k:=by omega
    exact .inr (.inr ⟨rfl,by unfold flen;rw [h1];exact (List.getElem?_eq_some_iff.1 h2).1⟩)
  ·omega
theorem AgF.sumsK {o o':Wd} (h:AgF x 0 0 o o'):∀ q,AgF x q 0 (sumsK x o q) (sumsK x o' q)
 | 0=>h
 | q+1=>by rw [as4,as4];exact ((h.sumsK q).sumsF _).row
end
section
open Go Go.Maps Go.MapKept
theorem six_sum {x:Sch} (h:ap8 x=[]) {k f:Nat} {kd:Knd} {g:Fld} (hk:x.kinds[k]?=some kd) (hf:kd.fields[f]?=some g) (h6:g.kind=6):0≤(ac6 x k f).1:=by
 have h1:=(bd3 h hk hf).2
 rw [leads6 h6] at h1
 split at h1
 ·cases h1
 ·rename_i h0
  split at h1
  ·rename_i h2
   have hfa:fieldAt x k f=some g:=by rw [af3 (by omega) (by omega) (by simpa using hk)];simpa using hf
   have hs:am0 x k g=((am0 x k g).1,(am0 x k g).2):=rfl
   rw [aT2 hfa hs]
   match hl:(am0 x k g).2,h2 with
   | [z],_=>simp only [aZ1];omega
  ·cases h1
theorem now_next {s:Sb} {m n:Nat} {p:Nat × Nat} {F F2:Value→Option Value} (hp:(ag1 s)[m]?=some p) (h:∀ q∈(ag1 s).take m,F (atV q.1 q.2)=some (.int .i64 (nowN s q.1 q.2))) (hn:n=nowN s p.1 p.2) (h2:F2=updF F (atV p.1 p.2) (.int .i64 (n:Int))) :
  ∀ q∈(ag1 s).take (m+1),F2 (atV q.1 q.2)=some (.int .i64 (nowN s q.1 q.2)):=by
 intro q hq
 subst h2 hn
 unfold updF
 by_cases e:atV q.1 q.2=atV p.1 p.2
 ·rw [if_pos e]
  obtain ⟨e1,e2⟩:=atV_inj e
  rw [show q.1=p.1 by omega,show q.2=p.2 by omega]
 ·rw [if_neg e]
  rw [ah6 hp] at hq
  rcases List.mem_append.1 hq with hq|hq
  ·exact h q hq
  ·rw [List.mem_singleton] at hq
   rw [hq] at e
   exact absurd rfl e
theorem pm2 (a b:Nat × Blk) (s t:aa1):(a :: b :: (s ++ t)).Perm (s ++ (a :: b :: t)):=by
 refine ac3 fun z=>?_
 simp only [ac4,ae7]
 omega
theorem pmD (a b c:Nat × Blk) (s:aa1):(s ++ [a,b,c]).Perm ((b :: (s ++ [c])) ++ [a]):=by
 refine ac3 fun z=>?_
 simp only [List.append_eq,ac4,ae7,af1]
 omega
theorem sk111 {A B:Prop} (k:B) (h:Hd7 B→A:=by intro hk7q;(first|refine sb0 ?_|refine sb1 ?_|((with_reducible refine' Cp.by ?hc ?_);(case hc=>first|exact HC|exact HK|exact HRf|exact aA7 _))|((with_reducible refine' CE.pure ?hc ?_);(case hc=>first|exact HC|exact HK|exact HRf|exact aA7 _)));exact hk7q.run):A:=h ⟨k⟩
theorem sk112 {A B:Prop} (k:B) (h:Hd7 B→A:=by intro hk7q;(first|refine sb0 ?_|refine sb109 ?_|((with_reducible refine' Cp.by ?hc ?_);(case hc=>first|exact HC|exact HK|exact HRf|exact aA7 _))|((with_reducible refine' CE.pure ?hc ?_);(case hc=>first|exact HC|exact HK|exact HRf|exact aA7 _)));exact hk7q.run):A:=h ⟨k⟩
theorem cl29 {p:Prop} (h:p:=by (refine ac3 fun a=>?_;simp only [List.append_eq,List.nil_append,ac4,ae7,af1,atC,iD];omega)):p:=h
theorem cl_world (x:Sch) (w:Wd) (s:Sb) (hw:Ws w) (hs:Ss s) (HV:APure Tryz.prog 81 [schD x] (iD (ac9 x))):ACall Tryz.prog 34 [schD x,slW w,slS2 s] [] (fun d σ=>∃ v,d = .tup [.v v,iD (ap4 x w s).2]∧RW (ap4 x w s).1 v σ):=by
 have HC:=aI8 x w s hw HV
 have HK:=cl_valid x w s hw hs HV
 by_cases h0:ac0 x w s=0
 ·have hF:=av5 hw hs h0
  have hwl:=hw.nk
  by_cases h1:ak9 x w s=true
  ·rw [aN0 h0 h1]
   rw [h0] at HC
   rw [h1] at HK
   have HRf:=bb4 x hF.snd.vld
   refine aa3 mixed aa0 Tryz.func34 (by kernel_rfl) rfl Tryz.ntmps34 rfl ?_;intro BB
   repeat' (first|refine sk111 ?_|(intro b;conv=>whnf)|(with_reducible refine Br.t (beq_self_eq_true _) ?_)|(with_reducible refine Br.f Bool.not_true ?_)|(with_reducible refine Br.t (decide_eq_true trivial) ?_))
   refine OtE.makeMap (k:=33) rfl (fun bm=>?_)
   repeat' (first|refine sk111 ?_|(intro b;conv=>whnf)|(with_reducible refine Br.t (beq_self_eq_true _) ?_)|(with_reducible refine Br.f Bool.not_true ?_)|(with_reducible refine Br.t (decide_eq_true trivial) ?_))
   refine Mk.go w.length rfl rfl rfl rfl rfl (by simp) (by omega) (by omega) (fun bo=>?_)
   repeat' (first|refine sk111 ?_|(intro b;conv=>whnf)|(with_reducible refine Br.t (beq_self_eq_true _) ?_)|(with_reducible refine Br.f Bool.not_true ?_)|(with_reducible refine Br.t (decide_eq_true trivial) ?_))
   generalize b=b10
   rename_i b9
   have hR0:RW (outK w s 0) (.slice (some ⟨bo,0,none⟩) w.length w.length) [(bo,.cells 75 (List.replicate w.length (.v (.slice none 0 0))))]:=by
    rw [outK_zero]
    exact RowsOf.made (R:=RW1) (x0:=[]) (RowsOf.nil _ _) _ bo (by unfold maxLen;omega)
   refine bg8 (i:=10) (d:=.v (.pointer (some ⟨b10,0,none⟩))) (d':=.ro [.v (.slice (some ⟨bo,0,none⟩) w.length w.length)]) (τ:=[(bo,.cells 75 (List.replicate w.length (.v (.slice none 0 0)))),(b9,.cells 116 [.v (.map (some bm))]),(bm,.obj (MapO Tryz.prog 33 fun _=>none))]) rfl (fun h=>by cases h) (Vs.ptr (tb:=30) (List.Perm.refl _)) ?_
   refine bg8 (i:=9) (d:=.v (.pointer (some ⟨b9,0,none⟩))) (d':=.ro [.v (.map (some bm))]) (τ:=[(bo,.cells 75 (List.replicate w.length (.v (.slice none 0 0)))),(bm,.obj (MapO Tryz.prog 33 fun _=>none))]) rfl (fun h=>by cases h) (Vs.ptr (tb:=116) (List.Perm.swap _ _ _)) ?_
   refine aG0 mixed aa0 rfl (aA4 s hs) (fun x hx=>aQ2 hx) rfl (γ:=aa1 × (Value→Option Value)) (fun _ g=>g.1 ++ [(bm,.obj (MapO Tryz.prog 33 g.2))]) (fun m g=>RW (outK w s m) (.slice (some ⟨bo,0,none⟩) w.length w.length) g.1∧∀ p∈(ag1 s).take m,g.2 (atV p.1 p.2)=some (.int .i64 (nowN s p.1 p.2))) ([(bo,.cells 75 (List.replicate w.length (.v (.slice none 0 0))))],fun _=>none) (List.Sublist.refl _) ⟨hR0,by simp⟩ ?_ ?_
   ·rintro lb m ⟨σo,F⟩ y hy ⟨hA,hM⟩
    obtain ⟨p,hpk,rfl⟩:=aQ3 hy
    simp only at hA hM
    have hkb:keptB s p.1 p.2=true:=at7.1 (List.mem_of_getElem? hpk)
    obtain ⟨k',i',ls,e1,e2,hls,hbs⟩:=ax5 (show aq3 s p.1 p.2=true by unfold aq3;simp [hkb])
    obtain rfl:p.1=k':=by omega
    obtain rfl:p.2=i':=by omega
    obtain ⟨l,hl,hll⟩:=ai1 hF.shp.symm hls
    have hkw:=(List.getElem?_eq_some_iff.1 hl).1
    have hil:=(List.getElem?_eq_some_iff.1 hbs).1
    obtain ⟨r,hr⟩:∃ r,l[p.2]?=some r:=⟨_,List.getElem?_eq_getElem (by omega)⟩
    have hl':w[((p.1:Nat):Int).toNat]?=some l:=hl
    have hr':l[((p.2:Nat):Int).toNat]?=some r:=hr
    have hlw:=hw.nr l (List.mem_of_getElem? hl)
    have hrw:=hw.nf l (List.mem_of_getElem? hl) r (List.mem_of_getElem? hr)
    have hrl:=be1 (w:=w) hpk
    have hnl:=aZ8 s p.1 p.2
    obtain ⟨b0,cap0,cs0,u,t,τ,e0,p0,c0,hu,upo⟩:=RowsOf.at hA (aF6 (s:=s) (m:=m) hkw)
    rw [aF5] at e0
    cases e0
    obtain ⟨a1,ca1,rfl⟩:=RowsOf.slice hu
    have mo:(bo,Blk.cells 75 cs0)∈σo ++ [(bm,.obj (MapO Tryz.prog 33 F))]:=List.mem_append_left _ (p0.mem_iff.2 (by simp))
    obtain ⟨kl,hkl⟩:=at_key (show (Lit.int .i64 (p.1:Int)).wf=true from wf64 (by omega) (by omega)) (show (Lit.int .i64 (p.2:Int)).wf=true from wf64 (by omega) (by omega))
    repeat' (first|refine sk111 ?_|(intro b;conv=>whnf)|(with_reducible refine Br.t (beq_self_eq_true _) ?_)|(with_reducible refine Br.f Bool.not_true ?_)|(with_reducible refine Br.t (decide_eq_true trivial) ?_))
    refine Ld.cellm (List.mem_cons_of_mem _ mo) (by rw [ix1];exact c0) ?_
    repeat' (first|refine sk112 ?_|(intro b;conv=>whnf)|(with_reducible refine Br.t (beq_self_eq_true _) ?_)|(with_reducible refine Br.f Bool.not_true ?_)|(with_reducible refine Br.t (decide_eq_true trivial) ?_))
    refine OtE.mapUpdate (b:=bm) (F:=F) (k:=33) (e:=3) (kv:=atV p.1 p.2) (kl:=kl) (τ:=(b,.cells 33 (atC p.1 p.2)) :: σo) rfl rfl (KeyD.agg2 _ _) rfl cl29 as2 Tryz.underlying116 hkl ?_
    repeat' (first|refine sk112 ?_|(intro b;conv=>whnf)|(with_reducible refine Br.t (beq_self_eq_true _) ?_)|(with_reducible refine Br.f Bool.not_true ?_)|(with_reducible refine Br.t (decide_eq_true trivial) ?_))
    obtain ⟨F2,hF2⟩:∃ F2,F2=updF F (atV p.1 p.2) (.int .i64 ((aS2 w s m p.1).length:Int)):=⟨_,rfl⟩
    rw [← hF2]
    have hM2:=now_next hpk hM (be1 hpk) hF2
    obtain ⟨vs,s0,ts,q1,q2,q3⟩:=hu.ex
    have hlen:=q2.len.1
    have hos:=outK_succ (w:=w) hpk hkw
    have hrec:aX5 w p.1 p.2=r:=by unfold aX5;rw [aa4 hl,aa4 hr]
    rw [hrec] at hos
    have mo2:(bo,Blk.cells 75 cs0)∈(bm,Blk.obj (MapO Tryz.prog 33 F2)) :: σo:=List.mem_cons_of_mem _ (p0.mem_iff.2 (by simp))
    (refine Dr.r ?_;(((with_reducible refine W.mk ?_);(conv=>whnf)));refine Dm.r ?_;refine W.mk ?_)
    refine bg8 (i:=11) (d:=.v (.pointer (some ⟨b,0,none⟩))) (d':=.ro (atC p.1 p.2)) (τ:=(bm,.obj (MapO Tryz.prog 33 F2)) :: σo) rfl (fun h=>by cases h) (Vs.ptr (tb:=33) (List.Perm.swap _ _ _)) ?_
    refine aK1 mixed aa0 rfl [0,1,2,3,4,5,6,8,9,10,11,12,13,14,15,16] 6 (inE [7,17,18,19,21]) (.two 7 (.one 17 (.one 18 (.one 19 (.fst 20 (.one 21 .done))))) 17 (.two 7 (.one 18 (.one 19 (.fst 20 (.one 21 .done)))) 18 (.one 7 (.one 19 (.fst 20 (.one 21 .done)))))) (γ:=aa1) (fun _=>[]) (fun g=>g ++ [(bm,.obj (MapO Tryz.prog 33 F2))]) (fun g=>RW (outK w s (m+1)) (.slice (some ⟨bo,0,none⟩) w.length w.length) g) (by decide +kernel) ?_ ?_
    ·repeat' (first|refine sk112 ?_|(intro b;conv=>whnf)|(refine And.intro ?_ ?_ <;> (conv=>whnf))|((with_reducible refine' Ld.cellm (b:=bo) (cs:=cs0) ?mm8 ?hq8 ?_);(case mm8=>first|exact mo2|exact List.mem_append_right _ mo2);(case hq8=>(rw [ix1];exact c0)))|((refine CE.own (clone_i r (by omega)) (List.Perm.refl ([] ++ _)) (fun s'=>s' ++ _) (fun s'=>List.Perm.refl _) ?_);(rintro _ s6 ⟨v6,rfl,hr6⟩);(obtain ⟨a6,c6,rfl⟩:=hr6.slice))|(refine Ap.go rfl rfl rfl rfl q1 (τ:=(bo,.cells 75 cs0) :: (ts.flatten ++ (s6 ++ (τ ++ [(bm,.obj (MapO Tryz.prog 33 F2))])))) cl28 rfl (zs:=vs.map (fun u=>[D.v u]) ++ [[D.v (.slice a6 (r.map fun n=>[iD n]).length c6)]]) rfl (by simp [hlen];omega) (by simp [hlen];omega) (fun s2=>s2 ++ ((bo,.cells 75 cs0) :: (ts.flatten ++ (s6 ++ (τ ++ [(bm,.obj (MapO Tryz.prog 33 F2))]))))) (fun s2=>List.Perm.refl _) (fun a9 c9 s9 hr9=>?_))|(refine OtE.yd rfl (bc2 aa0 rfl rfl rfl rfl rfl rfl rfl rfl rfl rfl) ?_))
     all_goals
      refine Sv.cellm (tb:=75) (cs:=cs0) (cs':=cs0.set p.1 (.v (.slice a9 (vs.map (fun u=>[D.v u]) ++ [[D.v (.slice a6 (r.map fun n=>[iD n]).length c6)]]).length c9))) (τ:=((s9 ++ (ts.flatten ++ s6)) ++ τ) ++ [(bm,.obj (MapO Tryz.prog 33 F2))]) cl29 (by rw [ix1];exact (List.getElem?_eq_some_iff.1 c0).1) rfl (by rw [ix1]) ?_
      repeat' (first|refine sk112 ?_|(intro b;conv=>whnf)|(refine And.intro ?_ ?_ <;> (conv=>whnf))|((with_reducible refine' Ld.cellm (b:=bo) (cs:=cs0) ?mm8 ?hq8 ?_);(case mm8=>first|exact mo2|exact List.mem_append_right _ mo2);(case hq8=>(rw [ix1];exact c0)))|((refine CE.own (clone_i r (by omega)) (List.Perm.refl ([] ++ _)) (fun s'=>s' ++ _) (fun s'=>List.Perm.refl _) ?_);(rintro _ s6 ⟨v6,rfl,hr6⟩);(obtain ⟨a6,c6,rfl⟩:=hr6.slice))|(refine Ap.go rfl rfl rfl rfl q1 (τ:=(bo,.cells 75 cs0) :: (ts.flatten ++ (s6 ++ (τ ++ [(bm,.obj (MapO Tryz.prog 33 F2))])))) cl28 rfl (zs:=vs.map (fun u=>[D.v u]) ++ [[D.v (.slice a6 (r.map fun n=>[iD n]).length c6)]]) rfl (by simp [hlen];omega) (by simp [hlen];omega) (fun s2=>s2 ++ ((bo,.cells 75 cs0) :: (ts.flatten ++ (s6 ++ (τ ++ [(bm,.obj (MapO Tryz.prog 33 F2))]))))) (fun s2=>List.Perm.refl _) (fun a9 c9 s9 hr9=>?_))|(refine OtE.yd rfl (bc2 aa0 rfl rfl rfl rfl rfl rfl rfl rfl rfl rfl) ?_))
      have h8:=upo _ _ (s9 ++ (ts.flatten ++ s6)) ((bo,.cells 75 (cs0.set p.1 (.v (.slice a9 (vs.map (fun u=>[D.v u]) ++ [[D.v (.slice a6 (r.map fun n=>[iD n]).length c6)]]).length c9)))) :: ((s9 ++ (ts.flatten ++ s6)) ++ τ)) (RowsOf.push q2 hr9 hr6 (List.Perm.refl _)) (List.Perm.refl _)
      rw [← hos] at h8
      exact ⟨(bo,.cells 75 (cs0.set p.1 (.v (.slice a9 (vs.map (fun u=>[D.v u]) ++ [[D.v (.slice a6 (r.map fun n=>[iD n]).length c6)]]).length c9)))) :: ((s9 ++ (ts.flatten ++ s6)) ++ τ),(aa2 cl2),Sc.perm cl29,h8⟩
    ·rintro σo2 hRo2
     repeat' (first|refine sk111 ?_|(intro b;conv=>whnf)|(with_reducible refine Br.t (beq_self_eq_true _) ?_)|(with_reducible refine Br.f Bool.not_true ?_)|(with_reducible refine Br.t (decide_eq_true trivial) ?_))
     exact ⟨(σo2,F2),List.Sublist.refl _,hRo2,hM2⟩
   ·rintro ⟨σo,F⟩ ⟨hA,hM⟩
    rw [List.length_map] at hA hM
    rw [outK_all hF.shp] at hA
    simp only [List.take_length] at hA hM
    obtain ⟨vs,hRv⟩:=RowsV.of hA
    clear hA hR0
    have hrl:=au9 hF.snd.vld
    repeat' (first|refine sk111 ?_|(intro b;conv=>whnf)|(with_reducible refine Br.t (beq_self_eq_true _) ?_)|(with_reducible refine Br.f Bool.not_true ?_)|(with_reducible refine Br.t (decide_eq_true trivial) ?_))
    refine aa6 mixed aa0 (γ:=Nat × aa1) (fun g=>[(71,iD g.1)]) (fun g=>g.2 ++ [(bm,.obj (MapO Tryz.prog 33 F))]) (fun g=>g.1≤(aa7 x).length∧RWv (ao3 x w s g.1) (.slice (some ⟨bo,0,none⟩) w.length w.length) vs g.2) (fun g=>(aa7 x).length - g.1) (0,σo) (aa2 cl2) cl3 ⟨Nat.zero_le _,hRv⟩ ?_
    clear hRv
    rintro ⟨q,σ1⟩ ⟨hq,hR1⟩
    simp only at hq hR1 ⊢
    by_cases hql:q<(aa7 x).length
    ·obtain ⟨rf,hrf⟩:∃ y,(aa7 x)[q]?=some y:=⟨_,List.getElem?_eq_getElem hql⟩
     have hrf':(aa7 x)[((q:Nat):Int).toNat]?=some rf:=hrf
     have hrm:=List.mem_of_getElem? hrf
     obtain ⟨u1,u2,u3⟩:=hF.snd.up rf hrm
     have hMs:=aL8 hF (Nat.le_of_lt hql)
     have hst:=at5 (w:=w) (s:=s) hrf
     have hkw:rf.kind<w.length:=by rw [(ai9 hF.fit).1];exact u3
     have hml:(ao3 x w s q).length=w.length:=by rw [hMs.len,(ai9 hF.fit).1]
     obtain ⟨lq,hlq⟩:∃ l,(ao3 x w s q)[rf.kind]?=some l:=⟨_,List.getElem?_eq_getElem (by rw [hml];exact hkw)⟩
     obtain ⟨l0,hl0,hl0l⟩:=az6 (at0 x w s q (Nat.le_of_lt hql)) hlq
     have hll0:l0.length=lq.length:=by have:=congrArg List.length hl0l;simpa using this
     have hlqn:=hMs.nr lq (List.mem_of_getElem? hlq)
     obtain ⟨up,hupe⟩:∃ u:Nat,rf.up=u:=⟨rf.up.toNat,by omega⟩
     obtain ⟨b0,cap0,cs0,a1,c1,e1,m0,h3,hv1⟩:=aS9 hR1 hlq
     rw [hml] at e1
     cases e1
     unfold av0 at hst
     rw [aa4 hlq] at hst
     repeat' (first|refine sk111 ?_|(intro b;conv=>whnf)|(with_reducible refine Br.t (beq_self_eq_true _) ?_)|(with_reducible refine Br.f Bool.not_true ?_)|(with_reducible refine Br.t (decide_eq_true trivial) ?_))
     refine Ld.cellm (List.mem_cons_of_mem _ (List.mem_append_left _ m0)) (by rw [ix1];exact h3) ?_
     repeat' (first|refine sk111 ?_|(intro b;conv=>whnf)|(with_reducible refine Br.t (beq_self_eq_true _) ?_)|(with_reducible refine Br.f Bool.not_true ?_)|(with_reducible refine Br.t (decide_eq_true trivial) ?_))
     refine ay8 mixed aa0 (γ:=Nat × aa1) (fun g=>[(81,iD g.1)]) (fun g=>(b,.cells 121 (rfC rf)) :: (g.2 ++ [(bm,.obj (MapO Tryz.prog 33 F))])) (fun g=>g.1≤lq.length∧RWv (ag4 (ao3 x w s q) rf.kind rf.field (aS4 w s rf) g.1) (.slice (some ⟨bo,0,none⟩) w.length w.length) vs g.2) (fun g=>lq.length - g.1) (0,σ1) (aa2 cl2) (Sc.refl _) ⟨Nat.zero_le _,by rw [aB1];exact hR1⟩ ?_
     clear hR1 m0 h3 cs0
     rintro ⟨i,σ2⟩ ⟨hi,hR2⟩
     simp only at hi hR2 ⊢
     by_cases hil:i<lq.length
     ·obtain ⟨rq,hrq⟩:∃ r,lq[i]?=some r:=⟨_,List.getElem?_eq_getElem hil⟩
      obtain ⟨r0,hr0⟩:∃ r,l0[i]?=some r:=⟨_,List.getElem?_eq_getElem (by omega)⟩
      obtain ⟨v,hv0,hvw,hvk⟩:=aZ7 hF h1 hrm hl0 hr0
      have hrql:rq.length=r0.length:=by
       have:=congrArg (fun z=>z[i]?) hl0l
       simp only [List.getElem?_map,hrq,hr0,Option.map_some,Option.some.injEq] at this
       omega
      have hfl:=(List.getElem?_eq_some_iff.1 hv0).1
      have hco:=bb6 (w:=w) (s:=s) hrf i q (Nat.le_refl _)
      unfold am9 at hco
      rw [aa4 hlq,aa4 hrq,aa4 hl0,aa4 hr0,aa4 hv0] at hco
      obtain ⟨z,hz⟩:∃ z,rq[rf.field]?=some z:=⟨_,List.getElem?_eq_getElem (by omega)⟩
      rw [aa4 hz] at hco
      subst hco
      have hmv:=aZ9 hl0 hr0 hv0
      rw [hupe,Int.toNat_natCast] at hmv hvw hvk
      have hmF:=hM (up,v) (at7.2 hvk)
      have hul:up<w.length:=by omega
      have hvl:v<1000001:=by
       unfold wlen at hvw
       have hwu:=List.getElem?_eq_getElem hul
       rw [aa4 hwu] at hvw
       have:=hw.nr _ (List.mem_of_getElem? hwu)
       omega
      have hnl:=aZ8 s up v
      obtain ⟨kl,hkl⟩:=at_key (show (Lit.int .i64 (up:Int)).wf=true from wf64 (by omega) (by omega)) (show (Lit.int .i64 (v:Int)).wf=true from wf64 (by omega) (by omega))
      have hl2:(ag4 (ao3 x w s q) rf.kind rf.field (aS4 w s rf) i).length=w.length:=by unfold ag4;rw [List.length_set];exact hml
      obtain ⟨f0,fap0,fs0,f1,fap1,fs1,f2,fap2,fs2,ρ1,e4,p4,k0,kv,k1,k2,k3⟩:=aN2 hR2 (ar8 hlq _ _ i) (aE7 hrq _ _) hz
      rw [hl2] at e4
      cases e4
      rw [List.length_mapIdx] at kv
      cases hv1.symm.trans kv
      have o1:(f1,Blk.cells 22 fs1)∈(b,Blk.cells 121 (rfC rf)) :: (σ2 ++ [(bm,.obj (MapO Tryz.prog 33 F))]):=List.mem_cons_of_mem _ (List.mem_append_left _ (p4.mem_iff.2 (by simp)))
      have o2:(f2,Blk.cells 3 fs2)∈(b,Blk.cells 121 (rfC rf)) :: (σ2 ++ [(bm,.obj (MapO Tryz.prog 33 F))]):=List.mem_cons_of_mem _ (List.mem_append_left _ (p4.mem_iff.2 (by simp)))
      have om:(bm,Blk.obj (MapO Tryz.prog 33 F))∈(b,Blk.cells 121 (rfC rf)) :: (σ2 ++ [(bm,.obj (MapO Tryz.prog 33 F))]):=by simp
      have hs1:=aB2 hlq hrq rf.field (aS4 w s rf)
      rw [hmv] at hs1
      repeat' (first|refine sk111 ?_|(intro b;conv=>whnf)|(with_reducible refine Br.t (beq_self_eq_true _) ?_)|(with_reducible refine Br.f Bool.not_true ?_)|(with_reducible refine Br.t (decide_eq_true trivial) ?_))
      refine Ld.cellm o1 (by rw [ix1];exact k1) ?_
      repeat' (first|refine sk111 ?_|(intro b;conv=>whnf)|(with_reducible refine Br.t (beq_self_eq_true _) ?_)|(with_reducible refine Br.f Bool.not_true ?_)|(with_reducible refine Br.t (decide_eq_true trivial) ?_))
      refine Ld.cellm o2 (by rw [ix1];exact k2) ?_
      repeat' (first|refine sk111 ?_|(intro b;conv=>whnf)|(with_reducible refine Br.t (beq_self_eq_true _) ?_)|(with_reducible refine Br.f Bool.not_true ?_)|(with_reducible refine Br.t (decide_eq_true trivial) ?_))
      refine Ot.yd (ak2 (kv:=atV up v) (u:=.int .i64 (nowN s up v)) rfl rfl (by rw [hupe];exact KeyD.agg2 _ _) om (fun _ h=>h) as2 Tryz.underlying116 au5 hkl (by rw [hmF];rfl)) ?_
      repeat' (first|refine sk111 ?_|(intro b;conv=>whnf)|(with_reducible refine Br.t (beq_self_eq_true _) ?_)|(with_reducible refine Br.f Bool.not_true ?_)|(with_reducible refine Br.t (decide_eq_true trivial) ?_))
      refine Sv.cellm (tb:=3) (cs:=fs2) (cs':=fs2.set rf.field (iD (nowN s up v))) (τ:=(b,.cells 121 (rfC rf)) :: (((bo,.cells 75 fs0) :: (f1,.cells 22 fs1) :: ρ1) ++ [(bm,.obj (MapO Tryz.prog 33 F))])) (((p4.append_right _).cons _).trans cl29) (by rw [ix1];exact (List.getElem?_eq_some_iff.1 k2).1) rfl (by rw [ix1]) ?_
      repeat' (first|refine sk111 ?_|(intro b;conv=>whnf)|(with_reducible refine Br.t (beq_self_eq_true _) ?_)|(with_reducible refine Br.f Bool.not_true ?_)|(with_reducible refine Br.t (decide_eq_true trivial) ?_))
      have hR4:=RowsV.perm (k3 (nowN s up v)) (s':=(f2,.cells 3 (fs2.set rf.field (iD (nowN s up v)))) :: (bo,.cells 75 fs0) :: (f1,.cells 22 fs1) :: ρ1) ((List.Perm.swap _ _ _).trans (List.Perm.cons _ (List.Perm.swap _ _ _)))
      rw [← hs1] at hR4
      exact ⟨(i+1,(f2,.cells 3 (fs2.set rf.field (iD (nowN s up v)))) :: (bo,.cells 75 fs0) :: (f1,.cells 22 fs1) :: ρ1),(aa2 cl2),Sc.perm (List.Perm.swap _ _ _),⟨by simp only;omega,hR4⟩,by simp only;omega⟩
     ·obtain rfl:i=lq.length:=by omega
      repeat' (first|refine sk111 ?_|(intro b;conv=>whnf)|(with_reducible refine Br.t (beq_self_eq_true _) ?_)|(with_reducible refine Br.f Bool.not_true ?_)|(with_reducible refine Br.t (decide_eq_true trivial) ?_))
      exact ⟨(q+1,σ2),(aa2 cl2),cl3,⟨by simp only;omega,by rw [hst];exact hR2⟩,by simp only;omega⟩
    ·obtain rfl:q=(aa7 x).length:=by omega
     have hnk:=hF.snd.vld.nk
     have hnf:=hF.snd.vld.nf
     have ho:Wsh x (moved x w s):=aL8 hF (Nat.le_refl _)
     have hin:=moved_in hF h1
     change RWv (moved x w s) _ _ _ at hR1
     generalize moved x w s=o at *
     have hol:o.length=w.length:=by rw [ho.len,(ai9 hF.fit).1]
     clear hM
     repeat' (first|refine sk111 ?_|(intro b;conv=>whnf)|(with_reducible refine Br.t (beq_self_eq_true _) ?_)|(with_reducible refine Br.f Bool.not_true ?_)|(with_reducible refine Br.t (decide_eq_true trivial) ?_))
     refine ay8 mixed aa0 (γ:=Nat × aa1) (fun g=>[(104,iD g.1)]) (fun g=>g.2 ++ [(bm,.obj (MapO Tryz.prog 33 F))]) (fun g=>g.1≤x.kinds.length∧RWv (sumsK x o g.1) (.slice (some ⟨bo,0,none⟩) w.length w.length) vs g.2) (fun g=>x.kinds.length - g.1) (0,σ1) (aa2 cl2) (Sc.refl _) ⟨Nat.zero_le _,hR1⟩ ?_
     clear hR1
     rintro ⟨k,σ2⟩ ⟨hk,hR2⟩
     simp only at hk hR2 ⊢
     by_cases hkl:k<x.kinds.length
     ·obtain ⟨kd,hkd⟩:∃ y,x.kinds[k]?=some y:=⟨_,List.getElem?_eq_getElem hkl⟩
      have hkd':x.kinds[((k:Nat):Int).toNat]?=some kd:=hkd
      have hfl:=hnf kd (List.mem_of_getElem? hkd)
      have hfk:flen x k=kd.fields.length:=by unfold flen;rw [hkd]
      repeat' (first|refine sk111 ?_|(intro b;conv=>whnf)|(with_reducible refine Br.t (beq_self_eq_true _) ?_)|(with_reducible refine Br.f Bool.not_true ?_)|(with_reducible refine Br.t (decide_eq_true trivial) ?_))
      refine ay8 mixed aa0 (γ:=Nat × aa1) (fun g=>[(112,iD g.1)]) (fun g=>(b,.cells 97 (kndC kd)) :: (g.2 ++ [(bm,.obj (MapO Tryz.prog 33 F))])) (fun g=>g.1≤kd.fields.length∧RWv (sumsF x k (sumsK x o k) g.1) (.slice (some ⟨bo,0,none⟩) w.length w.length) vs g.2) (fun g=>kd.fields.length - g.1) (0,σ2) (aa2 cl2) (Sc.refl _) ⟨Nat.zero_le _,hR2⟩ ?_
      clear hR2
      rintro ⟨f,σ3⟩ ⟨hf,hR3⟩
      simp only at hf hR3 ⊢
      by_cases hfl2:f<kd.fields.length
      ·obtain ⟨g,hg⟩:∃ y,kd.fields[f]?=some y:=⟨_,List.getElem?_eq_getElem hfl2⟩
       have hg':kd.fields[((f:Nat):Int).toNat]?=some g:=hg
       have hs2:shp (sumsF x k (sumsK x o k) f)=shp o:=by rw [shp_F,shp_K]
       have hW2:=ho.shp hs2
       have hI2:=refIn_F (refIn_K hin k) k f
       have hsu:=as5 x k (sumsK x o k) f
       generalize sumsF x k (sumsK x o k) f=o2 at *
       have h2l:o2.length=w.length:=by rw [hW2.len,(ai9 hF.fit).1]
       by_cases h6:g.kind=6
       ·have hs0:=six_sum hF.snd.no hkd hg h6
        have HA:=cl_add x hF.snd.vld o2 hW2 hI2 k f kd hkd hfl2 hs0 (some ⟨bo,0,none⟩) w.length vs σ3 (by rw [h2l];exact hR3)
        rw [h2l] at HA
        repeat' (first|refine sk111 ?_|(intro b;conv=>whnf)|(with_reducible refine Br.t (beq_self_eq_true _) ?_)|(with_reducible refine Br.f Bool.not_true ?_)|(with_reducible refine Br.t (decide_eq_true trivial) ?_))
        refine CE.own HA (pm2 _ _ _ _) (fun s'=>s' ++ _) (fun s'=>List.Perm.refl _) ?_
        rintro _ σ4 ⟨rfl,hR4⟩
        repeat' (first|refine sk111 ?_|(intro b;conv=>whnf)|(with_reducible refine Br.t (beq_self_eq_true _) ?_)|(with_reducible refine Br.f Bool.not_true ?_)|(with_reducible refine Br.t (decide_eq_true trivial) ?_))
        exact ⟨(f+1,σ4),(aa2 cl2),Sc.drop (pmD _ _ _ _),⟨by simp only;omega,by rw [hsu];exact hR4⟩,by simp only;omega⟩
       ·have hst:af9 x o2 k f=o2:=by unfold af9;rw [if_pos (az1 hkd hg h6)]
        repeat' (first|refine sk111 ?_|(intro b;conv=>whnf)|(with_reducible refine Br.t (beq_self_eq_true _) ?_)|(with_reducible refine Br.f Bool.not_true ?_)|(with_reducible refine Br.t (decide_eq_true trivial) ?_))
        exact ⟨(f+1,σ3),(aa2 cl2),Sc.sl (List.sublist_cons_self _ _),⟨by simp only;omega,by rw [hsu,hst];exact hR3⟩,by simp only;omega⟩
      ·obtain rfl:f=kd.fields.length:=by omega
       repeat' (first|refine sk111 ?_|(intro b;conv=>whnf)|(with_reducible refine Br.t (beq_self_eq_true _) ?_)|(with_reducible refine Br.f Bool.not_true ?_)|(with_reducible refine Br.t (decide_eq_true trivial) ?_))
       exact ⟨(k+1,σ3),(aa2 cl2),Sc.sl (List.sublist_cons_self _ _),⟨by simp only;omega,by rw [as4,hfk];exact hR3⟩,by simp only;omega⟩
     ·obtain rfl:k=x.kinds.length:=by omega
      repeat' (first|refine sk111 ?_|(intro b;conv=>whnf)|(with_reducible refine Br.t (beq_self_eq_true _) ?_)|(with_reducible refine Br.f Bool.not_true ?_)|(with_reducible refine Br.t (decide_eq_true trivial) ?_))
      refine Rt.by (Vs.drop (List.sublist_append_left σ2 _)) ?_
      exact ⟨_,rfl,hR2.to⟩
  ·have h1:ak9 x w s=false:=by simpa using h1
   rw [world_8 h0 h1]
   rw [h0] at HC
   rw [h1] at HK
   have HRf:=True.intro
   refine aa3 mixed aa0 Tryz.func34 (by kernel_rfl) rfl Tryz.ntmps34 rfl ?_;intro BB
   repeat' (first|refine sk111 ?_|(intro b;conv=>whnf)|(with_reducible refine Br.t (beq_self_eq_true _) ?_)|(with_reducible refine Br.f Bool.not_true ?_)|(with_reducible refine Br.t (decide_eq_true trivial) ?_))
   exact Rt.same ⟨_,rfl,rw_nil⟩
 ·rw [aV9 h0]
  have HRf:=True.intro
  refine aa3 mixed aa0 Tryz.func34 (by kernel_rfl) rfl Tryz.ntmps34 rfl ?_;intro BB
  repeat' (first|refine sk111 ?_|(intro b;conv=>whnf)|(with_reducible refine Br.t (beq_self_eq_true _) ?_)|(with_reducible refine Br.f Bool.not_true ?_)|(with_reducible refine Br.t (decide_eq_true trivial) ?_))
  exact Rt.same ⟨_,rfl,rw_nil⟩
end
section
open Go
theorem fix_of {k:Knd} (hN:(k.fields.map Fld.name).Nodup) {j:Nat} {f:Fld} (h:k.fields[j]?=some f):ab7 k f.name=j:=
 ae6 h (au7 _) fun i y hi hy=>by
  cases hs:seq y.name f.name with
  | false=>rfl
  | true=>
   exfalso
   have he:=(aX0 _ _).1 hs
   have hlt:i<(k.fields.map Fld.name).length:=by rw [List.length_map];exact (List.getElem?_eq_some_iff.1 hy).1
   have:=(List.getElem?_inj (j:=j) hlt hN).1 (by rw [List.getElem?_map,List.getElem?_map,hy,h];simp [he])
   omega
theorem at_of {F:List Fld} (hN:(F.map Fld.name).Nodup) {j n:Nat} {f g:Fld} (h:F[j]?=some f) (h2:F[n]?=some g) (e:f.name=g.name):j=n:=
 (List.getElem?_inj (by rw [List.length_map];exact (List.getElem?_eq_some_iff.1 h).1) hN).1 (by rw [List.getElem?_map,List.getElem?_map,h,h2];simp [e])
theorem idx_true {α:Type} {p:α→Bool} {xs:List α} {a:α} (h:0≤idx p xs) (ha:xs[(idx p xs).toNat]?=some a):p a=true:=by
 unfold idx at *
 split at h
 ·rename_i o ho
  obtain ⟨h1,h2,_⟩:=List.findIdx?_eq_some_iff_getElem.1 ho
  simp only [ho,Int.toNat_natCast] at ha
  rw [List.getElem?_eq_getElem h1] at ha
  cases ha;exact h2
 ·omega
theorem has_neg {l:List Fld} {n:ByteArray} (h:ao8 l n<0):∀ f∈l,f.name≠n:=by
 intro f hf e
 have:=ar3 (fun f:Fld=>seq f.name n) l
 have h2:l.any (fun f:Fld=>seq f.name n)=true:=List.any_eq_true.2 ⟨f,hf,(aX0 _ _).2 e⟩
 rw [h2] at this
 have:=of_decide_eq_true this
 unfold ao8 at h;omega
def ofN (t:Nat) (lo hi:Int):Fld:=⟨nOf,knm t,nE,1,lo,hi,[],[]⟩
def byN:Fld:=⟨nBy,knm 0,nE,1,0,8,[],[]⟩
def PartTo (kj:Knd) (i:Nat):Prop:=∃ n lo hi a b,kj.fields[1]?=some (ofN i lo hi)∧1<n∧kj.fields[n]?=some (ak6 a b)∧∀ (n':Nat) (g:Fld),kj.fields[n']?=some g→g.kind=7→n'=n
def SmQ (ks:List Knd) (t:Nat) (sm:List Fld):Prop:=sm=[]∨∃ (y:Knd) (n:Nat) (g:Fld),ks[t]?=some y∧y.fields[n]?=some g∧ap9 g.kind=true∧sm=[av9 g.name]
def PtQ (ks:List Knd) (t i:Nat) (pt:List Fld):Prop:=pt=[]∨∃ (a b:Int) (y:Knd) (n:Nat),(0≤a∧a<3)∧(0≤b∧b<8)∧ks[t]?=some y∧y.fields[n]?=some (totF (knm i))∧pt=[ak6 a b]
def RefQ (ks:List Knd) (i:Nat) (f1:List Fld):Prop:=f1=[]∨∃ (t:Nat) (lo hi:Int) (sm pt:List Fld),t<i∧(lo=0∨lo=1)∧hi∈[(4:Int),3,8,2]∧SmQ ks t sm∧PtQ ks t i pt∧f1=ofN t lo hi :: (sm ++ pt)
def TotQ (ks:List Knd) (i:Nat) (tt:List Fld):Prop:=tt=[]∨∃ (j:Nat) (kj:Knd),i<j∧ks[j]?=some kj∧PartTo kj i∧tt=[totF (knm j)]
def KForm (ks:List Knd) (i:Nat) (k:Knd):Prop:=∃ lo r idl f1 f2 p1 p2 tt,lo∈[(0:Int),1,2,4,1,2]∧(0≤r∧r<5)∧idl∈[(0:Int),1,100,-3]∧k=⟨knm i,lo,lo+r,idF idl :: (f1 ++ (f2 ++ (p1 ++ (p2 ++ tt))))⟩∧RefQ ks i f1 ∧
 (f2=[]∨(0<i∧f2=[byN]))∧PlainF p1∧PlainF p2∧(p2=[]∨∃ g gs,p2=g :: gs∧ao8 (idF idl :: (f1 ++ (f2 ++ p1))) g.name<0)∧TotQ ks i tt
def Ext (ks ks':List Knd):Prop:=∀ (i:Nat) (y:Knd),ks[i]?=some y→∃ y',ks'[i]?=some y'∧∃ t,y'.fields=y.fields ++ t∧∀ g∈t,g.kind≠7
theorem ba7 {y y':Knd} {t:List Fld} (h:y'.fields=y.fields ++ t) {n:Nat} {g:Fld} (hg:y.fields[n]?=some g):y'.fields[n]?=some g:=by
 rw [h,List.getElem?_append_left (List.getElem?_eq_some_iff.1 hg).1];exact hg
theorem PartTo.ext {y y':Knd} {t:List Fld} {i:Nat} (h:PartTo y i) (e:y'.fields=y.fields ++ t) (ht:∀ g∈t,g.kind≠7):PartTo y' i:=by
 obtain ⟨n,lo,hi,a,b,h1,h2,h3,h4⟩:=h
 refine ⟨n,lo,hi,a,b,ba7 e h1,h2,ba7 e h3,fun n' g hg hk=>?_⟩
 rw [e] at hg
 by_cases hl:n' < y.fields.length
 ·rw [List.getElem?_append_left hl] at hg;exact h4 n' g hg hk
 ·rw [List.getElem?_append_right (by omega)] at hg;exact absurd hk (ht g (List.mem_of_getElem? hg))
theorem SmQ.ext {ks ks':List Knd} {t:Nat} {sm:List Fld} (h:SmQ ks t sm) (e:Ext ks ks'):SmQ ks' t sm:=by
 rcases h with rfl|⟨y,n,g,h1,h2,h3,h4⟩
 ·exact .inl rfl
 ·obtain ⟨y',g1,_,g2,_⟩:=e t y h1
  exact .inr ⟨y',n,g,g1,ba7 g2 h2,h3,h4⟩
theorem PtQ.ext {ks ks':List Knd} {t i:Nat} {sm:List Fld} (h:PtQ ks t i sm) (e:Ext ks ks'):PtQ ks' t i sm:=by
 rcases h with rfl|⟨a,b,y,n,ha,hb,h1,h2,h3⟩
 ·exact .inl rfl
 ·obtain ⟨y',g1,_,g2,_⟩:=e t y h1
  exact .inr ⟨a,b,y',n,ha,hb,g1,ba7 g2 h2,h3⟩
theorem RefQ.ext {ks ks':List Knd} {i:Nat} {f1:List Fld} (h:RefQ ks i f1) (e:Ext ks ks'):RefQ ks' i f1:=by
 rcases h with rfl|⟨t,lo,hi,sm,pt,h1,h2,h3,h4,h5,h6⟩
 ·exact .inl rfl
 ·exact .inr ⟨t,lo,hi,sm,pt,h1,h2,h3,h4.ext e,h5.ext e,h6⟩
theorem TotQ.ext {ks ks':List Knd} {i:Nat} {tt:List Fld} (h:TotQ ks i tt) (e:Ext ks ks'):TotQ ks' i tt:=by
 rcases h with rfl|⟨j,kj,h1,h2,h3,h4⟩
 ·exact .inl rfl
 ·obtain ⟨y',g1,_,g2,g3⟩:=e j kj h2
  exact .inr ⟨j,y',h1,g1,h3.ext g2 g3,h4⟩
theorem KForm.ext {ks ks':List Knd} {i:Nat} {k:Knd} (h:KForm ks i k) (e:Ext ks ks'):KForm ks' i k:=by
 obtain ⟨lo,r,idl,f1,f2,p1,p2,tt,h1,h2,h3,h4,h5,h6,h7,h8,h9,h10⟩:=h
 exact ⟨lo,r,idl,f1,f2,p1,p2,tt,h1,h2,h3,h4,h5.ext e,h6,h7,h8,h9,h10.ext e⟩
theorem KForm.name {ks:List Knd} {i:Nat} {k:Knd} (h:KForm ks i k):k.name=knm i:=by
 obtain ⟨lo,r,idl,f1,f2,p1,p2,tt,h1,h2,h3,h4,_⟩:=h
 rw [h4]
theorem PlainF.kd {fs:List Fld} (h:PlainF fs):∀ f∈fs,f.kind=2∨f.kind=3∨f.kind=4∨f.kind=5:=by
 cases h <;> simp
theorem uniq7 {A B:List Fld} {c:Fld} (hA:∀ g∈A,g.kind≠7) (hB:∀ g∈B,g.kind≠7) {n:Nat} {g:Fld} (h:(A ++ c :: B)[n]?=some g) (hk:g.kind=7):n=A.length:=by
 by_cases h1:n<A.length
 ·rw [List.getElem?_append_left h1] at h;exact absurd hk (hA g (List.mem_of_getElem? h))
 ·rw [List.getElem?_append_right (by omega)] at h
  by_cases h2:n - A.length=0
  ·omega
  ·obtain ⟨m,hm⟩:∃ m,n - A.length=m+1:=⟨n - A.length - 1,by omega⟩
   rw [hm,List.getElem?_cons_succ] at h
   exact absurd hk (hB g (List.mem_of_getElem? h))
theorem ext_snoc (ks:List Knd) (k:Knd):Ext ks (ks ++ [k]):=fun i y h=>⟨y,by rw [List.getElem?_append_left (List.getElem?_eq_some_iff.1 h).1];exact h,[],by simp,by simp⟩
theorem ext_set (ks:List Knd) (tw:Nat) (y:Knd) (k:Knd) (nm:ByteArray) (hy:ks[tw]?=some y):Ext ks (ks.set tw ⟨y.name,y.lo,y.hi,y.fields ++ [totF nm]⟩ ++ [k]):=fun i z h=>by
 have hl:=(List.getElem?_eq_some_iff.1 h).1
 rw [List.getElem?_append_left (by rw [List.length_set];exact hl)]
 by_cases e:i=tw
 ·subst e
  rw [hy] at h;cases h
  exact ⟨_,List.getElem?_set_self hl,[totF nm],rfl,fun g hg=>by rw [List.mem_singleton] at hg;subst hg;show (6:Int)≠7;decide⟩
 ·rw [List.getElem?_set_ne (Ne.symm e)]
  exact ⟨z,h,[],by simp,by simp⟩
theorem smq_of {ks:List Knd} {t:Nat} {y:Knd} {sm:List Fld} (hy:ks[t]?=some y) (hs:sm=[]∨∃ g,0≤ar7 y∧y.fields[(ar7 y).toNat]?=some g∧sm=[av9 g.name]):SmQ ks t sm:=by
 rcases hs with rfl|⟨g,h1,h2,h3⟩
 ·exact .inl rfl
 ·exact .inr ⟨y,_,g,hy,h2,idx_true (p:=fun f:Fld=>ap9 f.kind) h1 h2,h3⟩
theorem KChain.form {ks:List Knd} (h:KChain ks):∀ (i:Nat) k,ks[i]?=some k→KForm ks i k:=by
 induction h with
 | nil=>intro i k h;simp at h
 | @step ks ks' k h m l ih=>
  obtain ⟨lo,r,idl,f1,f2,p1,p2,hlo,hr,hid,rfl,hR,hf2,hp1,hp2,hp2n⟩:=m.ex
  have hf2':f2=[]∨(0<ks.length∧f2=[byN]):=by
   rcases hf2 with rfl|⟨y,hy,hl,rfl⟩
   ·exact .inl rfl
   ·exact .inr ⟨by omega,by rw [byF,byN,(ih 0 y hy).name]⟩
  have ofn:∀ {t:Nat} {y:Knd} (lo hi:Int),ks[t]?=some y→ofF y lo hi=ofN t lo hi:=fun lo hi hy=>by rw [ofF,ofN,(ih _ _ hy).name]
  cases hR with
  | none hks=>
   subst hks
   intro i k hk
   have hi:i=0:=by have:=(List.getElem?_eq_some_iff.1 hk).1;simp at this;omega
   subst hi
   rw [List.nil_append,List.getElem?_cons_zero] at hk
   cases hk
   exact ⟨lo,r,idl,[],f2,p1,p2,[],hlo,hr,hid,by simp,.inl rfl,hf2',hp1,hp2,hp2n,.inl rfl⟩
  | of tw y lo1 hi1 sm hy hl1 hh1 hs=>
   intro i k hk
   by_cases hi:i<ks.length
   ·rw [List.getElem?_append_left hi] at hk
    exact (ih i k hk).ext (ext_snoc _ _)
   ·have hi:i=ks.length:=by have:=(List.getElem?_eq_some_iff.1 hk).1;rw [List.length_append,List.length_singleton] at this;omega
    subst hi
    rw [List.getElem?_append_right (Nat.le_refl _),Nat.sub_self,List.getElem?_cons_zero] at hk
    cases hk
    refine ⟨lo,r,idl,_,f2,p1,p2,[],hlo,hr,hid,by simp,.inr ⟨tw,lo1,hi1,sm,[],(List.getElem?_eq_some_iff.1 hy).1,hl1,hh1,(smq_of hy hs).ext (ext_snoc _ _),.inl rfl,by rw [ofn _ _ hy];simp⟩,hf2',hp1,hp2,hp2n,.inl rfl⟩
  | part tw y lo1 hi1 a b sm hy hl1 hh1 hs ht ha hb=>
   have hto:=(List.getElem?_eq_some_iff.1 hy).1
   have hE:=ext_set ks tw y ⟨knm ks.length,lo,lo+r,idF idl :: (ofF y lo1 hi1 :: (sm ++ [ak6 a b]) ++ (f2 ++ (p1 ++ p2)))⟩ (knm ks.length) hy
   have hsm7:∀ g∈sm,g.kind≠7:=by
    rcases hs with rfl|⟨g,_,_,rfl⟩
    ·simp
    ·intro g hg;rw [List.mem_singleton] at hg;subst hg;show (8:Int)≠7;decide
   have hrest7:∀ g∈f2 ++ (p1 ++ p2),g.kind≠7:=by
    intro g hg
    rcases List.mem_append.1 hg with hg|hg
    ·rcases hf2' with rfl|⟨_,rfl⟩
     ·cases hg
     ·rw [List.mem_singleton] at hg;subst hg;show (1:Int)≠7;decide
    ·rcases List.mem_append.1 hg with hg|hg
     ·have:=hp1.kd g hg;omega
     ·have:=hp2.kd g hg;omega
   have hP:PartTo ⟨knm ks.length,lo,lo+r,idF idl :: (ofF y lo1 hi1 :: (sm ++ [ak6 a b]) ++ (f2 ++ (p1 ++ p2)))⟩ tw:=by
    have hF:idF idl :: (ofF y lo1 hi1 :: (sm ++ [ak6 a b]) ++ (f2 ++ (p1 ++ p2)))=(idF idl :: ofN tw lo1 hi1 :: sm) ++ ak6 a b :: (f2 ++ (p1 ++ p2)):=by rw [ofn _ _ hy];simp
    refine ⟨(idF idl :: ofN tw lo1 hi1 :: sm).length,lo1,hi1,a,b,by rw [hF];rfl,by simp,by show (idF idl :: _)[_]?=_;rw [hF,List.getElem?_append_right (Nat.le_refl _),Nat.sub_self];rfl,fun n' g hg hk=>?_⟩
    change (idF idl :: _)[n']?=_ at hg
    rw [hF] at hg
    refine uniq7 (fun g hg=>?_) hrest7 hg hk
    rcases List.mem_cons.1 hg with rfl|hg
    ·show (0:Int)≠7;decide
    ·rcases List.mem_cons.1 hg with rfl|hg
     ·show (1:Int)≠7;decide
     ·exact hsm7 g hg
   intro i k hk
   by_cases hi:i<ks.length
   ·have hk':=hk
    rw [List.getElem?_append_left (by rw [List.length_set];exact hi)] at hk
    by_cases e:i=tw
    ·subst e
     rw [List.getElem?_set_self hi] at hk
     cases hk
     obtain ⟨lo2,r2,idl2,g1,g2,q1,q2,tt,h1,h2,h3,h4,h5,h6,h7,h8,h9,h10⟩:=ih i y hy
     have htt:tt=[]:=by
      rcases h10 with rfl|⟨j,kj,_,_,_,rfl⟩
      ·rfl
      ·exact absurd rfl (has_neg ht (totF (knm j)) (by rw [h4];simp))
     subst htt
     refine ⟨lo2,r2,idl2,g1,g2,q1,q2,[totF (knm ks.length)],h1,h2,h3,by rw [h4];simp,h5.ext hE,h6,h7,h8,h9,.inr ⟨ks.length,_,hi,by rw [List.getElem?_append_right (by rw [List.length_set];exact Nat.le_refl _),List.length_set,Nat.sub_self];rfl,hP,rfl⟩⟩
    ·rw [List.getElem?_set_ne (Ne.symm e)] at hk
     exact (ih i k hk).ext hE
   ·have hi:i=ks.length:=by have:=(List.getElem?_eq_some_iff.1 hk).1;rw [List.length_append,List.length_set,List.length_singleton] at this;omega
    subst hi
    rw [List.getElem?_append_right (by rw [List.length_set];exact Nat.le_refl _),List.length_set,Nat.sub_self,List.getElem?_cons_zero] at hk
    cases hk
    refine ⟨lo,r,idl,_,f2,p1,p2,[],hlo,hr,hid,by simp,.inr ⟨tw,lo1,hi1,sm,[ak6 a b],hto,hl1,hh1,(smq_of hy hs).ext hE,.inr ⟨a,b,⟨y.name,y.lo,y.hi,y.fields ++ [totF (knm ks.length)]⟩,y.fields.length,ha,hb,?_,?_,rfl⟩,by rw [ofn _ _ hy]⟩,hf2',hp1,hp2,hp2n,.inl rfl⟩
    ·rw [List.getElem?_append_left (by rw [List.length_set];exact hto)];exact List.getElem?_set_self hto
    ·show (y.fields ++ [_])[_]?=_
     rw [List.getElem?_append_right (Nat.le_refl _),Nat.sub_self];rfl
end
section
open Go
theorem RefQ.nms {ks:List Knd} {i:Nat} {f1:List Fld} (h:RefQ ks i f1):(f1.map Fld.name).Sublist [nOf,nSame,nPart]:=by
 rcases h with rfl|⟨t,lo,hi,sm,pt,_,_,_,hs,hp,rfl⟩
 ·simp
 ·rcases hs with rfl|⟨y,n,g,_,_,_,rfl⟩ <;> rcases hp with rfl|⟨a,b,y2,n2,_,_,_,_,rfl⟩ <;> simp [ofN,av9,ak6]
theorem TotQ.nms {ks:List Knd} {i:Nat} {tt:List Fld} (h:TotQ ks i tt):(tt.map Fld.name).Sublist [ar5]:=by
 rcases h with rfl|⟨j,kj,_,_,_,rfl⟩ <;> simp [totF]
theorem KForm.nodup {ks:List Knd} {i:Nat} {k:Knd} (h:KForm ks i k):(k.fields.map Fld.name).Nodup:=by
 obtain ⟨lo,r,idl,f1,f2,p1,p2,tt,h1,h2,h3,rfl,h5,h6,h7,h8,h9,h10⟩:=h
 have s1:=h5.nms
 have s2:(f2.map Fld.name).Sublist [nBy]:=by rcases h6 with rfl|⟨_,rfl⟩ <;> simp [byN]
 have s3:=h10.nms
 have hS:(([nId] ++ (f1.map Fld.name ++ (f2.map Fld.name ++ (p1.map Fld.name ++ (p2.map Fld.name ++ tt.map Fld.name)))))).Sublist ([nId] ++ ([nOf,nSame,nPart] ++ ([nBy] ++ (p1.map Fld.name ++ (p2.map Fld.name ++ [ar5]))))):=
  (List.Sublist.refl _).append (s1.append (s2.append ((List.Sublist.refl _).append ((List.Sublist.refl _).append s3))))
 have hQ:∀ f∈p1,∀ g gs,p2=g :: gs→f.name≠g.name:=by
  intro f hf g gs e
  rcases h9 with h9|⟨g',gs',e',hn⟩
  ·rw [h9] at e;cases e
  ·rw [e'] at e;cases e
   exact has_neg hn f (by simp [hf])
 have hD:([nId] ++ ([nOf,nSame,nPart] ++ ([nBy] ++ (p1.map Fld.name ++ (p2.map Fld.name ++ [ar5]))))).Nodup:=by
  cases h7 <;> cases h8 <;> first|(simp only [List.map_cons,List.map_nil];decide)|exact (hQ _ List.mem_cons_self _ _ rfl rfl).elim
 refine List.Sublist.nodup (l₁:=_) ?_ hD
 simpa [idF] using hS
structure HX (x:Sch):Prop where
 nk:x.kinds.length≤3
 form:∀ (i:Nat) k,x.kinds[i]?=some k→KForm x.kinds i k
 kd:∀ k∈x.kinds,∀ f∈k.fields,0≤f.kind
 life:x.lives.any (fun l=>seq l.name nLife)=true
theorem knm_ne {i t:Nat} (h:i<t) (ht:t≤2):seq (knm i) (knm t)=false:=by
 obtain rfl|rfl:t=1∨t=2:=by omega
 ·obtain rfl:i=0:=by omega
  decide +kernel
 ·obtain rfl|rfl:i=0∨i=1:=by omega
  ·decide +kernel
  ·decide +kernel
variable {x:Sch} (H:HX x)
include H
theorem HX.kix {t:Nat} {y:Knd} (h:x.kinds[t]?=some y):ab3 x (knm t)=t:=
 ae6 h (by rw [(H.form t y h).name];exact au7 _) fun i z hi hz=>by
  rw [(H.form i z hz).name]
  exact knm_ne hi (by have:=(List.getElem?_eq_some_iff.1 h).1;have:=H.nk;omega)
omit H in
theorem kat {i:Nat} {k:Knd} (hk:x.kinds[i]?=some k):af0 x i=some k:=by simp [af0,hk]
omit H in
theorem fat {i:Nat} {k:Knd} (hk:x.kinds[i]?=some k) (j:Nat):fieldAt x i j=k.fields[j]?:=by simp [fieldAt,af0,hk]
theorem HX.refUp {i t:Nat} {y:Knd} {f:Fld} (hy:x.kinds[t]?=some y) (hti:t<i) (ho:f.of=knm t):refUp x i f=t:=by
 rw [Go.Proofs.YtjbbmjjildhfbaaGreatDoor.refUp,ho,H.kix hy,if_pos (by omega)]
theorem HX.up1 {i t j:Nat} {k y:Knd} {f:Fld} (hk:x.kinds[i]?=some k) (hf:k.fields[j]?=some f) (hy:x.kinds[t]?=some y) (hti:t<i) (h1:f.kind=1) (ho:f.of=knm t):upIx x i j=t:=by
 rw [aH6 ((fat hk j).trans hf) (kat hk),if_neg (by rw [h1];decide),if_pos h1,H.refUp hy hti ho]
theorem HX.up7 {i t j:Nat} {k y:Knd} {f:Fld} {lo hi:Int} (hk:x.kinds[i]?=some k) (hf:k.fields[j]?=some f) (hy:x.kinds[t]?=some y) (hti:t<i) (h7:f.kind=7∨f.kind=8) (ho:f.up=nOf) (h1:k.fields[1]?=some (ofN t lo hi)) (hj:1<j):upIx x i j=t:=by
 have e1:ab7 k f.up=((1:Nat):Int):=by rw [ho];exact fix_of (H.form i k hk).nodup h1
 rw [aH6 ((fat hk j).trans hf) (kat hk),if_pos h7,e1,fat hk 1,h1,aF4,if_pos ⟨by omega,rfl⟩,aw9,H.refUp hy hti rfl]
omit H in
theorem HX.below {i t:Nat} {k:Knd} (hk:x.kinds[i]?=some k) (hti:t<i):∃ y,x.kinds[t]?=some y:=⟨_,List.getElem?_eq_getElem (by have:=(List.getElem?_eq_some_iff.1 hk).1;omega)⟩
omit H in
theorem single {l:List Nat} {c:Nat} (hn:l.Nodup) (h1:∀ a∈l,a=c) (h2:c∈l):l.length=1:=by
 match l,hn,h1,h2 with
 | [a],_,_,_=>rfl
 | a :: b :: r,hn,h1,_=>
  have e1:=h1 a (by simp)
  have e2:=h1 b (by simp)
  simp [e1,e2] at hn
theorem HX.shares {i j:Nat} {k kj:Knd} (hk:x.kinds[i]?=some k) (hij:i<j) (hkj:x.kinds[j]?=some kj) (hP:PartTo kj i):(as0 x i (totF (knm j))).length=1:=by
 obtain ⟨n,lo,hi,a,b,g1,g2,g3,g4⟩:=hP
 have e:ab3 x (totF (knm j)).of=j:=H.kix hkj
 rw [as0,e,kat hkj]
 simp only [List.length_map]
 refine single (c:=n) (List.Pairwise.filter _ List.nodup_range) (fun m hm=>?_) ?_
 ·obtain ⟨_,hq⟩:=List.mem_filter.1 hm
  cases hg:kj.fields[m]? with
  | none=>rw [hg] at hq;cases hq
  | some g=>
   rw [hg] at hq
   simp only [Bool.and_eq_true,decide_eq_true_eq] at hq
   exact g4 m g hg hq.1.1
 ·refine List.mem_filter.2 ⟨List.mem_range.2 (List.getElem?_eq_some_iff.1 g3).1,?_⟩
  rw [g3]
  simp only [Bool.and_eq_true,decide_eq_true_eq]
  exact ⟨⟨rfl,au7 _⟩,H.up7 hkj g3 hk hij (.inl rfl) rfl g1 g2⟩
omit H in
theorem at_mem {F:List Fld} (hN:(F.map Fld.name).Nodup) {A B:List Fld} {c:Fld} (hF:F=A ++ c :: B) {j:Nat} {f:Fld} (hf:F[j]?=some f) (e:f.name=c.name):j=A.length∧f=c:=by
 have hc:F[A.length]?=some c:=by rw [hF,List.getElem?_append_right (Nat.le_refl _),Nat.sub_self];rfl
 have:=at_of hN hf hc e
 subst this
 rw [hf] at hc;cases hc
 exact ⟨rfl,rfl⟩
theorem HX.plain {i j:Nat} {k:Knd} {A p B:List Fld} {f:Fld} (hk:x.kinds[i]?=some k) (hp:PlainF p) (hF:k.fields=A ++ (p ++ B)) (hf:k.fields[j]?=some f) (hm:f∈p):ac2 x i j f=0:=by
 have hN:=(H.form i k hk).nodup
 cases hp with
 | none=>cases hm
 | size a b ha hb=>rw [List.mem_singleton] at hm;subst hm;simp [ac2]
 | tag n ws hn hw h0 h1=>rw [List.mem_singleton] at hm;subst hm;simp [ac2]
 | low a b c d ha hb hc hd=>
  simp only [List.mem_cons,List.not_mem_nil,or_false] at hm
  rcases hm with rfl|rfl <;> simp [ac2]
 | state a b ha hb=>
  rw [List.mem_singleton] at hm;subst hm
  simp only [ac2]
  rw [if_neg (by simp),if_neg (by simp),if_neg (by simp),if_neg (by simp),if_pos trivial,if_pos H.life]
 | born a b c d ha hb hc hd=>
  simp only [List.mem_cons,List.not_mem_nil,or_false] at hm
  rcases hm with rfl|rfl
  ·simp only [ac2]
   rw [if_neg (by simp),if_neg (by simp),if_neg (by simp),if_pos trivial,dayE,kat hk]
   simp only
   rw [if_pos (by decide +kernel)]
  ·obtain ⟨rfl,_⟩:=at_mem hN (A:=A ++ [⟨aL0,nE,nE,4,a,a+b,[],[]⟩]) (B:=B) (c:=⟨nLeft,aL0,nE,4,c,3+d,[],[]⟩) (by rw [hF];simp) hf rfl
   have hb:k.fields[A.length]?=some ⟨aL0,nE,nE,4,a,a+b,[],[]⟩:=by rw [hF,List.getElem?_append_right (Nat.le_refl _),Nat.sub_self];rfl
   have e1:ab7 k aL0=A.length:=fix_of hN hb
   simp only [ac2]
   rw [if_neg (by simp),if_neg (by simp),if_neg (by simp),if_pos trivial,dayE,kat hk]
   simp only
   rw [if_neg (by decide +kernel),e1,if_neg (by simp;omega),Int.toNat_natCast,hb]
   rfl
theorem HX.leads {i j:Nat} {k:Knd} {f:Fld} (hk:x.kinds[i]?=some k) (hf:k.fields[j]?=some f):ac2 x i j f=0:=by
 have hN:=(H.form i k hk).nodup
 have hF:=H.form i k hk
 have hmf:=List.mem_of_getElem? hf
 obtain ⟨lo,r,idl,f1,f2,p1,p2,tt,h1,h2,h3,h4,h5,h6,h7,h8,h9,h10⟩:=hF
 have hK:k.fields=idF idl :: (f1 ++ (f2 ++ (p1 ++ (p2 ++ tt)))):=by rw [h4]
 have hmf2:=hmf
 rw [hK] at hmf2
 rcases List.mem_cons.1 hmf2 with rfl|hm
 ·obtain ⟨rfl,_⟩:=at_mem hN (A:=[]) (c:=idF idl) hK hf rfl
  simp [ac2,idF]
 rcases List.mem_append.1 hm with hm|hm
 ·rcases h5 with rfl|⟨t,lo1,hi1,sm,pt,hti,hl1,hh1,hs,hp,rfl⟩
  ·cases hm
  obtain ⟨y,hy⟩:=HX.below hk hti
  have hof:k.fields[1]?=some (ofN t lo1 hi1):=by rw [hK];rfl
  rcases List.mem_cons.1 hm with rfl|hm
  ·simp only [ac2]
   rw [H.up1 hk hf hy hti rfl rfl,if_neg (by simp [ofN]),if_neg (by simp [ofN]),if_pos (by simp [ofN]),if_neg (by omega)]
  have hj:1<j:=by
   refine Nat.lt_of_not_le fun hle=>?_
   have h01:j=0∨j=1:=by omega
   rcases h01 with rfl|rfl
   ·rw [hK] at hf;cases hf
    rcases List.mem_append.1 hm with hm|hm
    ·rcases hs with rfl|⟨_,_,_,_,_,_,rfl⟩
     ·cases hm
     ·rw [List.mem_singleton] at hm;cases hm
    ·rcases hp with rfl|⟨_,_,_,_,_,_,_,_,rfl⟩
     ·cases hm
     ·rw [List.mem_singleton] at hm;cases hm
   ·rw [hof] at hf;cases hf
    rcases List.mem_append.1 hm with hm|hm
    ·rcases hs with rfl|⟨_,_,_,_,_,_,rfl⟩
     ·cases hm
     ·rw [List.mem_singleton] at hm;cases hm
    ·rcases hp with rfl|⟨_,_,_,_,_,_,_,_,rfl⟩
     ·cases hm
     ·rw [List.mem_singleton] at hm;cases hm
  rcases List.mem_append.1 hm with hm|hm
  ·rcases hs with rfl|⟨y',n,g,hy',hg,hpk,rfl⟩
   ·cases hm
   rw [hy] at hy';cases hy'
   rw [List.mem_singleton] at hm;subst hm
   have hu:=H.up7 hk hf hy hti (.inr rfl) rfl hof hj
   have hg0:=H.kd y (List.mem_of_getElem? hy) g (List.mem_of_getElem? hg)
   have hx:ab7 y g.name=n:=fix_of (H.form t y hy).nodup hg
   simp only [ap9,Bool.and_eq_true,Bool.not_eq_true',decide_eq_false_iff_not] at hpk
   have ha:abvR x i j (av9 g.name)=(g.kind,g):=by
    unfold abvR topF
    rw [hu,if_neg (by omega),kat hy]
    simp only [av9]
    rw [hx,fat hy,hg]
   simp only [ac2]
   rw [if_neg (by simp [av9]),if_neg (by simp [av9]),if_neg (by simp [av9]),if_neg (by simp [av9]),if_neg (by simp [av9]),if_neg (by simp [av9]),hu,aR7,if_neg (by omega),if_neg (by simp [av9]),ha,if_neg (by simp only;omega)]
  ·rcases hp with rfl|⟨a,b,y',n,_,_,hy',hg,rfl⟩
   ·cases hm
   rw [hy] at hy';cases hy'
   rw [List.mem_singleton] at hm;subst hm
   have hu:=H.up7 hk hf hy hti (.inl rfl) rfl hof hj
   have hx:ab7 y ar5=n:=fix_of (f:=totF (knm i)) (H.form t y hy).nodup hg
   have ha:abvR x i j (ak6 a b)=(6,totF (knm i)):=by
    unfold abvR topF
    rw [hu,if_neg (by omega),kat hy]
    simp only [ak6]
    rw [hx,fat hy,hg]
    rfl
   simp only [ac2]
   rw [if_neg (by simp [ak6]),if_neg (by simp [ak6]),if_neg (by simp [ak6]),if_neg (by simp [ak6]),if_neg (by simp [ak6]),if_neg (by simp [ak6]),hu,aR7,if_neg (by omega),if_pos (by simp [ak6]),ha,if_pos ⟨rfl,H.kix hk⟩]
 rcases List.mem_append.1 hm with hm|hm
 ·rcases h6 with rfl|⟨hi0,rfl⟩
  ·cases hm
  rw [List.mem_singleton] at hm;subst hm
  obtain ⟨y,hy⟩:=HX.below hk hi0
  simp only [ac2]
  rw [H.up1 hk hf hy hi0 rfl rfl,if_neg (by simp [byN]),if_neg (by simp [byN]),if_pos (by simp [byN]),if_neg (by omega)]
 rcases List.mem_append.1 hm with hm|hm
 ·exact H.plain hk h7 (A:=idF idl :: (f1 ++ f2)) (B:=p2 ++ tt) (by rw [hK];simp) hf hm
 rcases List.mem_append.1 hm with hm|hm
 ·exact H.plain hk h8 (A:=idF idl :: (f1 ++ (f2 ++ p1))) (B:=tt) (by rw [hK];simp) hf hm
 ·rcases h10 with rfl|⟨j',kj,hij,hkj,hP,rfl⟩
  ·cases hm
  rw [List.mem_singleton] at hm;subst hm
  have e:ab3 x (totF (knm j')).of=j':=H.kix hkj
  have hno:ak4 x i (totF (knm j'))=false:=by
   rw [ak4,e]
   simp [totF];omega
  simp only [ac2]
  rw [if_neg (by simp [totF]),if_neg (by simp [totF]),if_neg (by simp [totF]),if_neg (by simp [totF]),if_neg (by simp [totF]),if_pos (by simp [totF]),am0,hno]
  simp only [Bool.false_eq_true,if_false]
  rw [e,if_neg (by omega),if_pos (H.shares hk hij hkj hP)]
end
end Go.Proofs.YtjbbmjjildhfbaaGreatDoor
