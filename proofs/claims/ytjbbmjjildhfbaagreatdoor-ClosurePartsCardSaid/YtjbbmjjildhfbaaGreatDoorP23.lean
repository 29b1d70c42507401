/- A part of the proof: Wp Wq Wr Px Wc Gp. -/
import Derived.Test.YtjbbmjjildhfbaaGreatDoorP22
set_option maxRecDepth 100000
set_option maxHeartbeats 4000000
set_option linter.unusedVariables false
set_option linter.unusedSimpArgs false
namespace Go.Proofs.YtjbbmjjildhfbaaGreatDoor
section
open Go
variable {x:Sch} {w:Wd} {s:Sb}
theorem kept_row {k n:Nat} {l:List (List Int)} {r:List Int} (hl:w[k]?=some l) (hr:(ap3 w s k l.length)[n]?=some r):∃ i,l[i]?=some r∧keptB s k i=true:=by
 unfold ap3 at hr
 rw [List.getElem?_map] at hr
 cases hi:((List.range l.length).filter (keptB s k))[n]? with
 | none=>rw [hi] at hr;cases hr
 | some i=>
  rw [hi,Option.map_some,Option.some.injEq] at hr
  obtain ⟨h1,h2⟩:=List.mem_filter.1 (List.mem_of_getElem? hi)
  have hil:=List.mem_range.1 h1
  refine ⟨i,?_,h2⟩
  rw [← hr,aa3 hl,List.getElem?_eq_getElem hil,aa3 (List.getElem?_eq_getElem hil)]
theorem aZ4 (hF:Fit x w s) {k:Nat} {l:List (List Int)} (hl:w[k]?=some l) {r:List Int} (hr:r∈l):r.length=flen x k:=by
 have:=(aj6 hF.fit).2.1 k l hl
 rw [List.any_eq_false] at this
 have:=this r hr
 simp only [Bool.not_eq_true',Bool.not_eq_false,lenOk,decide_eq_true_eq] at this
 unfold flen
 cases hx:x.kinds[k]? with
 | none=>rw [hx] at this;exact this
 | some kd=>rw [hx] at this;exact this
theorem as2:(outA w s).length=w.length:=lineTo_len _ _
theorem outA_sh (hF:Fit x w s):Wsh x (outA w s) where
 len:=by rw [as2];exact (aj6 hF.fit).1
 nr:=fun l hl=>by
  obtain ⟨k,hk⟩:=List.getElem?_of_mem hl
  have hkl:=(List.getElem?_eq_some_iff.1 hk).1
  rw [as2] at hkl
  have hw:=List.getElem?_eq_getElem hkl
  rw [aD7 hw] at hk
  cases hk
  have:=hF.ws.nr _ (List.mem_of_getElem? hw)
  rw [ay9]
  have:=aY4 s k (w[k]).length
  omega
 row:=fun k l hk r hr=>by
  have hkl:=(List.getElem?_eq_some_iff.1 hk).1
  rw [as2] at hkl
  have hw:=List.getElem?_eq_getElem hkl
  rw [aD7 hw] at hk
  cases hk
  obtain ⟨n,hn⟩:=List.getElem?_of_mem hr
  obtain ⟨i,h1,_⟩:=kept_row hw hn
  exact aZ4 hF hw (List.mem_of_getElem? h1)
theorem moved_sh (hF:Fit x w s) {q:Nat} (h:q≤(aa6 x).length):Wsh x (as3 x w s q):=(outA_sh hF).shp (ao3 x w s q h)
theorem aY2 (hF:Fit x w s) (hv:ai0 x w s=true) {rf:Rf} (hrf:rf∈aa6 x) {n:Nat} {l:List (List Int)} {r:List Int} (hl:(outA w s)[rf.kind]?=some l) (hr:l[n]?=some r) :
  ∃ v:Nat,r[rf.field]?=some (v:Int)∧v<wlen w rf.up.toNat∧keptB s rf.up.toNat v=true:=by
 have hkl:=(List.getElem?_eq_some_iff.1 hl).1
 rw [as2] at hkl
 have hw:=List.getElem?_eq_getElem hkl
 rw [aD7 hw] at hl
 cases hl
 obtain ⟨i,h1,h2⟩:=kept_row hw hr
 obtain ⟨kd,f,g1,g2,_,_,_⟩:=az5 hrf
 have hlen:=aZ4 hF hw (List.mem_of_getElem? h1)
 unfold flen at hlen
 rw [g1] at hlen
 simp only at hlen
 have hfl:rf.field<r.length:=by rw [hlen];exact (List.getElem?_eq_some_iff.1 g2).1
 have hc:=List.getElem?_eq_getElem hfl
 have ho:=(aj6 hF.fit).2.2.1 rf hrf r (by rw [aa3 hw];exact List.mem_of_getElem? h1)
 unfold refOk at ho
 simp only [Bool.not_eq_true',Bool.or_eq_false_iff,decide_eq_false_iff_not] at ho
 rw [aa3 hc] at ho
 obtain ⟨v,ev⟩:∃ v:Nat,r[rf.field]=(v:Int):=⟨r[rf.field].toNat,by omega⟩
 refine ⟨v,by rw [hc,ev],by unfold wlen;omega,?_⟩
 have hR:=aW2 hv _ _ h2
 unfold aw3 at hR
 rw [List.any_eq_false] at hR
 have:=hR rf hrf
 unfold aA4 at this
 simp only [decide_true,Bool.true_and,Bool.or_eq_true,not_or,Bool.not_eq_true',Bool.not_eq_false] at this
 have h3:=this.1
 have hval:am0 w rf.kind i rf.field=(v:Int):=by unfold am0 ar5;rw [aa3 hw,aa3 h1,aa3 hc,ev]
 rw [hval] at h3
 simpa using h3
theorem moveV_eq {rf:Rf} {n v:Nat} {l:List (List Int)} {r:List Int} (hl:(outA w s)[rf.kind]?=some l) (hr:l[n]?=some r) (hc:r[rf.field]?=some (v:Int)):aY5 w s rf n=nowN s rf.up.toNat v:=by
 unfold aY5 orig
 rw [aa3 hl,aa3 hr,aa3 hc]
 rfl
theorem ax2 {o o':Wd} (h:shp o=shp o') (k:Nat):(o.getD k []).length=(o'.getD k []).length:=by
 cases hl:o[k]? with
 | none=>
  have:o'[k]?=none:=by
   have:=congrArg List.length h
   simp [shp] at this
   rw [List.getElem?_eq_none_iff] at hl ⊢;omega
  simp only [List.getD_eq_getElem?_getD,hl,this]
 | some l=>
  obtain ⟨l',h1,h2⟩:=ax3 h hl
  have:=congrArg List.length h2
  simp at this
  rw [aa3 hl,aa3 h1,this]
theorem up_len (hF:Fit x w s) {rf:Rf} (hrf:rf∈aa6 x):((outA w s).getD rf.up.toNat []).length=nowN s rf.up.toNat (wlen w rf.up.toNat):=by
 obtain ⟨h1,h2,h3⟩:=hF.snd.up rf hrf
 have hlt:rf.up.toNat<w.length:=by rw [(aj6 hF.fit).1];omega
 have hw:=List.getElem?_eq_getElem hlt
 rw [aa3 (aD7 hw),ay9]
 unfold wlen
 rw [aa3 hw]
theorem moved_in (hF:Fit x w s) (hv:ai0 x w s=true):RefIn x (moved x w s):=by
 intro rf hrf r hr
 obtain ⟨p,hp⟩:=List.getElem?_of_mem hrf
 have hpl:=(List.getElem?_eq_some_iff.1 hp).1
 have hS:=ao3 x w s (aa6 x).length (Nat.le_refl _)
 obtain ⟨n,hn⟩:=List.getElem?_of_mem hr
 have hkl:rf.kind<(moved x w s).length:=by
  refine Nat.lt_of_not_le fun h=>?_
  rw [List.getD_eq_getElem?_getD,List.getElem?_eq_none h] at hr;cases hr
 have hk:=List.getElem?_eq_getElem hkl
 rw [aa3 hk] at hn
 obtain ⟨l0,q1,q2⟩:=ax3 hS hk
 have h3:=congrArg (fun z=>z[n]?) q2
 simp only [List.getElem?_map,hn,Option.map_some] at h3
 cases hr0:l0[n]? with
 | none=>rw [hr0] at h3;cases h3
 | some r0=>
  obtain ⟨v,e1,e2,e3⟩:=aY2 hF hv hrf q1 hr0
  have hfl:=(List.getElem?_eq_some_iff.1 e1).1
  have hc:=aF2 hp q1 hr0 hfl (aa6 x).length hpl (Nat.le_refl _)
  rw [moveV_eq q1 hr0 e1] at hc
  unfold af6 at hc
  change ((List.getD (moved x w s) rf.kind []).getD n []).getD rf.field 0=_ at hc
  rw [aa3 hk,aa3 hn] at hc
  rw [hc]
  have hl:=ax2 hS rf.up.toNat
  change (List.getD (moved x w s) rf.up.toNat []).length=_ at hl
  rw [hl,up_len hF hrf]
  have:=aY3 e2 e3
  omega
end
section
open Go
def aQ4 (w:Wd) (s:Sb) (m k:Nat):List (List Int):=(((ae5 s).take m).filter fun p=>p.1 == k).map fun p=>ar5 w p.1 p.2
def outK (w:Wd) (s:Sb) (m:Nat):Wd:=(List.range w.length).map (aQ4 w s m)
theorem aD5 (w:Wd) (s:Sb) (m:Nat):(outK w s m).length=w.length:=by simp [outK]
theorem aD6 {w:Wd} {s:Sb} {m k:Nat} (h:k<w.length):(outK w s m)[k]?=some (aQ4 w s m k):=by
 unfold outK
 rw [List.getElem?_map,List.getElem?_range h];rfl
theorem outK_zero (w:Wd) (s:Sb):outK w s 0=List.replicate w.length []:=by
 refine List.ext_getElem? fun k=>?_
 by_cases h:k<w.length
 ·rw [aD6 h,List.getElem?_replicate,if_pos h];rfl
 ·rw [List.getElem?_eq_none (by rw [aD5];omega),List.getElem?_eq_none (by simp;omega)]
theorem aR7 {w:Wd} {s:Sb} {m:Nat} {p:Nat × Nat} (h:(ae5 s)[m]?=some p) (k:Nat):aQ4 w s (m+1) k=aQ4 w s m k ++ (if p.1=k then [ar5 w p.1 p.2] else []):=by
 unfold aQ4
 rw [af4 h,List.filter_append,List.map_append]
 by_cases e:p.1=k <;> simp [e]
theorem outK_succ {w:Wd} {s:Sb} {m:Nat} {p:Nat × Nat} (h:(ae5 s)[m]?=some p) (hp:p.1<w.length):outK w s (m+1)=(outK w s m).set p.1 (aQ4 w s m p.1 ++ [ar5 w p.1 p.2]):=by
 refine List.ext_getElem? fun k=>?_
 by_cases hk:k<w.length
 ·by_cases e:k=p.1
  ·subst e
   rw [aD6 hk,List.getElem?_set_self (by rw [aD5];exact hk),aR7 h,if_pos rfl]
  ·rw [List.getElem?_set_ne (Ne.symm e),aD6 hk,aD6 hk,aR7 h,if_neg (Ne.symm e),List.append_nil]
 ·rw [List.getElem?_eq_none (by rw [aD5];omega),List.getElem?_eq_none (by rw [List.length_set,aD5];omega)]
theorem be5 (n k' k:Nat):((List.range n).map fun i=>(k',i)).filter (fun p=>p.1 == k)=if k'=k then (List.range n).map fun i=>(k,i) else []:=by
 by_cases e:k'=k
 ·subst e
  rw [if_pos rfl,List.filter_eq_self]
  intro p hp
  obtain ⟨i,_,rfl⟩:=List.mem_map.1 hp
  simp
 ·rw [if_neg e,List.filter_eq_nil_iff]
  intro p hp
  obtain ⟨i,_,rfl⟩:=List.mem_map.1 hp
  simp [e]
theorem ba9 (len:Nat→Nat) (k:Nat):∀ j,(upTo j fun k'=>(List.range (len k')).map fun i=>(k',i)).filter (fun p=>p.1 == k)=if k<j then (List.range (len k)).map fun i=>(k,i) else []
 | 0=>by rw [if_neg (by omega)];rfl
 | j+1=>by
  rw [ag8,List.filter_append,ba9 len k j,be5]
  by_cases h1:k<j
  ·rw [if_pos h1,if_neg (by omega),if_pos (by omega),List.append_nil]
  ·rw [if_neg h1]
   by_cases h2:j=k
   ·subst h2;rw [if_pos rfl,if_pos (by omega)];rfl
   ·rw [if_neg h2,if_neg (by omega)];rfl
theorem posTo_kind (s:Sb) (j i k:Nat):(aD3 s j i).filter (fun p=>p.1 == k)=if k<j then (List.range (s.getD k []).length).map (fun i=>(k,i)) else if k=j then (List.range i).map (fun i=>(k,i)) else []:=by
 unfold aD3
 rw [List.filter_append,ba9 (fun k=>(s.getD k []).length),be5]
 by_cases h1:k<j
 ·rw [if_pos h1,if_pos h1,if_neg (by omega),List.append_nil]
 ·rw [if_neg h1,if_neg h1]
  by_cases h2:k=j
  ·subst h2;simp
  ·rw [if_neg h2,if_neg (by omega)];rfl
theorem kept_map (w:Wd) (s:Sb) (k n:Nat):((((List.range n).map fun i=>(k,i)).filter fun p=>keptB s p.1 p.2).map fun p=>ar5 w p.1 p.2)=ap3 w s k n:=by
 rw [List.filter_map,List.map_map]
 rfl
theorem take_kept {s:Sb} {j i:Nat} {l:List Bool} (h:s[j]?=some l) (hi:i≤l.length):(ae5 s).take (ak1 s j i).length=ak1 s j i:=by
 obtain ⟨r,hr⟩:=aT0 h hi
 rw [← hr,List.take_left]
theorem rowsK_of {w:Wd} {s:Sb} {m:Nat} {j i:Nat} (h:(ae5 s).take m=ak1 s j i) (k:Nat):aQ4 w s m k=if k<j then ap3 w s k (s.getD k []).length else if k=j then ap3 w s k i else []:=by
 unfold aQ4
 rw [h]
 unfold ak1
 rw [List.filter_filter,List.filter_congr (fun p _=>Bool.and_comm _ _),← List.filter_filter,posTo_kind]
 split
 ·exact kept_map _ _ _ _
 ·split
  ·exact kept_map _ _ _ _
  ·rfl
theorem take_at {s:Sb} {m:Nat} {p:Nat × Nat} (h:(ae5 s)[m]?=some p):(ae5 s).take m=ak1 s p.1 p.2:=by
 have hk:keptB s p.1 p.2=true:=aq6.1 (List.mem_of_getElem? h)
 unfold keptB at hk
 simp only [List.getD_eq_getElem?_getD] at hk
 cases hl:s[p.1]? with
 | none=>rw [hl] at hk;simp at hk
 | some l=>
  rw [hl,Option.getD_some] at hk
  cases hb:l[p.2]? with
  | none=>rw [hb] at hk;cases hk
  | some b=>
   rw [hb,Option.getD_some] at hk
   subst hk
   have hi:=(List.getElem?_eq_some_iff.1 hb).1
   have h2:=aT2 hl hi (av8 hl hb)
   have:m=(ak1 s p.1 p.2).length:=(List.getElem?_inj (List.getElem?_eq_some_iff.1 h).1 (aO1 s)).1 (h.trans h2.symm)
   rw [this]
   exact take_kept hl (Nat.le_of_lt hi)
theorem bc4 {w:Wd} {s:Sb} {m:Nat} {p:Nat × Nat} (h:(ae5 s)[m]?=some p):(aQ4 w s m p.1).length=nowN s p.1 p.2:=by
 rw [rowsK_of (take_at h),if_neg (by omega),if_pos rfl,ay9]
theorem outK_all {w:Wd} {s:Sb} (h:w.map List.length=s.map List.length):outK w s (ae5 s).length=outA w s:=by
 unfold outK outA aS6
 refine List.map_congr_left fun k hk=>?_
 have hkw:=List.mem_range.1 hk
 have hl:w.length=s.length:=by have:=congrArg List.length h;simpa using this
 rw [rowsK_of (j:=s.length) (i:=0) (by rw [List.take_length,aT1]),if_pos (by omega),if_pos hkw]
 have h1:=List.getElem?_eq_getElem hkw
 obtain ⟨m,hm,e⟩:=ah8 h h1
 unfold wlen
 rw [aa3 hm,aa3 h1,e]
end
section
open Go
theorem world_no {x:Sch} {w:Wd} {s:Sb} (h:ab8 x w s≠0):aA5 x w s=([],ab8 x w s):=by unfold aA5;rw [if_pos h]
theorem world_8 {x:Sch} {w:Wd} {s:Sb} (h:ab8 x w s=0) (h2:ai0 x w s=false):aA5 x w s=([],8):=by unfold aA5;rw [if_neg (by simpa using h),if_pos h2]
theorem aC4 {x:Sch} {w:Wd} {s:Sb} (h:ab8 x w s=0) (h2:ai0 x w s=true):aA5 x w s=(sumsE x (moved x w s),0):=by unfold aA5;rw [if_neg (by simpa using h),if_neg (by simp [h2])]
theorem rw_nil:RW [] (.slice none 0 0) []:=RowsOf.nil _ _
theorem sk108 {A B:Prop} (k:B) (h:Hd7 B→A:=by intro hk7q;(first|refine sb0 ?_|refine sb1 ?_|((with_reducible refine' Cp.by ?hc ?_);(case hc=>first|exact HC|exact HK|exact HRf))|((with_reducible refine' CE.pure ?hc ?_);(case hc=>first|exact HC|exact HK|exact HRf)));exact hk7q.run):A:=h ⟨k⟩
theorem sb109 {A B:Prop} (k:B) (h:Hd7 B→A:=by intro hk7q;(first|(with_reducible refine Bc.l ?_)|(with_reducible refine Bx.l ?_)|fail|((with_reducible refine Dm.l ?h ?_);(case h=>decide +kernel))|((with_reducible refine Cb.go ?h ?_);(case h=>decide +kernel)));exact hk7q.run):A:=h ⟨k⟩
theorem sk110 {A B:Prop} (k:B) (h:Hd7 B→A:=by intro hk7q;(first|refine sb0 ?_|refine sb109 ?_|((with_reducible refine' Cp.by ?hc ?_);(case hc=>first|exact HC|exact HK|exact HRf))|((with_reducible refine' CE.pure ?hc ?_);(case hc=>first|exact HC|exact HK|exact HRf)));exact hk7q.run):A:=h ⟨k⟩
end
section
open Go
variable {x:Sch} {w:Wd} {s t:Sb}
theorem sum_six {k f:Nat} (h:0≤(ac6 x k f).1):∃ kd g,x.kinds[k]?=some kd∧kd.fields[f]?=some g∧g.kind=6:=by
 unfold ac6 at h
 split at h
 ·simp at h
 ·rename_i g hg
  simp only [al7] at h
  by_cases hn:aj4 x k g=true
  ·rw [if_pos hn] at h;simp [aX6] at h
  ·have hn':aj4 x k g=false:=by simpa using hn
   simp only [aj4,Bool.or_eq_false_iff,Bool.not_eq_false',decide_eq_true_eq,decide_eq_false_iff_not] at hn'
   obtain ⟨_,_,kd,hk,hf⟩:=ae3 hg
   exact ⟨kd,g,by simpa using hk,by simpa using hf,hn'.1⟩
theorem aw1 {k f:Nat} {kd:Knd} {g:Fld} (hk:x.kinds[k]?=some kd) (hf:kd.fields[f]?=some g) (h:g.kind≠6):(ac6 x k f).1<0:=by
 refine Int.not_le.1 fun h0=>?_
 obtain ⟨kd',g',h1,h2,h3⟩:=sum_six h0
 rw [hk] at h1;cases h1
 rw [hf] at h2;cases h2
 exact h h3
theorem aM4 {rf:Rf} (h:rf∈aa6 x):(ac6 x rf.kind rf.field).1<0:=by
 obtain ⟨kd,g,h1,h2,h3,_⟩:=az5 h
 exact aw1 h1 h2 (by omega)
theorem aP5 {o:Wd} {k f k' n f':Nat} (h:k≠k'∨f≠f'):af6 (ag9 x o k f) k' n f'=af6 o k' n f':=by
 unfold ag9
 split
 ·rfl
 ·exact aA3 _ _ _ h
theorem bh5 {o:Wd} {k f k' n f':Nat} (h:(ac6 x k' f').1<0):af6 (ag9 x o k f) k' n f'=af6 o k' n f':=by
 by_cases e:k=k'∧f=f'
 ·obtain ⟨rfl,rfl⟩:=e
  unfold ag9
  rw [if_pos h]
 ·exact aP5 (by omega)
theorem cell_F {k' n f':Nat} (h:(ac6 x k' f').1<0) (o:Wd) (k:Nat):∀ q,af6 (sumsF x k o q) k' n f'=af6 o k' n f'
 | 0=>rfl
 | q+1=>by rw [au1,bh5 h,cell_F h o k q]
theorem cell_K {k' n f':Nat} (h:(ac6 x k' f').1<0) (o:Wd):∀ q,af6 (sumsK x o q) k' n f'=af6 o k' n f'
 | 0=>rfl
 | q+1=>by rw [au0,cell_F h,cell_K h o q]
theorem bh4 {k' n f':Nat} (h:(ac6 x k' f').1<0) (o:Wd):af6 (sumsE x o) k' n f'=af6 o k' n f':=cell_K h o _
theorem getD_out {α:Type} {l:List α} {i:Nat} (h:l.length≤i) (d:α):l.getD i d=d:=by rw [List.getD_eq_getElem?_getD,List.getElem?_eq_none h];rfl
theorem cell_out {o:Wd} {k n f:Nat} (h:(o.getD k []).length≤n):af6 o k n f=0:=by
 unfold af6
 rw [List.getD_eq_getElem?_getD (l:=o.getD k []),List.getElem?_eq_none h]
 rfl
theorem refIn_cells {o:Wd}:RefIn x o↔∀ rf∈aa6 x,∀ n,n<(o.getD rf.kind []).length→0≤af6 o rf.kind n rf.field∧af6 o rf.kind n rf.field<((o.getD rf.up.toNat []).length:Int):=by
 constructor
 ·intro h rf hrf n hn
  have hr:=List.getElem?_eq_getElem hn
  have:=h rf hrf _ (List.mem_of_getElem? hr)
  unfold af6
  rw [aa3 hr]
  exact this
 ·intro h rf hrf r hr
  obtain ⟨n,hn⟩:=List.getElem?_of_mem hr
  have:=h rf hrf n (List.getElem?_eq_some_iff.1 hn).1
  unfold af6 at this
  rw [aa3 hn] at this
  exact this
theorem RefIn.of {o o':Wd} (h:RefIn x o) (hs:shp o'=shp o) (hc:∀ rf∈aa6 x,∀ n,af6 o' rf.kind n rf.field=af6 o rf.kind n rf.field):RefIn x o':=by
 rw [refIn_cells] at h ⊢
 intro rf hrf n hn
 rw [ax2 hs] at hn
 rw [hc rf hrf,ax2 hs]
 exact h rf hrf n hn
theorem refIn_F {o:Wd} (h:RefIn x o) (k q:Nat):RefIn x (sumsF x k o q):=h.of (shp_F _ _ _ _) fun _ hrf _=>cell_F (aM4 hrf) _ _ _
theorem refIn_K {o:Wd} (h:RefIn x o) (q:Nat):RefIn x (sumsK x o q):=h.of (shp_K _ _ _) fun _ hrf _=>cell_K (aM4 hrf) _ _
theorem refIn_sums {o:Wd} (h:RefIn x o):RefIn x (sumsE x o):=refIn_K h _
theorem cells_ext {o o':Wd} (hs:shp o=shp o') (h:∀ k n f,af6 o k n f=af6 o' k n f):o=o':=by
 have hlen:o.length=o'.length:=by have:=congrArg List.length hs;simpa [shp] using this
 refine List.ext_getElem? fun k=>?_
 cases hl:o[k]? with
 | none=>
  rw [List.getElem?_eq_none_iff] at hl
  exact (List.getElem?_eq_none_iff.2 (by omega)).symm
 | some l=>
  obtain ⟨l',h1,h2⟩:=ax3 hs hl
  rw [h1]
  have e:l=l':=by
   have hll:l'.length=l.length:=by have:=congrArg List.length h2;simpa using this
   refine List.ext_getElem? fun n=>?_
   cases hr:l[n]? with
   | none=>
    rw [List.getElem?_eq_none_iff] at hr
    exact (List.getElem?_eq_none_iff.2 (by omega)).symm
   | some r=>
    have h3:=congrArg (fun z=>z[n]?) h2
    simp only [List.getElem?_map,hr,Option.map_some] at h3
    cases hr':l'[n]? with
    | none=>rw [hr'] at h3;cases h3
    | some r'=>
     rw [hr'] at h3
     simp only [Option.map_some,Option.some.injEq] at h3
     have e:r=r':=List.ext_getElem (by omega) fun f hf hf'=>by
      have:=h k n f
      unfold af6 at this
      rw [aa3 hl,aa3 hr,aa3 h1,aa3 hr',aa3 (List.getElem?_eq_getElem hf),aa3 (List.getElem?_eq_getElem hf')] at this
      exact this
     rw [e]
  rw [e]
theorem bb7 {u sh i:Nat}:∀ (a b:List (List Int)),a.length=b.length→(∀ n,(a.getD n []).getD u 0=(b.getD n []).getD u 0)→(∀ n,(a.getD n []).getD sh 0=(b.getD n []).getD sh 0)→ag2 a u sh i=ag2 b u sh i:=by
 unfold ag2
 have key:∀ (a b:List (List Int)) (c:Int),a.length=b.length→(∀ n,(a.getD n []).getD u 0=(b.getD n []).getD u 0)→(∀ n,(a.getD n []).getD sh 0=(b.getD n []).getD sh 0) →
   a.foldl (fun (acc:Int) (r:List Int)=>if r.getD u 0=(i:Int) then IntKind.i64.wrap (acc+r.getD sh 0) else acc) c=b.foldl (fun (acc:Int) (r:List Int)=>if r.getD u 0=(i:Int) then IntKind.i64.wrap (acc+r.getD sh 0) else acc) c:=by
  intro a
  induction a with
  | nil=>
   intro b c hl _ _
   cases b with
   | nil=>rfl
   | cons=>cases hl
  | cons r a ih=>
   intro b c hl h1 h2
   cases b with
   | nil=>cases hl
   | cons r' b=>
    have e1:r.getD u 0=r'.getD u 0:=h1 0
    have e2:r.getD sh 0=r'.getD sh 0:=h2 0
    rw [List.foldl_cons,List.foldl_cons,e1,e2]
    exact ih b _ (Nat.succ.inj hl) (fun n=>h1 (n+1)) (fun n=>h2 (n+1))
 exact fun a b=>key a b 0
theorem aP4 {o o':Wd} (hs:shp o=shp o') {k f:Nat} {g g':Nat→Int} (hg:∀ i,g i=g' i) (n:Nat):af6 (ah4 o k f g (o.getD k []).length) k n f=af6 (ah4 o' k f g' (o'.getD k []).length) k n f:=by
 rw [← ax2 hs]
 rw [sumTo_const hg]
 have hlen:o.length=o'.length:=by have:=congrArg List.length hs;simpa [shp] using this
 unfold af6
 cases hl:o[k]? with
 | none=>
  rw [List.getElem?_eq_none_iff] at hl
  rw [getD_out (l:=ah4 o k f g' _) (by unfold ah4;rw [List.length_set];exact hl),getD_out (l:=ah4 o' k f g' _) (by unfold ah4;rw [List.length_set];omega)]
 | some l=>
  obtain ⟨l',h1,h2⟩:=ax3 hs hl
  have hll:l'.length=l.length:=by have:=congrArg List.length h2;simpa using this
  rw [aa3 (av1 hl _ _ _),aa3 (av1 h1 _ _ _),aa3 hl]
  simp only [List.getD_eq_getElem?_getD,List.getElem?_mapIdx]
  cases hr:l[n]? with
  | none=>
   rw [List.getElem?_eq_none_iff] at hr
   rw [List.getElem?_eq_none (show l'.length≤n by omega)]
  | some r=>
   have hnl:=(List.getElem?_eq_some_iff.1 hr).1
   have h3:=congrArg (fun z=>z[n]?) h2
   simp only [List.getElem?_map,hr,Option.map_some] at h3
   cases hr':l'[n]? with
   | none=>rw [hr'] at h3;cases h3
   | some r'=>
    rw [hr'] at h3
    simp only [Option.map_some,Option.some.injEq] at h3
    simp only [Option.map_some,Option.getD_some,if_pos hnl,List.getElem?_set,h3,if_true]
def AgF (x:Sch) (k q:Nat) (o o':Wd):Prop:=shp o=shp o'∧∀ k' n f',((ac6 x (k':Nat) (f':Nat)).1<0∨k' < k∨(k'=k∧f' < q))→af6 o k' n f'=af6 o' k' n f'
theorem AgF.step {k q:Nat} {o o':Wd} (h:AgF x k q o o'):AgF x k (q+1) (ag9 x o k q) (ag9 x o' k q):=by
 refine ⟨by rw [aV8,aV8];exact h.1,fun k' n f' hc=>?_⟩
 by_cases hn:(ac6 x k q).1<0
 ·have e1:ag9 x o k q=o:=by unfold ag9;rw [if_pos hn]
  have e2:ag9 x o' k q=o':=by unfold ag9;rw [if_pos hn]
  rw [e1,e2]
  refine h.2 _ _ _ ?_
  rcases hc with hc|hc|⟨rfl,hc⟩
  ·exact .inl hc
  ·exact .inr (.inl hc)
  ·by_cases e:f'=q
   ·subst e;exact .inl hn
   ·exact .inr (.inr ⟨rfl,by omega⟩)
 ·by_cases e:k=k'∧q=f'
  ·obtain ⟨rfl,rfl⟩:=e
   obtain ⟨p,sh,u,ko,g,gu,e1,hkq,hko,hg,hg7,hfu,hgu,hgu1,huq,hup⟩:=aR5 (x:=x) (i:=k) (j:=q) (by omega)
   unfold ag9
   rw [if_neg hn,if_neg hn,e1]
   simp only [Int.toNat_natCast,hup]
   refine aP4 h.1 (fun i=>?_) n
   exact bb7 _ _ (ax2 h.1 _) (fun n=>h.2 p n u (.inl (aw1 hko hgu (by omega)))) (fun n=>h.2 p n sh (.inl (aw1 hko hg (by omega))))
  ·have e':k≠k'∨q≠f':=by omega
   rw [aP5 e',aP5 e']
   refine h.2 _ _ _ ?_
   rcases hc with hc|hc|⟨hc1,hc⟩
   ·exact .inl hc
   ·exact .inr (.inl hc)
   ·exact .inr (.inr ⟨hc1,by omega⟩)
theorem AgF.sumsF {k:Nat} {o o':Wd} (h:AgF x k 0 o o'):∀ q,AgF x k q (sumsF x k o q) (sumsF x k o' q)
 | 0=>h
 | q+1=>by rw [au1,au1];exact (h.sumsF q).step
theorem AgF.row {k:Nat} {o o':Wd} (h:AgF x k (flen x k) o o'):AgF x (k+1) 0 o o':=by
 refine ⟨h.1,fun k' n f' hc=>h.2 _ _ _ ?_⟩
 by_cases hn:(ac6 x k' f').1<0
 ·exact .inl hn
 ·obtain ⟨kd,g,h1,h2,_⟩:=sum_six (x:=x) (k:=k') (f:=f') (by omega)
  rcases hc with hc|hc|⟨rfl,hc⟩
  ·exact absurd hc hn
  ·by_cases e:k' < k
   ·exact .inr (.inl e)
   ·obtain rfl:k'=k:=by omega
    exact .inr (.inr ⟨rfl,by unfold flen;rw [h1];exact (List.getElem?_eq_some_iff.1 h2).1⟩)
  ·omega
theorem AgF.sumsK {o o':Wd} (h:AgF x 0 0 o o'):∀ q,AgF x q 0 (sumsK x o q) (sumsK x o' q)
 | 0=>h
 | q+1=>by rw [au0,au0];exact ((h.sumsK q).sumsF _).row
theorem sums_same {o o':Wd} (hs:shp o=shp o') (h:∀ k n f:Nat,(ac6 x k f).1<0→af6 o k n f=af6 o' k n f):sumsE x o=sumsE x o':=by
 have h1:AgF x 0 0 o o':=⟨hs,fun k n f hc=>h k n f (by rcases hc with hc|hc|hc <;> first|exact hc|omega)⟩
 have h2:=h1.sumsK x.kinds.length
 refine cells_ext h2.1 fun k n f=>h2.2 _ _ _ ?_
 by_cases hn:(ac6 x k f).1<0
 ·exact .inl hn
 ·obtain ⟨kd,g,h1,h2,_⟩:=sum_six (x:=x) (k:=k) (f:=f) (by omega)
  exact .inr (.inl (List.getElem?_eq_some_iff.1 h1).1)
theorem aK1 {k n f:Nat} (h:∀ rf∈aa6 x,rf.kind≠k∨rf.field≠f):∀ q,q≤(aa6 x).length→af6 (as3 x w s q) k n f=af6 (outA w s) k n f
 | 0,_=>rfl
 | q+1,hq=>by
  have hb:=List.getElem?_eq_getElem (l:=aa6 x) (i:=q) (by omega)
  rw [aq5 hb,as4,aA3 _ _ _ (h _ (List.mem_of_getElem? hb)),aK1 h q (by omega)]
end
section
open Go Go.Maps Go.MapKept
theorem six_sum {x:Sch} (h:au4 x=[]) {k f:Nat} {kd:Knd} {g:Fld} (hk:x.kinds[k]?=some kd) (hf:kd.fields[f]?=some g) (h6:g.kind=6):0≤(ac6 x k f).1:=by
 have h1:=(bb8 h hk hf).2
 rw [leads6 h6] at h1
 split at h1
 ·cases h1
 ·rename_i h0
  split at h1
  ·rename_i h2
   have hfa:fieldAt x k f=some g:=by rw [ah9 (by omega) (by omega) (by simpa using hk)];simpa using hf
   have hs:al7 x k g=((al7 x k g).1,(al7 x k g).2):=rfl
   rw [sharesR_of hfa hs]
   match hl:(al7 x k g).2,h2 with
   | [z],_=>simp only [aX6];omega
  ·cases h1
theorem now_next {s:Sb} {m n:Nat} {p:Nat × Nat} {F F2:Value→Option Value} (hp:(ae5 s)[m]?=some p) (h:∀ q∈(ae5 s).take m,F (atV q.1 q.2)=some (.int .i64 (nowN s q.1 q.2))) (hn:n=nowN s p.1 p.2) (h2:F2=updF F (atV p.1 p.2) (.int .i64 (n:Int))) :
  ∀ q∈(ae5 s).take (m+1),F2 (atV q.1 q.2)=some (.int .i64 (nowN s q.1 q.2)):=by
 intro q hq
 subst h2 hn
 unfold updF
 by_cases e:atV q.1 q.2=atV p.1 p.2
 ·rw [if_pos e]
  obtain ⟨e1,e2⟩:=atV_inj e
  rw [show q.1=p.1 by omega,show q.2=p.2 by omega]
 ·rw [if_neg e]
  rw [af4 hp] at hq
  rcases List.mem_append.1 hq with hq|hq
  ·exact h q hq
  ·rw [List.mem_singleton] at hq
   rw [hq] at e
   exact absurd rfl e
theorem pm2 (a b:Nat × Blk) (s t:aa1):(a :: b :: (s ++ t)).Perm (s ++ (a :: b :: t)):=by
 refine ac3 fun z=>?_
 simp only [ac4,ae4]
 omega
theorem pmD (a b c:Nat × Blk) (s:aa1):(s ++ [a,b,c]).Perm ((b :: (s ++ [c])) ++ [a]):=by
 refine ac3 fun z=>?_
 simp only [List.append_eq,ac4,ae4,ae6]
 omega
theorem sk111 {A B:Prop} (k:B) (h:Hd7 B→A:=by intro hk7q;(first|refine sb0 ?_|refine sb1 ?_|((with_reducible refine' Cp.by ?hc ?_);(case hc=>first|exact HC|exact HK|exact HRf|exact ay4 _))|((with_reducible refine' CE.pure ?hc ?_);(case hc=>first|exact HC|exact HK|exact HRf|exact ay4 _)));exact hk7q.run):A:=h ⟨k⟩
theorem sk112 {A B:Prop} (k:B) (h:Hd7 B→A:=by intro hk7q;(first|refine sb0 ?_|refine sb109 ?_|((with_reducible refine' Cp.by ?hc ?_);(case hc=>first|exact HC|exact HK|exact HRf|exact ay4 _))|((with_reducible refine' CE.pure ?hc ?_);(case hc=>first|exact HC|exact HK|exact HRf|exact ay4 _)));exact hk7q.run):A:=h ⟨k⟩
theorem cl21 {p:Prop} (h:p:=by (refine ac3 fun a=>?_;simp only [List.append_eq,List.nil_append,ac4,ae4,ae6,atC,iD];omega)):p:=h
theorem cl22 {p:Prop} (h:p:=by refine ac3 fun a=>?_;have e1:=And.intro (aj8 p0 a) (aj8 q3 a);simp only [List.append_eq,List.nil_append,ac4,ae4,ae6] at e1 ⊢;omega):p:=h
theorem cl_world (x:Sch) (w:Wd) (s:Sb) (hw:Ws w) (hs:Ss s) (HV:APure Tryz.prog 81 [schD x] (iD (af9 x))):ACall Tryz.prog 34 [schD x,slW w,slS2 s] [] (fun d σ=>∃ v,d = .tup [.v v,iD (aA5 x w s).2]∧RW (aA5 x w s).1 v σ):=by
 have HC:=aA1 x w s hw HV
 have HK:=cl_valid x w s hw hs HV
 by_cases h0:ab8 x w s=0
 ·have hF:=aA2 hw hs h0
  have hwl:=hw.nk
  by_cases h1:ai0 x w s=true
  ·rw [aC4 h0 h1]
   rw [h0] at HC
   rw [h1] at HK
   have HRf:=aZ8 x hF.snd.vld
   refine aa4 mixed aa0 Tryz.func34 (by kernel_rfl) rfl Tryz.ntmps34 rfl ?_;intro BB
   repeat' (first|refine sk111 ?_|(intro b;conv=>whnf)|(with_reducible refine Br.t (beq_self_eq_true _) ?_)|(with_reducible refine Br.f Bool.not_true ?_)|(with_reducible refine Br.t (decide_eq_true trivial) ?_))
   refine OtE.makeMap (k:=33) rfl (fun bm=>?_)
   repeat' (first|refine sk111 ?_|(intro b;conv=>whnf)|(with_reducible refine Br.t (beq_self_eq_true _) ?_)|(with_reducible refine Br.f Bool.not_true ?_)|(with_reducible refine Br.t (decide_eq_true trivial) ?_))
   refine Mk.go w.length rfl rfl rfl rfl rfl (by simp) (by omega) (by omega) (fun bo=>?_)
   repeat' (first|refine sk111 ?_|(intro b;conv=>whnf)|(with_reducible refine Br.t (beq_self_eq_true _) ?_)|(with_reducible refine Br.f Bool.not_true ?_)|(with_reducible refine Br.t (decide_eq_true trivial) ?_))
   generalize b=b10
   rename_i b9
   have hR0:RW (outK w s 0) (.slice (some ⟨bo,0,none⟩) w.length w.length) [(bo,.cells 75 (List.replicate w.length (.v (.slice none 0 0))))]:=by
    rw [outK_zero]
    exact RowsOf.made (R:=RW1) (x0:=[]) (RowsOf.nil _ _) _ bo (by unfold maxLen;omega)
   refine lp_frz (i:=10) (d:=.v (.pointer (some ⟨b10,0,none⟩))) (d':=.ro [.v (.slice (some ⟨bo,0,none⟩) w.length w.length)]) (τ:=[(bo,.cells 75 (List.replicate w.length (.v (.slice none 0 0)))),(b9,.cells 116 [.v (.map (some bm))]),(bm,.obj (MapO Tryz.prog 33 fun _=>none))]) rfl (fun h=>by cases h) (Vs.ptr (tb:=30) (List.Perm.refl _)) ?_
   refine lp_frz (i:=9) (d:=.v (.pointer (some ⟨b9,0,none⟩))) (d':=.ro [.v (.map (some bm))]) (τ:=[(bo,.cells 75 (List.replicate w.length (.v (.slice none 0 0)))),(bm,.obj (MapO Tryz.prog 33 fun _=>none))]) rfl (fun h=>by cases h) (Vs.ptr (tb:=116) (List.Perm.swap _ _ _)) ?_
   refine aE0 mixed aa0 rfl (ax8 s hs) (fun x hx=>aO2 hx) rfl (γ:=aa1 × (Value→Option Value)) (fun _ g=>g.1 ++ [(bm,.obj (MapO Tryz.prog 33 g.2))]) (fun m g=>RW (outK w s m) (.slice (some ⟨bo,0,none⟩) w.length w.length) g.1∧∀ p∈(ae5 s).take m,g.2 (atV p.1 p.2)=some (.int .i64 (nowN s p.1 p.2))) ([(bo,.cells 75 (List.replicate w.length (.v (.slice none 0 0))))],fun _=>none) (List.Sublist.refl _) ⟨hR0,by simp⟩ ?_ ?_
   ·rintro lb m ⟨σo,F⟩ y hy ⟨hA,hM⟩
    obtain ⟨p,hpk,rfl⟩:=aO3 hy
    simp only at hA hM
    have hkb:keptB s p.1 p.2=true:=aq6.1 (List.mem_of_getElem? hpk)
    obtain ⟨k',i',ls,e1,e2,hls,hbs⟩:=au9 (show ao6 s p.1 p.2=true by unfold ao6;simp [hkb])
    obtain rfl:p.1=k':=by omega
    obtain rfl:p.2=i':=by omega
    obtain ⟨l,hl,hll⟩:=ah8 hF.shp.symm hls
    have hkw:=(List.getElem?_eq_some_iff.1 hl).1
    have hil:=(List.getElem?_eq_some_iff.1 hbs).1
    obtain ⟨r,hr⟩:∃ r,l[p.2]?=some r:=⟨_,List.getElem?_eq_getElem (by omega)⟩
    have hl':w[((p.1:Nat):Int).toNat]?=some l:=hl
    have hr':l[((p.2:Nat):Int).toNat]?=some r:=hr
    have hlw:=hw.nr l (List.mem_of_getElem? hl)
    have hrw:=hw.nf l (List.mem_of_getElem? hl) r (List.mem_of_getElem? hr)
    have hrl:=bc4 (w:=w) hpk
    have hnl:=aY4 s p.1 p.2
    obtain ⟨b0,cap0,cs0,u,t,τ,e0,p0,c0,hu,upo⟩:=RowsOf.at hA (aD6 (s:=s) (m:=m) hkw)
    rw [aD5] at e0
    cases e0
    obtain ⟨a1,ca1,rfl⟩:=RowsOf.slice hu
    have mo:(bo,Blk.cells 75 cs0)∈σo ++ [(bm,.obj (MapO Tryz.prog 33 F))]:=List.mem_append_left _ (p0.mem_iff.2 (by simp))
    obtain ⟨kl,hkl⟩:=bh9 (show (Lit.int .i64 (p.1:Int)).wf=true from wf64 (by omega) (by omega)) (show (Lit.int .i64 (p.2:Int)).wf=true from wf64 (by omega) (by omega))
    repeat' (first|refine sk111 ?_|(intro b;conv=>whnf)|(with_reducible refine Br.t (beq_self_eq_true _) ?_)|(with_reducible refine Br.f Bool.not_true ?_)|(with_reducible refine Br.t (decide_eq_true trivial) ?_))
    refine Ld.cellm (List.mem_cons_of_mem _ mo) (by rw [ix1];exact c0) ?_
    repeat' (first|refine sk112 ?_|(intro b;conv=>whnf)|(with_reducible refine Br.t (beq_self_eq_true _) ?_)|(with_reducible refine Br.f Bool.not_true ?_)|(with_reducible refine Br.t (decide_eq_true trivial) ?_))
    refine OtE.mapUpdate (b:=bm) (F:=F) (k:=33) (e:=3) (kv:=atV p.1 p.2) (kl:=kl) (τ:=(b,.cells 33 (atC p.1 p.2)) :: σo) rfl rfl (KeyD.agg2 _ _) rfl cl21 ap8 Tryz.underlying116 hkl ?_
    repeat' (first|refine sk112 ?_|(intro b;conv=>whnf)|(with_reducible refine Br.t (beq_self_eq_true _) ?_)|(with_reducible refine Br.f Bool.not_true ?_)|(with_reducible refine Br.t (decide_eq_true trivial) ?_))
    obtain ⟨F2,hF2⟩:∃ F2,F2=updF F (atV p.1 p.2) (.int .i64 ((aQ4 w s m p.1).length:Int)):=⟨_,rfl⟩
    rw [← hF2]
    have hM2:=now_next hpk hM (bc4 hpk) hF2
    obtain ⟨vs,s0,ts,q1,q2,q3⟩:=hu.ex
    have hlen:=q2.len.1
    have hos:=outK_succ (w:=w) hpk hkw
    have hrec:ar5 w p.1 p.2=r:=by unfold ar5;rw [aa3 hl,aa3 hr]
    rw [hrec] at hos
    have mo2:(bo,Blk.cells 75 cs0)∈(bm,Blk.obj (MapO Tryz.prog 33 F2)) :: σo:=List.mem_cons_of_mem _ (p0.mem_iff.2 (by simp))
    (refine Dr.r ?_;(((with_reducible refine W.mk ?_);(conv=>whnf)));refine Dm.r ?_;refine W.mk ?_)
    refine lp_frz (i:=11) (d:=.v (.pointer (some ⟨b,0,none⟩))) (d':=.ro (atC p.1 p.2)) (τ:=(bm,.obj (MapO Tryz.prog 33 F2)) :: σo) rfl (fun h=>by cases h) (Vs.ptr (tb:=33) (List.Perm.swap _ _ _)) ?_
    refine aE1 mixed aa0 rfl [0,1,2,3,4,5,6,8,9,10,11,12,13,14,15,16] 6 (inE [7,17,18,19,21]) (.two 7 (.one 17 (.one 18 (.one 19 (.fst 20 (.one 21 .done))))) 17 (.two 7 (.one 18 (.one 19 (.fst 20 (.one 21 .done)))) 18 (.one 7 (.one 19 (.fst 20 (.one 21 .done)))))) (γ:=aa1) (fun _=>[]) (fun g=>g ++ [(bm,.obj (MapO Tryz.prog 33 F2))]) (fun g=>RW (outK w s (m+1)) (.slice (some ⟨bo,0,none⟩) w.length w.length) g) (by decide +kernel) ?_ ?_
    ·repeat' (first|refine sk112 ?_|(intro b;conv=>whnf)|(refine And.intro ?_ ?_ <;> (conv=>whnf))|((with_reducible refine' Ld.cellm (b:=bo) (cs:=cs0) ?mm8 ?hq8 ?_);(case mm8=>first|exact mo2|exact List.mem_append_right _ mo2);(case hq8=>(rw [ix1];exact c0)))|((refine CE.own (clone_i r (by omega)) (List.Perm.refl ([] ++ _)) (fun s'=>s' ++ _) (fun s'=>List.Perm.refl _) ?_);(rintro _ s6 ⟨v6,rfl,hr6⟩);(obtain ⟨a6,c6,rfl⟩:=hr6.slice))|(refine Ap.go rfl rfl rfl rfl q1 (τ:=(bo,.cells 75 cs0) :: (ts.flatten ++ (s6 ++ (τ ++ [(bm,.obj (MapO Tryz.prog 33 F2))])))) cl22 rfl (zs:=vs.map (fun u=>[D.v u]) ++ [[D.v (.slice a6 (r.map fun n=>[iD n]).length c6)]]) rfl (by simp [hlen];omega) (by simp [hlen];omega) (fun s2=>s2 ++ ((bo,.cells 75 cs0) :: (ts.flatten ++ (s6 ++ (τ ++ [(bm,.obj (MapO Tryz.prog 33 F2))]))))) (fun s2=>List.Perm.refl _) (fun a9 c9 s9 hr9=>?_))|(refine OtE.yd rfl (yd_bsl aa0 rfl rfl rfl rfl rfl rfl rfl rfl rfl rfl) ?_))
     all_goals
      refine Sv.cellm (tb:=75) (cs:=cs0) (cs':=cs0.set p.1 (.v (.slice a9 (vs.map (fun u=>[D.v u]) ++ [[D.v (.slice a6 (r.map fun n=>[iD n]).length c6)]]).length c9))) (τ:=((s9 ++ (ts.flatten ++ s6)) ++ τ) ++ [(bm,.obj (MapO Tryz.prog 33 F2))]) cl21 (by rw [ix1];exact (List.getElem?_eq_some_iff.1 c0).1) rfl (by rw [ix1]) ?_
      repeat' (first|refine sk112 ?_|(intro b;conv=>whnf)|(refine And.intro ?_ ?_ <;> (conv=>whnf))|((with_reducible refine' Ld.cellm (b:=bo) (cs:=cs0) ?mm8 ?hq8 ?_);(case mm8=>first|exact mo2|exact List.mem_append_right _ mo2);(case hq8=>(rw [ix1];exact c0)))|((refine CE.own (clone_i r (by omega)) (List.Perm.refl ([] ++ _)) (fun s'=>s' ++ _) (fun s'=>List.Perm.refl _) ?_);(rintro _ s6 ⟨v6,rfl,hr6⟩);(obtain ⟨a6,c6,rfl⟩:=hr6.slice))|(refine Ap.go rfl rfl rfl rfl q1 (τ:=(bo,.cells 75 cs0) :: (ts.flatten ++ (s6 ++ (τ ++ [(bm,.obj (MapO Tryz.prog 33 F2))])))) cl22 rfl (zs:=vs.map (fun u=>[D.v u]) ++ [[D.v (.slice a6 (r.map fun n=>[iD n]).length c6)]]) rfl (by simp [hlen];omega) (by simp [hlen];omega) (fun s2=>s2 ++ ((bo,.cells 75 cs0) :: (ts.flatten ++ (s6 ++ (τ ++ [(bm,.obj (MapO Tryz.prog 33 F2))]))))) (fun s2=>List.Perm.refl _) (fun a9 c9 s9 hr9=>?_))|(refine OtE.yd rfl (yd_bsl aa0 rfl rfl rfl rfl rfl rfl rfl rfl rfl rfl) ?_))
      have h8:=upo _ _ (s9 ++ (ts.flatten ++ s6)) ((bo,.cells 75 (cs0.set p.1 (.v (.slice a9 (vs.map (fun u=>[D.v u]) ++ [[D.v (.slice a6 (r.map fun n=>[iD n]).length c6)]]).length c9)))) :: ((s9 ++ (ts.flatten ++ s6)) ++ τ)) (RowsOf.push q2 hr9 hr6 (List.Perm.refl _)) (List.Perm.refl _)
      rw [← hos] at h8
      exact ⟨(bo,.cells 75 (cs0.set p.1 (.v (.slice a9 (vs.map (fun u=>[D.v u]) ++ [[D.v (.slice a6 (r.map fun n=>[iD n]).length c6)]]).length c9)))) :: ((s9 ++ (ts.flatten ++ s6)) ++ τ),(aa2 cl2),Sc.perm cl21,h8⟩
    ·rintro σo2 hRo2
     repeat' (first|refine sk111 ?_|(intro b;conv=>whnf)|(with_reducible refine Br.t (beq_self_eq_true _) ?_)|(with_reducible refine Br.f Bool.not_true ?_)|(with_reducible refine Br.t (decide_eq_true trivial) ?_))
     exact ⟨(σo2,F2),List.Sublist.refl _,hRo2,hM2⟩
   ·rintro ⟨σo,F⟩ ⟨hA,hM⟩
    rw [List.length_map] at hA hM
    rw [outK_all hF.shp] at hA
    simp only [List.take_length] at hA hM
    obtain ⟨vs,hRv⟩:=RowsV.of hA
    clear hA hR0
    have hrl:=az0 hF.snd.vld
    repeat' (first|refine sk111 ?_|(intro b;conv=>whnf)|(with_reducible refine Br.t (beq_self_eq_true _) ?_)|(with_reducible refine Br.f Bool.not_true ?_)|(with_reducible refine Br.t (decide_eq_true trivial) ?_))
    refine aa9 mixed aa0 (γ:=Nat × aa1) (fun g=>[(71,iD g.1)]) (fun g=>g.2 ++ [(bm,.obj (MapO Tryz.prog 33 F))]) (fun g=>g.1≤(aa6 x).length∧RWv (as3 x w s g.1) (.slice (some ⟨bo,0,none⟩) w.length w.length) vs g.2) (fun g=>(aa6 x).length - g.1) (0,σo) (aa2 cl2) cl3 ⟨Nat.zero_le _,hRv⟩ ?_
    clear hRv
    rintro ⟨q,σ1⟩ ⟨hq,hR1⟩
    simp only at hq hR1 ⊢
    by_cases hql:q<(aa6 x).length
    ·obtain ⟨rf,hrf⟩:∃ y,(aa6 x)[q]?=some y:=⟨_,List.getElem?_eq_getElem hql⟩
     have hrf':(aa6 x)[((q:Nat):Int).toNat]?=some rf:=hrf
     have hrm:=List.mem_of_getElem? hrf
     obtain ⟨u1,u2,u3⟩:=hF.snd.up rf hrm
     have hMs:=moved_sh hF (Nat.le_of_lt hql)
     have hst:=aq5 (w:=w) (s:=s) hrf
     have hkw:rf.kind<w.length:=by rw [(aj6 hF.fit).1];exact u3
     have hml:(as3 x w s q).length=w.length:=by rw [hMs.len,(aj6 hF.fit).1]
     obtain ⟨lq,hlq⟩:∃ l,(as3 x w s q)[rf.kind]?=some l:=⟨_,List.getElem?_eq_getElem (by rw [hml];exact hkw)⟩
     obtain ⟨l0,hl0,hl0l⟩:=ax3 (ao3 x w s q (Nat.le_of_lt hql)) hlq
     have hll0:l0.length=lq.length:=by have:=congrArg List.length hl0l;simpa using this
     have hlqn:=hMs.nr lq (List.mem_of_getElem? hlq)
     obtain ⟨up,hupe⟩:∃ u:Nat,rf.up=u:=⟨rf.up.toNat,by omega⟩
     obtain ⟨b0,cap0,cs0,a1,c1,e1,m0,h3,hv1⟩:=w_head hR1 hlq
     rw [hml] at e1
     cases e1
     unfold as4 at hst
     rw [aa3 hlq] at hst
     repeat' (first|refine sk111 ?_|(intro b;conv=>whnf)|(with_reducible refine Br.t (beq_self_eq_true _) ?_)|(with_reducible refine Br.f Bool.not_true ?_)|(with_reducible refine Br.t (decide_eq_true trivial) ?_))
     refine Ld.cellm (List.mem_cons_of_mem _ (List.mem_append_left _ m0)) (by rw [ix1];exact h3) ?_
     repeat' (first|refine sk111 ?_|(intro b;conv=>whnf)|(with_reducible refine Br.t (beq_self_eq_true _) ?_)|(with_reducible refine Br.f Bool.not_true ?_)|(with_reducible refine Br.t (decide_eq_true trivial) ?_))
     refine az6 mixed aa0 (γ:=Nat × aa1) (fun g=>[(81,iD g.1)]) (fun g=>(b,.cells 121 (rfC rf)) :: (g.2 ++ [(bm,.obj (MapO Tryz.prog 33 F))])) (fun g=>g.1≤lq.length∧RWv (ah4 (as3 x w s q) rf.kind rf.field (aY5 w s rf) g.1) (.slice (some ⟨bo,0,none⟩) w.length w.length) vs g.2) (fun g=>lq.length - g.1) (0,σ1) (aa2 cl2) (Sc.refl _) ⟨Nat.zero_le _,by rw [aR2];exact hR1⟩ ?_
     clear hR1 m0 h3 cs0
     rintro ⟨i,σ2⟩ ⟨hi,hR2⟩
     simp only at hi hR2 ⊢
     by_cases hil:i<lq.length
     ·obtain ⟨rq,hrq⟩:∃ r,lq[i]?=some r:=⟨_,List.getElem?_eq_getElem hil⟩
      obtain ⟨r0,hr0⟩:∃ r,l0[i]?=some r:=⟨_,List.getElem?_eq_getElem (by omega)⟩
      obtain ⟨v,hv0,hvw,hvk⟩:=aY2 hF h1 hrm hl0 hr0
      have hrql:rq.length=r0.length:=by
       have:=congrArg (fun z=>z[i]?) hl0l
       simp only [List.getElem?_map,hrq,hr0,Option.map_some,Option.some.injEq] at this
       omega
      have hfl:=(List.getElem?_eq_some_iff.1 hv0).1
      have hco:=cell_old (w:=w) (s:=s) hrf i q (Nat.le_refl _)
      unfold af6 at hco
      rw [aa3 hlq,aa3 hrq,aa3 hl0,aa3 hr0,aa3 hv0] at hco
      obtain ⟨z,hz⟩:∃ z,rq[rf.field]?=some z:=⟨_,List.getElem?_eq_getElem (by omega)⟩
      rw [aa3 hz] at hco
      subst hco
      have hmv:=moveV_eq hl0 hr0 hv0
      rw [hupe,Int.toNat_natCast] at hmv hvw hvk
      have hmF:=hM (up,v) (aq6.2 hvk)
      have hul:up<w.length:=by omega
      have hvl:v<1000001:=by
       unfold wlen at hvw
       have hwu:=List.getElem?_eq_getElem hul
       rw [aa3 hwu] at hvw
       have:=hw.nr _ (List.mem_of_getElem? hwu)
       omega
      have hnl:=aY4 s up v
      obtain ⟨kl,hkl⟩:=bh9 (show (Lit.int .i64 (up:Int)).wf=true from wf64 (by omega) (by omega)) (show (Lit.int .i64 (v:Int)).wf=true from wf64 (by omega) (by omega))
      have hl2:(ah4 (as3 x w s q) rf.kind rf.field (aY5 w s rf) i).length=w.length:=by unfold ah4;rw [List.length_set];exact hml
      obtain ⟨f0,fap0,fs0,f1,fap1,fs1,f2,fap2,fs2,ρ1,e4,p4,k0,kv,k1,k2,k3⟩:=w_open hR2 (av1 hlq _ _ i) (bb6 hrq _ _) hz
      rw [hl2] at e4
      cases e4
      rw [List.length_mapIdx] at kv
      cases hv1.symm.trans kv
      have o1:(f1,Blk.cells 22 fs1)∈(b,Blk.cells 121 (rfC rf)) :: (σ2 ++ [(bm,.obj (MapO Tryz.prog 33 F))]):=List.mem_cons_of_mem _ (List.mem_append_left _ (p4.mem_iff.2 (by simp)))
      have o2:(f2,Blk.cells 3 fs2)∈(b,Blk.cells 121 (rfC rf)) :: (σ2 ++ [(bm,.obj (MapO Tryz.prog 33 F))]):=List.mem_cons_of_mem _ (List.mem_append_left _ (p4.mem_iff.2 (by simp)))
      have om:(bm,Blk.obj (MapO Tryz.prog 33 F))∈(b,Blk.cells 121 (rfC rf)) :: (σ2 ++ [(bm,.obj (MapO Tryz.prog 33 F))]):=by simp
      have hs1:=aR3 hlq hrq rf.field (aY5 w s rf)
      rw [hmv] at hs1
      repeat' (first|refine sk111 ?_|(intro b;conv=>whnf)|(with_reducible refine Br.t (beq_self_eq_true _) ?_)|(with_reducible refine Br.f Bool.not_true ?_)|(with_reducible refine Br.t (decide_eq_true trivial) ?_))
      refine Ld.cellm o1 (by rw [ix1];exact k1) ?_
      repeat' (first|refine sk111 ?_|(intro b;conv=>whnf)|(with_reducible refine Br.t (beq_self_eq_true _) ?_)|(with_reducible refine Br.f Bool.not_true ?_)|(with_reducible refine Br.t (decide_eq_true trivial) ?_))
      refine Ld.cellm o2 (by rw [ix1];exact k2) ?_
      repeat' (first|refine sk111 ?_|(intro b;conv=>whnf)|(with_reducible refine Br.t (beq_self_eq_true _) ?_)|(with_reducible refine Br.f Bool.not_true ?_)|(with_reducible refine Br.t (decide_eq_true trivial) ?_))
      refine Ot.yd (aj0 (kv:=atV up v) (u:=.int .i64 (nowN s up v)) rfl rfl (by rw [hupe];exact KeyD.agg2 _ _) om (fun _ h=>h) ap8 Tryz.underlying116 ar8 hkl (by rw [hmF];rfl)) ?_
      repeat' (first|refine sk111 ?_|(intro b;conv=>whnf)|(with_reducible refine Br.t (beq_self_eq_true _) ?_)|(with_reducible refine Br.f Bool.not_true ?_)|(with_reducible refine Br.t (decide_eq_true trivial) ?_))
      refine Sv.cellm (tb:=3) (cs:=fs2) (cs':=fs2.set rf.field (iD (nowN s up v))) (τ:=(b,.cells 121 (rfC rf)) :: (((bo,.cells 75 fs0) :: (f1,.cells 22 fs1) :: ρ1) ++ [(bm,.obj (MapO Tryz.prog 33 F))])) (((p4.append_right _).cons _).trans cl21) (by rw [ix1];exact (List.getElem?_eq_some_iff.1 k2).1) rfl (by rw [ix1]) ?_
      repeat' (first|refine sk111 ?_|(intro b;conv=>whnf)|(with_reducible refine Br.t (beq_self_eq_true _) ?_)|(with_reducible refine Br.f Bool.not_true ?_)|(with_reducible refine Br.t (decide_eq_true trivial) ?_))
      have hR4:=RowsV.perm (k3 (nowN s up v)) (s':=(f2,.cells 3 (fs2.set rf.field (iD (nowN s up v)))) :: (bo,.cells 75 fs0) :: (f1,.cells 22 fs1) :: ρ1) ((List.Perm.swap _ _ _).trans (List.Perm.cons _ (List.Perm.swap _ _ _)))
      rw [← hs1] at hR4
      exact ⟨(i+1,(f2,.cells 3 (fs2.set rf.field (iD (nowN s up v)))) :: (bo,.cells 75 fs0) :: (f1,.cells 22 fs1) :: ρ1),(aa2 cl2),Sc.perm (List.Perm.swap _ _ _),⟨by simp only;omega,hR4⟩,by simp only;omega⟩
     ·obtain rfl:i=lq.length:=by omega
      repeat' (first|refine sk111 ?_|(intro b;conv=>whnf)|(with_reducible refine Br.t (beq_self_eq_true _) ?_)|(with_reducible refine Br.f Bool.not_true ?_)|(with_reducible refine Br.t (decide_eq_true trivial) ?_))
      exact ⟨(q+1,σ2),(aa2 cl2),cl3,⟨by simp only;omega,by rw [hst];exact hR2⟩,by simp only;omega⟩
    ·obtain rfl:q=(aa6 x).length:=by omega
     have hnk:=hF.snd.vld.nk
     have hnf:=hF.snd.vld.nf
     have ho:Wsh x (moved x w s):=moved_sh hF (Nat.le_refl _)
     have hin:=moved_in hF h1
     change RWv (moved x w s) _ _ _ at hR1
     generalize moved x w s=o at *
     have hol:o.length=w.length:=by rw [ho.len,(aj6 hF.fit).1]
     clear hM
     repeat' (first|refine sk111 ?_|(intro b;conv=>whnf)|(with_reducible refine Br.t (beq_self_eq_true _) ?_)|(with_reducible refine Br.f Bool.not_true ?_)|(with_reducible refine Br.t (decide_eq_true trivial) ?_))
     refine az6 mixed aa0 (γ:=Nat × aa1) (fun g=>[(104,iD g.1)]) (fun g=>g.2 ++ [(bm,.obj (MapO Tryz.prog 33 F))]) (fun g=>g.1≤x.kinds.length∧RWv (sumsK x o g.1) (.slice (some ⟨bo,0,none⟩) w.length w.length) vs g.2) (fun g=>x.kinds.length - g.1) (0,σ1) (aa2 cl2) (Sc.refl _) ⟨Nat.zero_le _,hR1⟩ ?_
     clear hR1
     rintro ⟨k,σ2⟩ ⟨hk,hR2⟩
     simp only at hk hR2 ⊢
     by_cases hkl:k<x.kinds.length
     ·obtain ⟨kd,hkd⟩:∃ y,x.kinds[k]?=some y:=⟨_,List.getElem?_eq_getElem hkl⟩
      have hkd':x.kinds[((k:Nat):Int).toNat]?=some kd:=hkd
      have hfl:=hnf kd (List.mem_of_getElem? hkd)
      have hfk:flen x k=kd.fields.length:=by unfold flen;rw [hkd]
      repeat' (first|refine sk111 ?_|(intro b;conv=>whnf)|(with_reducible refine Br.t (beq_self_eq_true _) ?_)|(with_reducible refine Br.f Bool.not_true ?_)|(with_reducible refine Br.t (decide_eq_true trivial) ?_))
      refine az6 mixed aa0 (γ:=Nat × aa1) (fun g=>[(112,iD g.1)]) (fun g=>(b,.cells 97 (kndC kd)) :: (g.2 ++ [(bm,.obj (MapO Tryz.prog 33 F))])) (fun g=>g.1≤kd.fields.length∧RWv (sumsF x k (sumsK x o k) g.1) (.slice (some ⟨bo,0,none⟩) w.length w.length) vs g.2) (fun g=>kd.fields.length - g.1) (0,σ2) (aa2 cl2) (Sc.refl _) ⟨Nat.zero_le _,hR2⟩ ?_
      clear hR2
      rintro ⟨f,σ3⟩ ⟨hf,hR3⟩
      simp only at hf hR3 ⊢
      by_cases hfl2:f<kd.fields.length
      ·obtain ⟨g,hg⟩:∃ y,kd.fields[f]?=some y:=⟨_,List.getElem?_eq_getElem hfl2⟩
       have hg':kd.fields[((f:Nat):Int).toNat]?=some g:=hg
       have hs2:shp (sumsF x k (sumsK x o k) f)=shp o:=by rw [shp_F,shp_K]
       have hW2:=ho.shp hs2
       have hI2:=refIn_F (refIn_K hin k) k f
       have hsu:=au1 x k (sumsK x o k) f
       generalize sumsF x k (sumsK x o k) f=o2 at *
       have h2l:o2.length=w.length:=by rw [hW2.len,(aj6 hF.fit).1]
       by_cases h6:g.kind=6
       ·have hs0:=six_sum hF.snd.no hkd hg h6
        have HA:=cl_add x hF.snd.vld o2 hW2 hI2 k f kd hkd hfl2 hs0 (some ⟨bo,0,none⟩) w.length vs σ3 (by rw [h2l];exact hR3)
        rw [h2l] at HA
        repeat' (first|refine sk111 ?_|(intro b;conv=>whnf)|(with_reducible refine Br.t (beq_self_eq_true _) ?_)|(with_reducible refine Br.f Bool.not_true ?_)|(with_reducible refine Br.t (decide_eq_true trivial) ?_))
        refine CE.own HA (pm2 _ _ _ _) (fun s'=>s' ++ _) (fun s'=>List.Perm.refl _) ?_
        rintro _ σ4 ⟨rfl,hR4⟩
        repeat' (first|refine sk111 ?_|(intro b;conv=>whnf)|(with_reducible refine Br.t (beq_self_eq_true _) ?_)|(with_reducible refine Br.f Bool.not_true ?_)|(with_reducible refine Br.t (decide_eq_true trivial) ?_))
        exact ⟨(f+1,σ4),(aa2 cl2),Sc.drop (pmD _ _ _ _),⟨by simp only;omega,by rw [hsu];exact hR4⟩,by simp only;omega⟩
       ·have hst:ag9 x o2 k f=o2:=by unfold ag9;rw [if_pos (aw1 hkd hg h6)]
        repeat' (first|refine sk111 ?_|(intro b;conv=>whnf)|(with_reducible refine Br.t (beq_self_eq_true _) ?_)|(with_reducible refine Br.f Bool.not_true ?_)|(with_reducible refine Br.t (decide_eq_true trivial) ?_))
        exact ⟨(f+1,σ3),(aa2 cl2),Sc.sl (List.sublist_cons_self _ _),⟨by simp only;omega,by rw [hsu,hst];exact hR3⟩,by simp only;omega⟩
      ·obtain rfl:f=kd.fields.length:=by omega
       repeat' (first|refine sk111 ?_|(intro b;conv=>whnf)|(with_reducible refine Br.t (beq_self_eq_true _) ?_)|(with_reducible refine Br.f Bool.not_true ?_)|(with_reducible refine Br.t (decide_eq_true trivial) ?_))
       exact ⟨(k+1,σ3),(aa2 cl2),Sc.sl (List.sublist_cons_self _ _),⟨by simp only;omega,by rw [au0,hfk];exact hR3⟩,by simp only;omega⟩
     ·obtain rfl:k=x.kinds.length:=by omega
      repeat' (first|refine sk111 ?_|(intro b;conv=>whnf)|(with_reducible refine Br.t (beq_self_eq_true _) ?_)|(with_reducible refine Br.f Bool.not_true ?_)|(with_reducible refine Br.t (decide_eq_true trivial) ?_))
      refine Rt.by (Vs.drop (List.sublist_append_left σ2 _)) ?_
      exact ⟨_,rfl,hR2.to⟩
  ·have h1:ai0 x w s=false:=by simpa using h1
   rw [world_8 h0 h1]
   rw [h0] at HC
   rw [h1] at HK
   have HRf:=True.intro
   refine aa4 mixed aa0 Tryz.func34 (by kernel_rfl) rfl Tryz.ntmps34 rfl ?_;intro BB
   repeat' (first|refine sk111 ?_|(intro b;conv=>whnf)|(with_reducible refine Br.t (beq_self_eq_true _) ?_)|(with_reducible refine Br.f Bool.not_true ?_)|(with_reducible refine Br.t (decide_eq_true trivial) ?_))
   exact Rt.same ⟨_,rfl,rw_nil⟩
 ·rw [world_no h0]
  have HRf:=True.intro
  refine aa4 mixed aa0 Tryz.func34 (by kernel_rfl) rfl Tryz.ntmps34 rfl ?_;intro BB
  repeat' (first|refine sk111 ?_|(intro b;conv=>whnf)|(with_reducible refine Br.t (beq_self_eq_true _) ?_)|(with_reducible refine Br.f Bool.not_true ?_)|(with_reducible refine Br.t (decide_eq_true trivial) ?_))
  exact Rt.same ⟨_,rfl,rw_nil⟩
end
section
open Go
theorem aT7 {k:Knd} (hN:(k.fields.map Fld.name).Nodup) {j:Nat} {f:Fld} (h:k.fields[j]?=some f):ab6 k f.name=j:=
 ad6 h (ar9 _) fun i y hi hy=>by
  cases hs:seq y.name f.name with
  | false=>rfl
  | true=>
   exfalso
   have he:=(aG0 _ _).1 hs
   have hlt:i<(k.fields.map Fld.name).length:=by rw [List.length_map];exact (List.getElem?_eq_some_iff.1 hy).1
   have:=(List.getElem?_inj (j:=j) hlt hN).1 (by rw [List.getElem?_map,List.getElem?_map,hy,h];simp [he])
   omega
theorem at_of {F:List Fld} (hN:(F.map Fld.name).Nodup) {j n:Nat} {f g:Fld} (h:F[j]?=some f) (h2:F[n]?=some g) (e:f.name=g.name):j=n:=
 (List.getElem?_inj (by rw [List.length_map];exact (List.getElem?_eq_some_iff.1 h).1) hN).1 (by rw [List.getElem?_map,List.getElem?_map,h,h2];simp [e])
theorem idx_true {α:Type} {p:α→Bool} {xs:List α} {a:α} (h:0≤idx p xs) (ha:xs[(idx p xs).toNat]?=some a):p a=true:=by
 unfold idx at *
 split at h
 ·rename_i o ho
  obtain ⟨h1,h2,_⟩:=List.findIdx?_eq_some_iff_getElem.1 ho
  simp only [ho,Int.toNat_natCast] at ha
  rw [List.getElem?_eq_getElem h1] at ha
  cases ha;exact h2
 ·omega
theorem has_neg {l:List Fld} {n:ByteArray} (h:am4 l n<0):∀ f∈l,f.name≠n:=by
 intro f hf e
 have:=an5 (fun f:Fld=>seq f.name n) l
 have h2:l.any (fun f:Fld=>seq f.name n)=true:=List.any_eq_true.2 ⟨f,hf,(aG0 _ _).2 e⟩
 rw [h2] at this
 have:=of_decide_eq_true this
 unfold am4 at h;omega
theorem has_pos {l:List Fld} {n:ByteArray} (h:0≤am4 l n):∃ f∈l,f.name=n:=by
 have:=an5 (fun f:Fld=>seq f.name n) l
 unfold am4 at h
 rw [decide_eq_true h] at this
 obtain ⟨f,hf,e⟩:=List.any_eq_true.1 this.symm
 exact ⟨f,hf,(aG0 _ _).1 e⟩
def ofN (t:Nat) (lo hi:Int):Fld:=⟨nOf,knm t,nE,1,lo,hi,[],[]⟩
def byN:Fld:=⟨nBy,knm 0,nE,1,0,8,[],[]⟩
def PartTo (kj:Knd) (i:Nat):Prop:=∃ n lo hi a b,kj.fields[1]?=some (ofN i lo hi)∧1<n∧kj.fields[n]?=some (aj5 a b)∧∀ (n':Nat) (g:Fld),kj.fields[n']?=some g→g.kind=7→n'=n
def SmQ (ks:List Knd) (t:Nat) (sm:List Fld):Prop:=sm=[]∨∃ (y:Knd) (n:Nat) (g:Fld),ks[t]?=some y∧y.fields[n]?=some g∧ao4 g.kind=true∧sm=[at5 g.name]
def PtQ (ks:List Knd) (t i:Nat) (pt:List Fld):Prop:=pt=[]∨∃ (a b:Int) (y:Knd) (n:Nat),(0≤a∧a<3)∧(0≤b∧b<8)∧ks[t]?=some y∧y.fields[n]?=some (totF (knm i))∧pt=[aj5 a b]
def RefQ (ks:List Knd) (i:Nat) (f1:List Fld):Prop:=f1=[]∨∃ (t:Nat) (lo hi:Int) (sm pt:List Fld),t<i∧(lo=0∨lo=1)∧hi∈[(4:Int),3,8,2]∧SmQ ks t sm∧PtQ ks t i pt∧f1=ofN t lo hi :: (sm ++ pt)
def TotQ (ks:List Knd) (i:Nat) (tt:List Fld):Prop:=tt=[]∨∃ (j:Nat) (kj:Knd),i<j∧ks[j]?=some kj∧PartTo kj i∧tt=[totF (knm j)]
def KForm (ks:List Knd) (i:Nat) (k:Knd):Prop:=∃ lo r idl f1 f2 p1 p2 tt,lo∈[(0:Int),1,2,4,1,2]∧(0≤r∧r<5)∧idl∈[(0:Int),1,100,-3]∧k=⟨knm i,lo,lo+r,idF idl :: (f1 ++ (f2 ++ (p1 ++ (p2 ++ tt))))⟩∧RefQ ks i f1 ∧
 (f2=[]∨(0<i∧f2=[byN]))∧PlainF p1∧PlainF p2∧(p2=[]∨∃ g gs,p2=g :: gs∧am4 (idF idl :: (f1 ++ (f2 ++ p1))) g.name<0)∧TotQ ks i tt
def Ext (ks ks':List Knd):Prop:=∀ (i:Nat) (y:Knd),ks[i]?=some y→∃ y',ks'[i]?=some y'∧∃ t,y'.fields=y.fields ++ t∧∀ g∈t,g.kind≠7
theorem aZ1 {y y':Knd} {t:List Fld} (h:y'.fields=y.fields ++ t) {n:Nat} {g:Fld} (hg:y.fields[n]?=some g):y'.fields[n]?=some g:=by
 rw [h,List.getElem?_append_left (List.getElem?_eq_some_iff.1 hg).1];exact hg
theorem PartTo.ext {y y':Knd} {t:List Fld} {i:Nat} (h:PartTo y i) (e:y'.fields=y.fields ++ t) (ht:∀ g∈t,g.kind≠7):PartTo y' i:=by
 obtain ⟨n,lo,hi,a,b,h1,h2,h3,h4⟩:=h
 refine ⟨n,lo,hi,a,b,aZ1 e h1,h2,aZ1 e h3,fun n' g hg hk=>?_⟩
 rw [e] at hg
 by_cases hl:n' < y.fields.length
 ·rw [List.getElem?_append_left hl] at hg;exact h4 n' g hg hk
 ·rw [List.getElem?_append_right (by omega)] at hg;exact absurd hk (ht g (List.mem_of_getElem? hg))
theorem SmQ.ext {ks ks':List Knd} {t:Nat} {sm:List Fld} (h:SmQ ks t sm) (e:Ext ks ks'):SmQ ks' t sm:=by
 rcases h with rfl|⟨y,n,g,h1,h2,h3,h4⟩
 ·exact .inl rfl
 ·obtain ⟨y',g1,_,g2,_⟩:=e t y h1
  exact .inr ⟨y',n,g,g1,aZ1 g2 h2,h3,h4⟩
theorem PtQ.ext {ks ks':List Knd} {t i:Nat} {sm:List Fld} (h:PtQ ks t i sm) (e:Ext ks ks'):PtQ ks' t i sm:=by
 rcases h with rfl|⟨a,b,y,n,ha,hb,h1,h2,h3⟩
 ·exact .inl rfl
 ·obtain ⟨y',g1,_,g2,_⟩:=e t y h1
  exact .inr ⟨a,b,y',n,ha,hb,g1,aZ1 g2 h2,h3⟩
theorem RefQ.ext {ks ks':List Knd} {i:Nat} {f1:List Fld} (h:RefQ ks i f1) (e:Ext ks ks'):RefQ ks' i f1:=by
 rcases h with rfl|⟨t,lo,hi,sm,pt,h1,h2,h3,h4,h5,h6⟩
 ·exact .inl rfl
 ·exact .inr ⟨t,lo,hi,sm,pt,h1,h2,h3,h4.ext e,h5.ext e,h6⟩
theorem TotQ.ext {ks ks':List Knd} {i:Nat} {tt:List Fld} (h:TotQ ks i tt) (e:Ext ks ks'):TotQ ks' i tt:=by
 rcases h with rfl|⟨j,kj,h1,h2,h3,h4⟩
 ·exact .inl rfl
 ·obtain ⟨y',g1,_,g2,g3⟩:=e j kj h2
  exact .inr ⟨j,y',h1,g1,h3.ext g2 g3,h4⟩
theorem KForm.ext {ks ks':List Knd} {i:Nat} {k:Knd} (h:KForm ks i k) (e:Ext ks ks'):KForm ks' i k:=by
 obtain ⟨lo,r,idl,f1,f2,p1,p2,tt,h1,h2,h3,h4,h5,h6,h7,h8,h9,h10⟩:=h
 exact ⟨lo,r,idl,f1,f2,p1,p2,tt,h1,h2,h3,h4,h5.ext e,h6,h7,h8,h9,h10.ext e⟩
theorem KForm.name {ks:List Knd} {i:Nat} {k:Knd} (h:KForm ks i k):k.name=knm i:=by
 obtain ⟨lo,r,idl,f1,f2,p1,p2,tt,h1,h2,h3,h4,_⟩:=h
 rw [h4]
theorem PlainF.kd {fs:List Fld} (h:PlainF fs):∀ f∈fs,f.kind=2∨f.kind=3∨f.kind=4∨f.kind=5:=by
 cases h <;> simp
theorem uniq7 {A B:List Fld} {c:Fld} (hA:∀ g∈A,g.kind≠7) (hB:∀ g∈B,g.kind≠7) {n:Nat} {g:Fld} (h:(A ++ c :: B)[n]?=some g) (hk:g.kind=7):n=A.length:=by
 by_cases h1:n<A.length
 ·rw [List.getElem?_append_left h1] at h;exact absurd hk (hA g (List.mem_of_getElem? h))
 ·rw [List.getElem?_append_right (by omega)] at h
  by_cases h2:n - A.length=0
  ·omega
  ·obtain ⟨m,hm⟩:∃ m,n - A.length=m+1:=⟨n - A.length - 1,by omega⟩
   rw [hm,List.getElem?_cons_succ] at h
   exact absurd hk (hB g (List.mem_of_getElem? h))
theorem ext_snoc (ks:List Knd) (k:Knd):Ext ks (ks ++ [k]):=fun i y h=>⟨y,by rw [List.getElem?_append_left (List.getElem?_eq_some_iff.1 h).1];exact h,[],by simp,by simp⟩
theorem ext_set (ks:List Knd) (tw:Nat) (y:Knd) (k:Knd) (nm:ByteArray) (hy:ks[tw]?=some y):Ext ks (ks.set tw ⟨y.name,y.lo,y.hi,y.fields ++ [totF nm]⟩ ++ [k]):=fun i z h=>by
 have hl:=(List.getElem?_eq_some_iff.1 h).1
 rw [List.getElem?_append_left (by rw [List.length_set];exact hl)]
 by_cases e:i=tw
 ·subst e
  rw [hy] at h;cases h
  exact ⟨_,List.getElem?_set_self hl,[totF nm],rfl,fun g hg=>by rw [List.mem_singleton] at hg;subst hg;show (6:Int)≠7;decide⟩
 ·rw [List.getElem?_set_ne (Ne.symm e)]
  exact ⟨z,h,[],by simp,by simp⟩
theorem smq_of {ks:List Knd} {t:Nat} {y:Knd} {sm:List Fld} (hy:ks[t]?=some y) (hs:sm=[]∨∃ g,0≤ap5 y∧y.fields[(ap5 y).toNat]?=some g∧sm=[at5 g.name]):SmQ ks t sm:=by
 rcases hs with rfl|⟨g,h1,h2,h3⟩
 ·exact .inl rfl
 ·exact .inr ⟨y,_,g,hy,h2,idx_true (p:=fun f:Fld=>ao4 f.kind) h1 h2,h3⟩
theorem KChain.form {ks:List Knd} (h:KChain ks):∀ (i:Nat) k,ks[i]?=some k→KForm ks i k:=by
 induction h with
 | nil=>intro i k h;simp at h
 | @step ks ks' k h m l ih=>
  obtain ⟨lo,r,idl,f1,f2,p1,p2,hlo,hr,hid,rfl,hR,hf2,hp1,hp2,hp2n⟩:=m.ex
  have hf2':f2=[]∨(0<ks.length∧f2=[byN]):=by
   rcases hf2 with rfl|⟨y,hy,hl,rfl⟩
   ·exact .inl rfl
   ·exact .inr ⟨by omega,by rw [byF,byN,(ih 0 y hy).name]⟩
  have ofn:∀ {t:Nat} {y:Knd} (lo hi:Int),ks[t]?=some y→ofF y lo hi=ofN t lo hi:=fun lo hi hy=>by rw [ofF,ofN,(ih _ _ hy).name]
  cases hR with
  | none hks=>
   subst hks
   intro i k hk
   have hi:i=0:=by have:=(List.getElem?_eq_some_iff.1 hk).1;simp at this;omega
   subst hi
   rw [List.nil_append,List.getElem?_cons_zero] at hk
   cases hk
   exact ⟨lo,r,idl,[],f2,p1,p2,[],hlo,hr,hid,by simp,.inl rfl,hf2',hp1,hp2,hp2n,.inl rfl⟩
  | of tw y lo1 hi1 sm hy hl1 hh1 hs=>
   intro i k hk
   by_cases hi:i<ks.length
   ·rw [List.getElem?_append_left hi] at hk
    exact (ih i k hk).ext (ext_snoc _ _)
   ·have hi:i=ks.length:=by have:=(List.getElem?_eq_some_iff.1 hk).1;rw [List.length_append,List.length_singleton] at this;omega
    subst hi
    rw [List.getElem?_append_right (Nat.le_refl _),Nat.sub_self,List.getElem?_cons_zero] at hk
    cases hk
    refine ⟨lo,r,idl,_,f2,p1,p2,[],hlo,hr,hid,by simp,.inr ⟨tw,lo1,hi1,sm,[],(List.getElem?_eq_some_iff.1 hy).1,hl1,hh1,(smq_of hy hs).ext (ext_snoc _ _),.inl rfl,by rw [ofn _ _ hy];simp⟩,hf2',hp1,hp2,hp2n,.inl rfl⟩
  | part tw y lo1 hi1 a b sm hy hl1 hh1 hs ht ha hb=>
   have hto:=(List.getElem?_eq_some_iff.1 hy).1
   have hE:=ext_set ks tw y ⟨knm ks.length,lo,lo+r,idF idl :: (ofF y lo1 hi1 :: (sm ++ [aj5 a b]) ++ (f2 ++ (p1 ++ p2)))⟩ (knm ks.length) hy
   have hsm7:∀ g∈sm,g.kind≠7:=by
    rcases hs with rfl|⟨g,_,_,rfl⟩
    ·simp
    ·intro g hg;rw [List.mem_singleton] at hg;subst hg;show (8:Int)≠7;decide
   have hrest7:∀ g∈f2 ++ (p1 ++ p2),g.kind≠7:=by
    intro g hg
    rcases List.mem_append.1 hg with hg|hg
    ·rcases hf2' with rfl|⟨_,rfl⟩
     ·cases hg
     ·rw [List.mem_singleton] at hg;subst hg;show (1:Int)≠7;decide
    ·rcases List.mem_append.1 hg with hg|hg
     ·have:=hp1.kd g hg;omega
     ·have:=hp2.kd g hg;omega
   have hP:PartTo ⟨knm ks.length,lo,lo+r,idF idl :: (ofF y lo1 hi1 :: (sm ++ [aj5 a b]) ++ (f2 ++ (p1 ++ p2)))⟩ tw:=by
    have hF:idF idl :: (ofF y lo1 hi1 :: (sm ++ [aj5 a b]) ++ (f2 ++ (p1 ++ p2)))=(idF idl :: ofN tw lo1 hi1 :: sm) ++ aj5 a b :: (f2 ++ (p1 ++ p2)):=by rw [ofn _ _ hy];simp
    refine ⟨(idF idl :: ofN tw lo1 hi1 :: sm).length,lo1,hi1,a,b,by rw [hF];rfl,by simp,by show (idF idl :: _)[_]?=_;rw [hF,List.getElem?_append_right (Nat.le_refl _),Nat.sub_self];rfl,fun n' g hg hk=>?_⟩
    change (idF idl :: _)[n']?=_ at hg
    rw [hF] at hg
    refine uniq7 (fun g hg=>?_) hrest7 hg hk
    rcases List.mem_cons.1 hg with rfl|hg
    ·show (0:Int)≠7;decide
    ·rcases List.mem_cons.1 hg with rfl|hg
     ·show (1:Int)≠7;decide
     ·exact hsm7 g hg
   intro i k hk
   by_cases hi:i<ks.length
   ·have hk':=hk
    rw [List.getElem?_append_left (by rw [List.length_set];exact hi)] at hk
    by_cases e:i=tw
    ·subst e
     rw [List.getElem?_set_self hi] at hk
     cases hk
     obtain ⟨lo2,r2,idl2,g1,g2,q1,q2,tt,h1,h2,h3,h4,h5,h6,h7,h8,h9,h10⟩:=ih i y hy
     have htt:tt=[]:=by
      rcases h10 with rfl|⟨j,kj,_,_,_,rfl⟩
      ·rfl
      ·exact absurd rfl (has_neg ht (totF (knm j)) (by rw [h4];simp))
     subst htt
     refine ⟨lo2,r2,idl2,g1,g2,q1,q2,[totF (knm ks.length)],h1,h2,h3,by rw [h4];simp,h5.ext hE,h6,h7,h8,h9,.inr ⟨ks.length,_,hi,by rw [List.getElem?_append_right (by rw [List.length_set];exact Nat.le_refl _),List.length_set,Nat.sub_self];rfl,hP,rfl⟩⟩
    ·rw [List.getElem?_set_ne (Ne.symm e)] at hk
     exact (ih i k hk).ext hE
   ·have hi:i=ks.length:=by have:=(List.getElem?_eq_some_iff.1 hk).1;rw [List.length_append,List.length_set,List.length_singleton] at this;omega
    subst hi
    rw [List.getElem?_append_right (by rw [List.length_set];exact Nat.le_refl _),List.length_set,Nat.sub_self,List.getElem?_cons_zero] at hk
    cases hk
    refine ⟨lo,r,idl,_,f2,p1,p2,[],hlo,hr,hid,by simp,.inr ⟨tw,lo1,hi1,sm,[aj5 a b],hto,hl1,hh1,(smq_of hy hs).ext hE,.inr ⟨a,b,⟨y.name,y.lo,y.hi,y.fields ++ [totF (knm ks.length)]⟩,y.fields.length,ha,hb,?_,?_,rfl⟩,by rw [ofn _ _ hy]⟩,hf2',hp1,hp2,hp2n,.inl rfl⟩
    ·rw [List.getElem?_append_left (by rw [List.length_set];exact hto)];exact List.getElem?_set_self hto
    ·show (y.fields ++ [_])[_]?=_
     rw [List.getElem?_append_right (Nat.le_refl _),Nat.sub_self];rfl
end
end Go.Proofs.YtjbbmjjildhfbaaGreatDoor
