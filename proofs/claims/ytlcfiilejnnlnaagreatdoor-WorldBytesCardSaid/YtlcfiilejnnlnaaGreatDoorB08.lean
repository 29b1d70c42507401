/- A part of the proof: Ym Gw Za Ar Zb Zc Zd. -/
import Derived.Test.YtlcfiilejnnlnaaGreatDoorB07
import Derived.Lib.BufferWrite
import Derived.Lib.AppendStr
import Derived.Deep.AppendSrc
import Derived.Laws.IdiomStrings
set_option maxRecDepth 100000
set_option maxHeartbeats 20000000
set_option linter.unusedVariables false
set_option linter.unusedSimpArgs false
namespace Go.Proofs.YtlcfiilejnnlnaaGreatDoor
section
open Go
structure WCt (w:Wd):Prop where
 k:w.length≤1000000
 n:∀ l∈w,l.length≤1000000
 f:∀ l∈w,∀ r∈l,r.length≤1000000
theorem bF2 (a b:List Int) (ha:a.length≤1000000) (hb:b.length≤1000000):APure Tryz.prog 25 [slI a,slI b] (bD (decide (a=b))):=by
 refine eP7 Tryz.func25 Tryz.ntmps25 fun BB=>?_
 by_cases hl:a.length=b.length
 ·repeat' first|refine sk2 ?_|(intro b;conv=>whnf)
  refine ad5 mixed aa0 (γ:=Nat) (fun k=>[(5,iD k)]) (fun _=>[]) (fun k=>k≤a.length∧∀ i,i<k→a[i]?=b[i]?) (fun k=>a.length - k) 0 rfl rfl ⟨Nat.zero_le _,fun i h=>by omega⟩ ?_
  rintro k ⟨hk,hno⟩
  by_cases hlt:k<a.length
  ·obtain ⟨x,hx⟩:∃ x,a[((k:Nat):Int).toNat]?=some x:=⟨_,List.getElem?_eq_getElem hlt⟩
   obtain ⟨y,hy⟩:∃ y,b[((k:Nat):Int).toNat]?=some y:=⟨_,List.getElem?_eq_getElem (by show k<_;omega)⟩
   have hx':a[k]?=some x:=hx
   have hy':b[k]?=some y:=hy
   by_cases he:x=y
   ·repeat' first|refine sk2 ?_|(intro b;conv=>whnf)
    refine ⟨k+1,rfl,rfl,⟨by omega,fun i hi=>?_⟩,by omega⟩
    by_cases e:i=k
    ·subst e;rw [hx',hy',he]
    ·exact hno i (by omega)
   ·have hne:a≠b:=fun h=>he (by rw [h,hy'] at hx';cases hx';rfl)
    repeat' first|refine sk2 ?_|(intro b;conv=>whnf)
    refine Rt.pure (congrArg bD ?_)
    exact (decide_eq_false hne).symm
  ·have hab:a=b:=List.ext_getElem? fun i=>by
    by_cases hi:i<k
    ·exact hno i hi
    ·rw [List.getElem?_eq_none_iff.2 (by omega),List.getElem?_eq_none_iff.2 (by omega)]
   repeat' first|refine sk2 ?_|(intro b;conv=>whnf)
   refine Rt.pure (congrArg bD ?_)
   exact (decide_eq_true hab).symm
 ·have hne:a≠b:=fun h=>hl (by rw [h])
  repeat' first|refine sk2 ?_|(intro b;conv=>whnf)
  refine Rt.pure (congrArg bD ?_)
  exact (decide_eq_false hne).symm
theorem bM5 (a b:List Int) (ha:a.length≤1000000) (hb:b.length≤1000000):APure Tryz.prog 47 [slI a,slI b] (bD (decide (a=b))):=by
 refine eP7 Tryz.func47 Tryz.ntmps47 fun BB=>?_
 by_cases hl:a.length=b.length
 ·repeat' first|refine sk2 ?_|(intro b;conv=>whnf)
  refine ad5 mixed aa0 (γ:=Nat) (fun k=>[(13,iD k)]) (fun _=>[]) (fun k=>k≤a.length∧∀ i,i<k→a[i]?=b[i]?) (fun k=>a.length - k) 0 rfl rfl ⟨Nat.zero_le _,fun i h=>by omega⟩ ?_
  rintro k ⟨hk,hno⟩
  by_cases hlt:k<a.length
  ·obtain ⟨x,hx⟩:∃ x,a[((k:Nat):Int).toNat]?=some x:=⟨_,List.getElem?_eq_getElem hlt⟩
   obtain ⟨y,hy⟩:∃ y,b[((k:Nat):Int).toNat]?=some y:=⟨_,List.getElem?_eq_getElem (by show k<_;omega)⟩
   have hx':a[k]?=some x:=hx
   have hy':b[k]?=some y:=hy
   by_cases he:x=y
   ·repeat' first|refine sk2 ?_|(intro b;conv=>whnf)
    refine ⟨k+1,rfl,rfl,⟨by omega,fun i hi=>?_⟩,by omega⟩
    by_cases e:i=k
    ·subst e;rw [hx',hy',he]
    ·exact hno i (by omega)
   ·have hne:a≠b:=fun h=>he (by rw [h,hy'] at hx';cases hx';rfl)
    repeat' first|refine sk2 ?_|(intro b;conv=>whnf)
    refine Rt.pure (congrArg bD ?_)
    exact (decide_eq_false hne).symm
  ·have hab:a=b:=List.ext_getElem? fun i=>by
    by_cases hi:i<k
    ·exact hno i hi
    ·rw [List.getElem?_eq_none_iff.2 (by omega),List.getElem?_eq_none_iff.2 (by omega)]
   repeat' first|refine sk2 ?_|(intro b;conv=>whnf)
   refine Rt.pure (congrArg bD ?_)
   exact (decide_eq_true hab).symm
 ·have hne:a≠b:=fun h=>hl (by rw [h])
  repeat' first|refine sk2 ?_|(intro b;conv=>whnf)
  refine Rt.pure (congrArg bD ?_)
  exact (decide_eq_false hne).symm
theorem sk18 {A B:Prop} (k:B) (h:Hd7 B→A:=by intro hk7q;(first|refine sb0 ?_|refine sb1 ?_|((with_reducible refine' Cp.by ?hc ?_);(case hc=>exact bM5 _ _ (by assumption) (by assumption)))|((with_reducible refine' CE.pure ?hc ?_);(case hc=>exact bM5 _ _ (by assumption) (by assumption))));exact hk7q.run):A:=h ⟨k⟩
theorem bq1 (a b:List Int) (ha:a.length≤1000000) (hb:b.length≤1000000):APure Tryz.prog 46 [slI a,slI b] (bD (decide (a=b))):=by
 refine eP7 Tryz.func46 Tryz.ntmps46 fun BB=>?_
 repeat' first|refine sk18 ?_|(intro b;conv=>whnf)
 exact Rt.pure rfl
theorem cp0 (a b:List (List Int)) (ha:a.length≤1000000) (hb:b.length≤1000000) (hfa:∀ r∈a,r.length≤1000000) (hfb:∀ r∈b,r.length≤1000000):APure Tryz.prog 45 [slW1 a,slW1 b,.v (.func (.func 46) #[] #[])] (bD (decide (a=b))):=by
 refine eP7 Tryz.func45 Tryz.ntmps45 fun BB=>?_
 by_cases hl:a.length=b.length
 ·repeat' first|refine sk13 ?_|(intro b;conv=>whnf)
  refine ad5 mixed aa0 (γ:=Nat) (fun k=>[(17,iD k)]) (fun _=>[]) (fun k=>k≤a.length∧∀ i,i<k→a[i]?=b[i]?) (fun k=>a.length - k) 0 rfl rfl ⟨Nat.zero_le _,fun i h=>by omega⟩ ?_
  rintro k ⟨hk,hno⟩
  by_cases hlt:k<a.length
  ·obtain ⟨x,hx⟩:∃ x,a[((k:Nat):Int).toNat]?=some x:=⟨_,List.getElem?_eq_getElem hlt⟩
   obtain ⟨y,hy⟩:∃ y,b[((k:Nat):Int).toNat]?=some y:=⟨_,List.getElem?_eq_getElem (by show k<_;omega)⟩
   have hx':a[k]?=some x:=hx
   have hy':b[k]?=some y:=hy
   have hxm:=List.mem_of_getElem? hx'
   have hym:=List.mem_of_getElem? hy'
   have HC:=bq1 x y (hfa x hxm) (hfb y hym)
   by_cases he:x=y
   ·rw [decide_eq_true he] at HC
    repeat' first|refine sk13 ?_|(intro b;conv=>whnf)
    refine ⟨k+1,rfl,rfl,⟨by omega,fun i hi=>?_⟩,by omega⟩
    by_cases e:i=k
    ·subst e;rw [hx',hy',he]
    ·exact hno i (by omega)
   ·have hne:a≠b:=fun h=>he (by rw [h,hy'] at hx';cases hx';rfl)
    rw [decide_eq_false he] at HC
    repeat' first|refine sk13 ?_|(intro b;conv=>whnf)
    refine Rt.pure (congrArg bD ?_)
    exact (decide_eq_false hne).symm
  ·have hab:a=b:=List.ext_getElem? fun i=>by
    by_cases hi:i<k
    ·exact hno i hi
    ·rw [List.getElem?_eq_none_iff.2 (by omega),List.getElem?_eq_none_iff.2 (by omega)]
   repeat' first|refine sk13 ?_|(intro b;conv=>whnf)
   refine Rt.pure (congrArg bD ?_)
   exact (decide_eq_true hab).symm
 ·have hne:a≠b:=fun h=>hl (by rw [h])
  repeat' first|refine sk13 ?_|(intro b;conv=>whnf)
  refine Rt.pure (congrArg bD ?_)
  exact (decide_eq_false hne).symm
theorem bD2 (a b:List (List Int)) (ha:a.length≤1000000) (hb:b.length≤1000000) (hfa:∀ r∈a,r.length≤1000000) (hfb:∀ r∈b,r.length≤1000000):APure Tryz.prog 44 [slW1 a,slW1 b] (bD (decide (a=b))):=by
 have HC:=cp0 a b ha hb hfa hfb
 refine eP7 Tryz.func44 Tryz.ntmps44 fun BB=>?_
 repeat' first|refine sk13 ?_|(intro b;conv=>whnf)
 exact Rt.pure rfl
theorem co9 (a b:Wd) (hwa:WCt a) (hwb:WCt b):APure Tryz.prog 43 [slW a,slW b,.v (.func (.func 44) #[] #[])] (bD (decide (a=b))):=by
 have ha:=hwa.k
 have hb:=hwb.k
 refine eP7 Tryz.func43 Tryz.ntmps43 fun BB=>?_
 by_cases hl:a.length=b.length
 ·repeat' first|refine sk13 ?_|(intro b;conv=>whnf)
  refine ad5 mixed aa0 (γ:=Nat) (fun k=>[(17,iD k)]) (fun _=>[]) (fun k=>k≤a.length∧∀ i,i<k→a[i]?=b[i]?) (fun k=>a.length - k) 0 rfl rfl ⟨Nat.zero_le _,fun i h=>by omega⟩ ?_
  rintro k ⟨hk,hno⟩
  by_cases hlt:k<a.length
  ·obtain ⟨x,hx⟩:∃ x,a[((k:Nat):Int).toNat]?=some x:=⟨_,List.getElem?_eq_getElem hlt⟩
   obtain ⟨y,hy⟩:∃ y,b[((k:Nat):Int).toNat]?=some y:=⟨_,List.getElem?_eq_getElem (by show k<_;omega)⟩
   have hx':a[k]?=some x:=hx
   have hy':b[k]?=some y:=hy
   have hxm:=List.mem_of_getElem? hx'
   have hym:=List.mem_of_getElem? hy'
   have HC:=bD2 x y (hwa.n x hxm) (hwb.n y hym) (hwa.f x hxm) (hwb.f y hym)
   by_cases he:x=y
   ·rw [decide_eq_true he] at HC
    repeat' first|refine sk13 ?_|(intro b;conv=>whnf)
    refine ⟨k+1,rfl,rfl,⟨by omega,fun i hi=>?_⟩,by omega⟩
    by_cases e:i=k
    ·subst e;rw [hx',hy',he]
    ·exact hno i (by omega)
   ·have hne:a≠b:=fun h=>he (by rw [h,hy'] at hx';cases hx';rfl)
    rw [decide_eq_false he] at HC
    repeat' first|refine sk13 ?_|(intro b;conv=>whnf)
    refine Rt.pure (congrArg bD ?_)
    exact (decide_eq_false hne).symm
  ·have hab:a=b:=List.ext_getElem? fun i=>by
    by_cases hi:i<k
    ·exact hno i hi
    ·rw [List.getElem?_eq_none_iff.2 (by omega),List.getElem?_eq_none_iff.2 (by omega)]
   repeat' first|refine sk13 ?_|(intro b;conv=>whnf)
   refine Rt.pure (congrArg bD ?_)
   exact (decide_eq_true hab).symm
 ·have hne:a≠b:=fun h=>hl (by rw [h])
  repeat' first|refine sk13 ?_|(intro b;conv=>whnf)
  refine Rt.pure (congrArg bD ?_)
  exact (decide_eq_false hne).symm
theorem bc3 (a b:Wd) (hwa:WCt a) (hwb:WCt b):APure Tryz.prog 15 [slW a,slW b] (bD (decide (a=b))):=by
 have HC:=co9 a b hwa hwb
 refine eP7 Tryz.func15 Tryz.ntmps15 fun BB=>?_
 repeat' first|refine sk13 ?_|(intro b;conv=>whnf)
 exact Rt.pure rfl
end
section
open Go
theorem ce9 (b:List Nat) (hl:b.length≤140737488355328):APure Tryz.prog 10 [slY b,iD 30] (slY (b.take 30)):=by
 refine eP7 Tryz.func10 Tryz.ntmps10 fun BB=>?_
 repeat' first|refine sk2 ?_|(intro b;conv=>whnf)
 have htk:b.take (if (30:Int)<((b.map yC).length:Int) then (30:Int) else ((b.map yC).length:Int)).toNat=b.take 30:=by
  rw [List.length_map]
  split
  ·rfl
  ·rw [List.take_of_length_le (by omega),List.take_of_length_le (by omega)]
 rw [← List.map_take,htk]
 refine Ap.go rfl rfl rfl rfl (RowIs.nil 5 1) (τ:=[]) (List.Perm.refl []) (aD6 _) (zs:=(b.take 30).map yC) rfl (sz_y (c:=30) (by rw [List.length_take];omega) (by decide)) (by rw [List.length_map,List.length_take];omega) (fun s'=>s' ++ []) (fun s'=>List.Perm.refl _) (fun a' c' s' hr=>?_)
 repeat' first|refine sk2 ?_|(intro b;conv=>whnf)
 exact Rt.vs (Vs.row hr (List.Perm.refl _))
theorem ACall.vs3 {P:Program} {f:FuncId} {args:List D} {σ:aa1} {R R':D→aa1→Prop} (h:ACall P f args σ R) (k:∀ d s,R d s→∃ d' s',Vs s d s' d'∧R' d' s'):ACall P f args σ R':=
 ⟨h.ent,fun w X vs hv hs=>(h.run w X vs hv hs).mono fun e w' ⟨u,d,s,g1,g2,g3,g4,g5⟩=>by
  obtain ⟨d',s',q1,q2⟩:=k d s g2
  obtain ⟨q3,q4⟩:=q1.run w' X u g4 g3
  exact ⟨u,d',s',g1,q2,q4,q3,g5.fewer q1.sub⟩⟩
theorem aW4 {cs:List Int} {v:Value} {s:aa1} (h:RI cs v s) (hne:cs≠[]):∃ b cap cells,v = .slice (some ⟨b,0,none⟩) cs.length cap∧s=[(b,.cells 3 cells)]∧(∀ (i:Nat) c,cs[i]?=some c→cells[i]?=some (iD c))∧∀ (i:Nat) c',i<cs.length→RI (cs.set i c') v [(b,.cells 3 (cells.set i (iD c')))]:=by
 have h0:RowIs 3 1 (cs.map fun n=>[iD n]) v s:=h
 obtain ⟨b,cap,junk,rfl,rfl,h1,h2,h3,h4⟩:=h0.block (by intro e;exact hne (List.map_eq_nil_iff.1 e))
 have hf:(cs.map fun n=>[iD n]).flatten=cs.map fun n=>iD n:=by
  clear h0 h h1 h3 hne
  induction cs with
  | nil=>rfl
  | cons c cs ih=>rw [List.map_cons,List.flatten_cons,ih];rfl
 refine ⟨b,cap,_,by rw [List.length_map],rfl,fun i c hc=>?_,fun i c' hi=>?_⟩
 ·have:=(List.getElem?_eq_some_iff.1 hc).1
  rw [hf,List.getElem?_append_left (by simpa using this),List.getElem?_map,hc];rfl
 ·have:=h0.put (i:=i) (x':=[iD c']) (by simpa using hi) rfl
  have e:spl ((cs.map fun n=>[iD n]).flatten ++ junk) (i*1) [iD c']=((cs.map fun n=>[iD n]).flatten ++ junk).set i (iD c'):=by
   unfold spl
   rw [Nat.mul_one,List.set_eq_take_append_cons_drop,if_pos (by rw [hf];simp;omega)]
   simp
  rw [e] at this
  show RowIs _ 1 ((cs.set i c').map _) _ _
  rw [List.map_set]
  exact this
theorem az9 {cs:List Int} {v:Value} {s:aa1} (h:RI cs v s):∃ a c,v = .slice a cs.length c:=by
 obtain ⟨a,c,e⟩:=RowIs.slice h
 rw [List.length_map] at e
 exact ⟨a,c,e⟩
structure Tn (z:Int):Prop where
 lo:-1000≤z
 hi:z≤1000
structure WTiny (w:Wd):Prop where
 k:w.length≤10
 n:∀ l∈w,l.length≤10
 f:∀ l∈w,∀ r∈l,r.length≤50
 v:∀ l∈w,∀ r∈l,∀ v∈r,Tn v
theorem WTiny.sm {w:Wd} (h:WTiny w):WSm w:=
 ⟨by have:=h.k;omega,fun l hl=>by have:=h.n l hl;omega,fun l hl r hr=>by have:=h.f l hl r hr;omega,fun l hl r hr v hv=>⟨by have:=(h.v l hl r hr v hv).lo;omega,by have:=(h.v l hl r hr v hv).hi;omega⟩⟩
def Cnt (cs:List Int):Prop:=∀ c∈cs,0≤c∧c≤4
theorem sk19 {A B:Prop} (k:B) (h:Hd7 B→A:=by intro hk7q;(first|refine sb0 ?_|refine sb1 ?_|((with_reducible refine' Cp.by ?hc ?_);(case hc=>first|exact HAt|exact HUp|exact HA _ _|exact HU _ _))|((with_reducible refine' CE.pure ?hc ?_);(case hc=>first|exact HAt|exact HUp|exact HA _ _|exact HU _ _)));exact hk7q.run):A:=h ⟨k⟩
theorem bu4 (x:Sch) (hK:x.kinds.length≤10) (hF:∀ k∈x.kinds,k.fields.length≤50) (p:List Int) (hp:I64s p):ASome Tryz.prog 7 [schD x,slI p,bD false] (fun d=>∃ w,d=slW w∧WTiny w):=by
 have HA:=fun i n=>bN0 p hp i n
 have HU:=fun i j=>aJ5 x i j (by omega) (fun k hk=>by have:=hF k hk;omega)
 refine ASome.of_call (ACall.vs3 (R:=fun d s=>∃ v w,d = .v v∧RW w v s∧WTiny w) ?_ fun d σ ⟨v,w,e,hr,hw⟩=>by subst e;exact ⟨_,[],Vs.frz az1 hr (by simp),w,rfl,hw⟩)
 refine eC7 Tryz.func7 Tryz.ntmps7 fun BB=>?_
 repeat' first|refine sk19 ?_|(intro b;conv=>whnf)
 refine aa5 mixed aa0 (γ:=Nat × List Int × Value × aa1) (fun g=>[(8,iD g.1),(7,.v g.2.2.1)]) (fun g=>g.2.2.2) (fun g=>g.1≤x.kinds.length∧g.2.1.length=g.1∧Cnt g.2.1∧RI g.2.1 g.2.2.1 g.2.2.2) (fun g=>x.kinds.length - g.1) (0,[],.slice none 0 0,[]) (aa2 cl2) (Sc.refl _) ⟨Nat.zero_le _,rfl,fun c hc=>by (cases hc),RowIs.nil _ _⟩ ?_
 rintro ⟨k,cs,v,s⟩ ⟨hk,hcl,hcs,hrow⟩
 simp only at hk hcl hcs hrow ⊢
 by_cases hkl:k<x.kinds.length
 ·have hc:=ae2 p k 5
  have hc2:=hc.2 (by decide)
  have hcs2:Cnt (cs ++ [atE p k 5]):=fun c h=>by
   rcases List.mem_append.1 h with h|h
   ·exact hcs c h
   ·rw [List.mem_singleton] at h;subst h;omega
  have HAt:=HA k 5
  generalize atE p k 5=c0 at *
  repeat' first|refine sk19 ?_|(intro b;conv=>whnf)
  refine Ap.go rfl rfl rfl rfl hrow (by simp:s.Perm (s ++ [])) rfl (zs:=(cs ++ [c0]).map fun n=>[iD n]) (by rw [List.map_append];rfl) (sz_i (c:=1000) (by simp;omega) (by decide)) (by simp;omega) (fun s'=>s') (fun s'=>by simp) (fun a1 c1 s1 hr1=>?_)
  have hr2:RI (cs ++ [c0]) (.slice a1 ((cs ++ [c0]).map fun n=>[iD n]).length c1) s1:=hr1
  obtain ⟨b1,cap1,cells,e1,rfl,hck,hset⟩:=aW4 hr2 (by simp)
  by_cases hk0:k=0
  ·subst hk0
   repeat' first|refine sk19 ?_|(intro b;conv=>whnf)
   exact ⟨(1,cs ++ [c0],_,_),(aa2 cl2),Sc.refl _,⟨by simp only;omega,by simp only [List.length_append,List.length_singleton];omega,hcs2,hr2⟩,by simp only;omega⟩
  ·obtain ⟨c2,hc2⟩:∃ c,(cs ++ [c0])[k - 1]?=some c:=⟨_,List.getElem?_eq_getElem (by simp;omega)⟩
   rw [e1] at hr2 hset ⊢
   have hkc:=(List.getElem?_eq_some_iff.1 (hck k c0 (by rw [List.getElem?_append_right (by omega),hcl,Nat.sub_self];rfl))).1
   have hlen:(cs ++ [c0]).length=k+1:=by rw [List.length_append,hcl];rfl
   repeat' first|refine sk19 ?_|(intro b;conv=>whnf)
   refine Ld.cellm (List.Mem.head _) (by rw [show 0+((k:Int) - 1).toNat*1=k - 1 by omega];exact hck _ _ hc2) ?_
   by_cases h20:c2=0
   ·repeat' first|refine sk19 ?_|(intro b;conv=>whnf)
    refine Sv.cellm (cs':=cells.set k (iD 0)) (List.Perm.refl _) (by rw [show 0+((k:Nat):Int).toNat*1=k by simp];exact hkc) rfl (by rw [show 0+((k:Nat):Int).toNat*1=k by simp]) ?_
    repeat' first|refine sk19 ?_|(intro b;conv=>whnf)
    exact ⟨(k+1,(cs ++ [c0]).set k 0,_,_),(aa2 cl2),Sc.refl _,⟨by simp only;omega,by simp only [List.length_set];exact hlen,fun c h=>by
     rcases List.mem_or_eq_of_mem_set h with h|h
     ·exact hcs2 c h
     ·omega,by simp only [List.length_set];exact hset k 0 (by omega)⟩,by simp only;omega⟩
   ·repeat' first|refine sk19 ?_|(intro b;conv=>whnf)
    exact ⟨(k+1,cs ++ [c0],_,_),(aa2 cl2),Sc.refl _,⟨by simp only;omega,hlen,hcs2,hr2⟩,by simp only;omega⟩
 ·obtain rfl:k=x.kinds.length:=by omega
  clear hkl hk
  repeat' first|refine sk19 ?_|(intro b;conv=>whnf)
  refine aB6 (i:=7) (d':=slI cs) (τ:=[]) rfl (fun h=>by cases h) (Vs.row hrow (by simp)) ?_
  refine aa5 mixed aa0 (γ:=Nat × Nat × Wd × Value × aa1) (fun g=>[(11,iD g.1),(10,iD g.2.1),(9,.v g.2.2.2.1)]) (fun g=>g.2.2.2.2) (fun g=>g.1≤x.kinds.length∧g.2.1≤6+g.1*2000∧g.2.2.1.length=g.1∧WTiny g.2.2.1∧RW g.2.2.1 g.2.2.2.1 g.2.2.2.2) (fun g=>x.kinds.length - g.1) (0,6,[],.slice none 0 0,[]) (aa2 cl2) (Sc.refl _) ⟨Nat.zero_le _,by decide,rfl,⟨by decide,by simp,by simp,by simp⟩,RowsOf.nil _ _⟩ ?_
  clear hrow
  rintro ⟨k,a0,w,v,s⟩ ⟨hk,ha0,hwl,hw,hrow⟩
  simp only at hk ha0 hwl hw hrow ⊢
  by_cases hkl:k<x.kinds.length
  ·obtain ⟨kd,hkd⟩:∃ y,x.kinds[k]?=some y:=⟨_,List.getElem?_eq_getElem hkl⟩
   have hkd':x.kinds[((k:Nat):Int).toNat]?=some kd:=hkd
   have hfl:=hF kd (List.mem_of_getElem? hkd)
   obtain ⟨ck,hck⟩:∃ y,cs[k]?=some y:=⟨_,List.getElem?_eq_getElem (by omega)⟩
   have hck':cs[((k:Nat):Int).toNat]?=some ck:=hck
   have hc4:=hcs ck (List.mem_of_getElem? hck)
   obtain ⟨n,rfl⟩:∃ n:Nat,ck=n:=⟨ck.toNat,by omega⟩
   repeat' first|refine sk19 ?_|(intro b;conv=>whnf)
   refine aa5 mixed aa0 (γ:=Nat × Nat × List (List Int) × Value × aa1) (fun g=>[(13,iD g.1),(10,iD g.2.1),(12,.v g.2.2.2.1)]) (fun g=>g.2.2.2.2 ++ s) (fun g=>g.1≤n∧g.2.1≤a0+g.1*400∧g.2.2.1.length=g.1∧(∀ r∈g.2.2.1,r.length≤50∧∀ v∈r,Tn v)∧RW1 g.2.2.1 g.2.2.2.1 g.2.2.2.2) (fun g=>n - g.1) (0,a0,[],.slice none 0 0,[]) (aa2 cl2) (Sc.refl _) ⟨Nat.zero_le _,by simp only;omega,rfl,by simp,RowsOf.nil _ _⟩ ?_
   rintro ⟨i,a1,l,v1,s1⟩ ⟨hi,ha1,hll,hlr,hrow1⟩
   simp only at hi ha1 hll hlr hrow1 ⊢
   by_cases hin:i<n
   ·repeat' first|refine sk19 ?_|(intro b;conv=>whnf)
    refine aa5 mixed aa0 (γ:=Nat × Nat × List Int × Value × aa1) (fun g=>[(15,iD g.1),(10,iD g.2.1),(14,.v g.2.2.2.1)]) (fun g=>g.2.2.2.2 ++ (s1 ++ s)) (fun g=>g.1≤kd.fields.length∧g.2.1≤a1+g.1∧g.2.2.1.length=g.1∧(∀ v∈g.2.2.1,Tn v)∧RI g.2.2.1 g.2.2.2.1 g.2.2.2.2) (fun g=>kd.fields.length - g.1) (0,a1,[],.slice none 0 0,[]) (aa2 cl2) (Sc.refl _) ⟨Nat.zero_le _,by simp only;omega,rfl,by simp,RowIs.nil _ _⟩ ?_
    rintro ⟨j,a2,r,v2,s2⟩ ⟨hj,ha2,hrl,hrv,hrow2⟩
    simp only at hj ha2 hrl hrv hrow2 ⊢
    by_cases hjl:j<kd.fields.length
    ·obtain ⟨f,hf⟩:∃ y,kd.fields[j]?=some y:=⟨_,List.getElem?_eq_getElem hjl⟩
     have hf':kd.fields[((j:Nat):Int).toNat]?=some f:=hf
     have hq12:=ae2 p ((a2:Int).tmod (if ((p.map fun n=>[iD n]).length:Int)<1 then (1:Int) else ((p.map fun n=>[iD n]).length:Int))) 12
     have hv12:Tn (atE p ((a2:Int).tmod (if ((p.map fun n=>[iD n]).length:Int)<1 then (1:Int) else ((p.map fun n=>[iD n]).length:Int))) 12 - 2):=⟨by omega,by omega⟩
     have hul:=bh6 x k j
     have HUp:=HU k j
     by_cases hk1:f.kind=1
     ·generalize upIx x k j=u at *
      by_cases hu:0≤u
      ·have hu2:=hul hu
       obtain ⟨o,rfl⟩:∃ o:Nat,u=o:=⟨u.toNat,by omega⟩
       obtain ⟨co,hco⟩:∃ y,cs[((o:Nat):Int).toNat]?=some y:=⟨_,List.getElem?_eq_getElem (by simp;omega)⟩
       have hco4:=hcs co (List.mem_of_getElem? hco)
       have hq:=ae2 p ((a2:Int).tmod (if ((p.map fun n=>[iD n]).length:Int)<1 then (1:Int) else ((p.map fun n=>[iD n]).length:Int))) (if co<1 then 1 else co)
       have hq2:Tn (atE p ((a2:Int).tmod (if ((p.map fun n=>[iD n]).length:Int)<1 then (1:Int) else ((p.map fun n=>[iD n]).length:Int))) (if co<1 then 1 else co)):=⟨by omega,by have:=hq.2 (by split <;> omega);split at this <;> omega⟩
       repeat' first|refine sk19 ?_|(intro b;conv=>whnf)
       generalize atE p ((a2:Int).tmod (if ((p.map fun n=>[iD n]).length:Int)<1 then (1:Int) else ((p.map fun n=>[iD n]).length:Int))) (if co<1 then 1 else co)=z at *
       have hz:=hq2
       refine Ap.go rfl rfl rfl rfl hrow2 (List.Perm.refl _) rfl (zs:=(r ++ [z]).map fun n=>[iD n]) (by rw [List.map_append];rfl) (sz_i (c:=1000) (by simp;omega) (by decide)) (by simp;omega) (fun s'=>s' ++ (s1 ++ s)) (fun s'=>List.Perm.refl _) (fun a3 c3 s3 hr3=>?_)
       repeat' first|refine sk19 ?_|(intro b;conv=>whnf)
       exact ⟨(j+1,a2+1,r ++ [z],_,s3),(aa2 cl2),Sc.refl _,⟨by simp only;omega,by simp only;omega,by simp only [List.length_append,List.length_singleton];omega,fun v h=>(List.mem_append.1 h).elim (hrv v) (fun h=>by rw [List.mem_singleton] at h;rw [h];exact hz),hr3⟩,by simp only;omega⟩
      ·repeat' first|refine sk19 ?_|(intro b;conv=>whnf)
       generalize atE p ((a2:Int).tmod (if ((p.map fun n=>[iD n]).length:Int)<1 then (1:Int) else ((p.map fun n=>[iD n]).length:Int))) 12 - 2=z at *
       have hz:=hv12
       refine Ap.go rfl rfl rfl rfl hrow2 (List.Perm.refl _) rfl (zs:=(r ++ [z]).map fun n=>[iD n]) (by rw [List.map_append];rfl) (sz_i (c:=1000) (by simp;omega) (by decide)) (by simp;omega) (fun s'=>s' ++ (s1 ++ s)) (fun s'=>List.Perm.refl _) (fun a3 c3 s3 hr3=>?_)
       repeat' first|refine sk19 ?_|(intro b;conv=>whnf)
       exact ⟨(j+1,a2+1,r ++ [z],_,s3),(aa2 cl2),Sc.refl _,⟨by simp only;omega,by simp only;omega,by simp only [List.length_append,List.length_singleton];omega,fun v h=>(List.mem_append.1 h).elim (hrv v) (fun h=>by rw [List.mem_singleton] at h;rw [h];exact hz),hr3⟩,by simp only;omega⟩
     ·repeat' first|refine sk19 ?_|(intro b;conv=>whnf)
      generalize atE p ((a2:Int).tmod (if ((p.map fun n=>[iD n]).length:Int)<1 then (1:Int) else ((p.map fun n=>[iD n]).length:Int))) 12 - 2=z at *
      have hz:=hv12
      refine Ap.go rfl rfl rfl rfl hrow2 (List.Perm.refl _) rfl (zs:=(r ++ [z]).map fun n=>[iD n]) (by rw [List.map_append];rfl) (sz_i (c:=1000) (by simp;omega) (by decide)) (by simp;omega) (fun s'=>s' ++ (s1 ++ s)) (fun s'=>List.Perm.refl _) (fun a3 c3 s3 hr3=>?_)
      repeat' first|refine sk19 ?_|(intro b;conv=>whnf)
      exact ⟨(j+1,a2+1,r ++ [z],_,s3),(aa2 cl2),Sc.refl _,⟨by simp only;omega,by simp only;omega,by simp only [List.length_append,List.length_singleton];omega,fun v h=>(List.mem_append.1 h).elim (hrv v) (fun h=>by rw [List.mem_singleton] at h;rw [h];exact hz),hr3⟩,by simp only;omega⟩
    ·obtain rfl:j=kd.fields.length:=by omega
     obtain ⟨vs,s0,ts,g1,g2,g3⟩:=hrow1.ex
     have hvl:=g2.len.1
     obtain ⟨a4,c4,rfl⟩:=az9 hrow2
     have hfew:i<4:=by omega
     repeat' first|refine sk19 ?_|(intro b;conv=>whnf)
     refine Ap.go rfl rfl rfl rfl g1 (show (s2 ++ (s1 ++ s)).Perm (s0 ++ (ts.flatten ++ (s2 ++ s))) by (refine ac9 fun a=>?_;have e1:=ai0 g3 a;simp only [List.append_eq,List.nil_append,ad1,af7,af6,rfC,atC,iD,bD] at e1 ⊢;omega)) rfl (zs:=vs.map (fun u=>[D.v u]) ++ [[D.v (.slice a4 r.length c4)]]) rfl (sz_2 (c:=1000) (by omega) (by decide)) (by simp;omega) (fun s3=>s3 ++ (ts.flatten ++ s2) ++ s) (fun s3=>cl13) (fun a3 c3 s3 hr3=>?_)
     repeat' first|refine sk19 ?_|(intro b;conv=>whnf)
     exact ⟨(i+1,a2,l ++ [r],_,s3 ++ (ts.flatten ++ s2)),(aa2 cl2),Sc.refl _,⟨by simp only;omega,by simp only;omega,by simp only [List.length_append,List.length_singleton];omega,fun y h=>(List.mem_append.1 h).elim (hlr y) (fun h=>by rw [List.mem_singleton] at h;rw [h];exact ⟨by omega,hrv⟩),an9 g2 hr3 hrow2 (List.Perm.refl _)⟩,by simp only;omega⟩
   ·obtain rfl:i=n:=by omega
    obtain ⟨vs,s0,ts,g1,g2,g3⟩:=hrow.ex
    have hvl:=g2.len.1
    obtain ⟨a4,c4,rfl⟩:=RowsOf.slice hrow1
    repeat' first|refine sk19 ?_|(intro b;conv=>whnf)
    refine Ap.go rfl rfl rfl rfl g1 (show (s1 ++ s).Perm (s0 ++ (ts.flatten ++ s1)) by (refine ac9 fun a=>?_;have e1:=ai0 g3 a;simp only [List.append_eq,List.nil_append,ad1,af7,af6,rfC,atC,iD,bD] at e1 ⊢;omega)) rfl (zs:=vs.map (fun u=>[D.v u]) ++ [[D.v (.slice a4 l.length c4)]]) rfl (sz_2 (c:=1000) (by omega) (by decide)) (by simp;omega) (fun s3=>s3 ++ (ts.flatten ++ s1)) (fun s3=>List.Perm.refl _) (fun a3 c3 s3 hr3=>?_)
    repeat' first|refine sk19 ?_|(intro b;conv=>whnf)
    exact ⟨(k+1,a1,w ++ [l],_,s3 ++ (ts.flatten ++ s1)),(aa2 cl2),Sc.refl _,⟨by simp only;omega,by simp only;omega,by simp only [List.length_append,List.length_singleton];omega,⟨by simp only [List.length_append,List.length_singleton];omega,fun y h=>(List.mem_append.1 h).elim (hw.n y) (fun h=>by rw [List.mem_singleton] at h;rw [h];omega),fun y h=>(List.mem_append.1 h).elim (hw.f y) (fun h=>by rw [List.mem_singleton] at h;rw [h];exact fun z hz=>(hlr z hz).1),fun y h=>(List.mem_append.1 h).elim (hw.v y) (fun h=>by rw [List.mem_singleton] at h;rw [h];exact fun z hz=>(hlr z hz).2)⟩,an9 g2 hr3 hrow1 (List.Perm.refl _)⟩,by simp only;omega⟩
  ·obtain rfl:k=x.kinds.length:=by omega
   repeat' first|refine sk19 ?_|(intro b;conv=>whnf)
   exact Rt.same ⟨_,_,rfl,hrow,hw⟩
end
section
open Go
def rotR (x:W32) (n:Nat):W32:=(x >>> n) ||| (x <<< (32 - n))
def mixW (x:W32) (i j k:Nat):W32:=rotR x i ^^^ rotR x j ^^^ rotR x k
def accW (x:W32) (d:Nat):W32:=(x <<< 8) ||| BitVec.ofNat 32 d
def bq0 (a b c d:Nat):W32:=accW (accW (accW (accW 0 a) b) c) d
theorem bD1 (a b c d:Nat):((BitVec.ofNat 32 a <<< 24 ||| BitVec.ofNat 32 b <<< 16) ||| BitVec.ofNat 32 c <<< 8) ||| BitVec.ofNat 32 d=bq0 a b c d:=by
 unfold bq0 accW
 simp only [BitVec.shiftLeft_or_distrib,← BitVec.shiftLeft_add,Nat.reduceAdd]
 simp
def sml0 (p:W32):W32:=rotR p 7 ^^^ rotR p 18 ^^^ (p >>> 3)
def sml1 (q:W32):W32:=rotR q 17 ^^^ rotR q 19 ^^^ (q >>> 10)
def schN (b:List Nat):Nat→List W32
 | 0=>[]
 | t+1=>schN b t ++ [if t<16 then bq0 (b.getD (4*t) 0) (b.getD (4*t+1) 0) (b.getD (4*t+2) 0) (b.getD (4*t+3) 0)
   else (schN b t).getD (t - 16) 0+sml0 ((schN b t).getD (t - 15) 0)+(schN b t).getD (t - 7) 0+sml1 ((schN b t).getD (t - 2) 0)]
theorem ax3 (b:List Nat):∀ t,(schN b t).length=t
 | 0=>rfl
 | t+1=>by rw [schN,List.length_append,ax3 b t];rfl
structure S8 where
 a:W32
 b:W32
 c:W32
 d:W32
 e:W32
 f:W32
 g:W32
 h:W32
def S8.list (s:S8):List W32:=[s.a,s.b,s.c,s.d,s.e,s.f,s.g,s.h]
def chW (e f g:W32):W32:=(e &&& f) ^^^ (~~~e &&& g)
def majW (a b c:W32):W32:=(a &&& b) ^^^ (a &&& c) ^^^ (b &&& c)
def rnd (s:S8) (k w:W32):S8:=
 ⟨s.h+mixW s.e 6 11 25+chW s.e s.f s.g+k+w+(mixW s.a 2 13 22+majW s.a s.b s.c),s.a,s.b,s.c,s.d+(s.h+mixW s.e 6 11 25+chW s.e s.f s.g+k+w),s.e,s.f,s.g⟩
def kAt (t:Nat):W32:=BitVec.ofNat 32 (kLit.getD t 0)
def rnds (s:S8) (b:List Nat):Nat→S8
 | 0=>s
 | t+1=>rnd (rnds s b t) (kAt t) ((schN b 64).getD t 0)
def S8.add (s t:S8):S8:=⟨s.a+t.a,s.b+t.b,s.c+t.c,s.d+t.d,s.e+t.e,s.f+t.f,s.g+t.g,s.h+t.h⟩
def aU5 (s:S8) (b:List Nat):S8:=s.add (rnds s b 64)
def bV6:S8:=⟨0x6a09e667,0xbb67ae85,0x3c6ef372,0xa54ff53a,0x510e527f,0x9b05688c,0x1f83d9ab,0x5be0cd19⟩
def shaN (m:List Nat):Nat→S8
 | 0=>bV6
 | n+1=>aU5 (shaN m n) ((m.drop (64*n)).take 64)
theorem aQ8 (m t:List Nat):∀ n,64*n≤m.length→shaN (m ++ t) n=shaN m n
 | 0,_=>rfl
 | n+1,h=>by
  rw [shaN,shaN,aQ8 m t n (by omega),List.drop_append_of_le_length (by omega),List.take_append_of_le_length (by rw [List.length_drop];omega)]
def len8 (n:Nat):List Nat:=dig 8 (8*n)
def padZ (n:Nat):Nat:=(119 - n % 64) % 64
def padT (n:Nat):List Nat:=128 :: (List.replicate (padZ n) 0 ++ len8 n)
theorem aT0 (n:Nat):(padT n).length=padZ n+9:=by simp [padT,len8,af2]
theorem bT3 (n:Nat):(n+(padT n).length) % 64=0:=by rw [aT0];unfold padZ;omega
def ax1 (s:S8) (i:Nat):Nat:=(s.list.getD (i / 4) 0).toNat / 2 ^ (24 - 8*(i % 4)) % 256
def sha (m:List Nat):List Nat:=(List.range 32).map (ax1 (shaN (m ++ padT m.length) ((m.length+(padT m.length).length) / 64)))
structure StrOK (m:List Nat) (s:S8) (b:List Nat):Prop where
 st:s=shaN m (m.length / 64)
 len:b.length=64
 bl:b.take (m.length % 64)=m.drop (64*(m.length / 64))
theorem StrOK.begin (b:List Nat) (hb:b.length=64):StrOK [] bV6 b:=⟨rfl,hb,by simp⟩
def putB (b:List Nat) (at_:Nat) (t:List Nat):List Nat:=b.take at_ ++ t ++ b.drop (at_+t.length)
theorem aS8 {b t:List Nat} {a:Nat} (h:a+t.length≤b.length):(putB b a t).length=b.length:=by
 unfold putB;simp only [List.length_append,List.length_take,List.length_drop];omega
theorem cl14 {p:Prop} (h:p:=by simp only [List.length_append,List.length_take];omega):p:=h
theorem StrOK.more {m b t:List Nat} {s:S8} (h:StrOK m s b) (ht:m.length % 64+t.length<64):StrOK (m ++ t) s (putB b (m.length % 64) t):=by
 have hd:(m ++ t).length / 64=m.length / 64:=by rw [List.length_append];omega
 have hm:(m ++ t).length % 64=m.length % 64+t.length:=by rw [List.length_append];omega
 have hl:=h.len
 refine ⟨?_,by rw [aS8 (by omega)];exact hl,?_⟩
 ·rw [hd,aQ8 m t _ (by omega)];exact h.st
 ·rw [hd,hm,List.drop_append_of_le_length (by omega),← h.bl]
  unfold putB
  rw [List.take_append_of_le_length cl14,List.take_of_length_le cl14]
theorem StrOK.full {m b t:List Nat} {s:S8} (h:StrOK m s b) (ht:m.length % 64+t.length=64):StrOK (m ++ t) (aU5 s (putB b (m.length % 64) t)) (putB b (m.length % 64) t):=by
 have hd:(m ++ t).length / 64=m.length / 64+1:=by rw [List.length_append];omega
 have hm:(m ++ t).length % 64=0:=by rw [List.length_append];omega
 have hl:=h.len
 have e:putB b (m.length % 64) t=((m ++ t).drop (64*(m.length / 64))).take 64:=by
  rw [List.drop_append_of_le_length (by omega),← h.bl]
  unfold putB
  rw [List.drop_of_length_le (l:=b) (by omega),List.append_nil,List.take_of_length_le (i:=64) (l:=b.take (m.length % 64) ++ t) cl14]
 refine ⟨?_,by rw [aS8 (by omega)];exact hl,?_⟩
 ·rw [hd,shaN,aQ8 m t _ (by omega),← h.st,e]
 ·rw [hd,hm,List.take_zero,List.drop_of_length_le (by rw [List.length_append];omega)]
end
section
open Go Go.RowKit Go.Shelf
section
variable {P:Program} {σ:aa1} {ρ:Operand→D} {T:TypeId→Option TI}
theorem bP4 (hT:∀ t i,T t=some i→tiOf P t=some i) {o:Oper} {t:TypeId} {x ix:Operand} {b off n k m:Nat} {kk:IntKind} {j:Int} {ag:Bool} {i:TI} (ho:o.op = .indexAddr t x ix) (hx:ρ x = .v (.pointer (some ⟨b,off,none⟩))) (hi:ρ ix = .v (.int kk j)) (ht:T t=some i) (ha:i.arr=some (n,ag,k)) (hj:j=(m:Int)) (hm:m<n):Yd P o ρ σ (.v (.pointer (some ⟨b,off+m*k,none⟩))):=by
 subst hj
 intro w X η hη hst
 obtain ⟨dst,op,ty,pos,aft,g⟩:=o
 simp only at ho
 subst ho
 have h1:=(hη x (by simp [Op.operands])).val hx
 have h2:=(hη ix (by simp [Op.operands])).val hi
 obtain ⟨e,hu,hsz⟩:=aA0 (hT t i ht) ha
 have hz:=(ai7 hsz w).2
 refine ac8 (s:=Instr.indexAt t (η x) (η ix)) (u:=.pointer (some ⟨b,off+m*k,none⟩)) ?_ (Ex.refl w) (.v _)
 rw [h1,h2]
 simp [Instr.indexAt,Instr.sureAddr,asIntOf,run_underlying hu,Result.andThen,hz,ah4,hm]
theorem bP3 (hT:∀ t i,T t=some i→tiOf P t=some i) {o:Oper} {t:TypeId} {x ix:Operand} {n m:Nat} {kk:IntKind} {j:Int} {cs:List D} {d:D} {i:TI} (ho:o.op = .index t x ix) (hx:ρ x = .agg cs) (hi:ρ ix = .v (.int kk j)) (ht:T t=some i) (ha:i.arr=some (n,false,1)) (hj:j=(m:Int)) (hm:m<n) (hd:cs[m]?=some d):Yd P o ρ σ d:=by
 subst hj
 intro w X η hη hst
 obtain ⟨dst,op,ty,pos,aft,g⟩:=o
 simp only at ho
 subst ho
 have h1:=hη x (by simp [Op.operands])
 rw [hx] at h1
 have h2:=(hη ix (by simp [Op.operands])).val hi
 obtain ⟨e,hu,hsz⟩:=aA0 (hT t i ht) ha
 have hz:=ai7 hsz w
 obtain ⟨vs,hv,hr⟩:=h1.agg_inv
 obtain ⟨u,hu2,hd2⟩:=hr.get hd
 refine ac8 (s:=Instr.index t (η x) (η ix)) (u:=u) ?_ (Ex.refl w) hd2
 rw [hv,h2]
 simp [Instr.index,Go.part,asIntOf,run_underlying hu,Result.andThen,hz.1,hz.2,hm,hu2]
theorem az8 (hT:∀ t i,T t=some i→tiOf P t=some i) {o:Oper} {t:TypeId} {x:Operand} {lo hi:Option Operand} {b off n k l h:Nat} {ag:Bool} {i:TI} (ho:o.op = .slice t x lo hi none) (hx:ρ x = .v (.pointer (some ⟨b,off,none⟩))) (ht:T t=some i) (ha:i.arr=some (n,ag,k))
  (hlo:(lo=none∧l=0)∨∃ y kk m,lo=some y∧ρ y = .v (.int kk m)∧m=(l:Int)) (hhi:(hi=none∧h=n)∨∃ y kk m,hi=some y∧ρ y = .v (.int kk m)∧m=(h:Int)) (h1:l≤h) (h2:h≤n) (h3:l<n):Yd P o ρ σ (.v (.slice (some ⟨b,off+l*k,none⟩) (h - l) (n - l))):=by
 intro w X η hη hst
 obtain ⟨dst,op,ty,pos,aft,g⟩:=o
 simp only at ho
 subst ho
 have hxv:=(hη x (by simp [Op.operands])).val hx
 obtain ⟨e,hu,hsz⟩:=aA0 (hT t i ht) ha
 have hz:=(ai7 hsz w).2
 have hb:(Instr.sliceBounds false n n (lo.map η) (hi.map η) none).run P w = .ok (l,h,n) w:=by
  rcases hlo with ⟨rfl,rfl⟩|⟨yl,kl,nl,rfl,hyl,rfl⟩ <;> rcases hhi with ⟨rfl,rfl⟩|⟨yh,kh,nh,rfl,hyh,rfl⟩
  ·simp [Instr.sliceBounds,Result.andThen]
  ·have:=(hη yh (by simp [Op.operands])).val hyh
   simp [Instr.sliceBounds,Instr.sliceBound,Result.andThen,this,asIntOf,h2]
  ·have:=(hη yl (by simp [Op.operands])).val hyl
   simp [Instr.sliceBounds,Instr.sliceBound,Result.andThen,this,asIntOf,h1]
  ·have q1:=(hη yl (by simp [Op.operands])).val hyl
   have q2:=(hη yh (by simp [Op.operands])).val hyh
   simp [Instr.sliceBounds,Instr.sliceBound,Result.andThen,q1,q2,asIntOf,h1,h2]
 refine ac8 (s:=Instr.sliceAt t (η x) (lo.map η) (hi.map η) ((none:Option Operand).map η)) (u:=.slice (some ⟨b,off+l*k,none⟩) (h - l) (n - l)) ?_ (Ex.refl w) (.v _)
 rw [hxv]
 have hne:¬ n=l:=by omega
 simp [Instr.sliceAt,Instr.sureAddr,run_underlying hu,Result.andThen,hb,hz,hne,ah4]
theorem bL6 (hT:∀ t i,T t=some i→tiOf P t=some i) {o:Oper} {t:TypeId} {x:Operand} {b off n k l c:Nat} {ag:Bool} {i:TI} (ho:o.op = .sliceToArrayPointer t x) (hx:ρ x = .v (.slice (some ⟨b,off,none⟩) l c)) (ht:T t=some i) (ha:i.arr=some (n,ag,k)) (h1:n≤l):Yd P o ρ σ (.v (.pointer (some ⟨b,off,none⟩))):=by
 intro w X η hη hst
 obtain ⟨dst,op,ty,pos,aft,g⟩:=o
 simp only at ho
 subst ho
 have hxv:=(hη x (by simp [Op.operands])).val hx
 obtain ⟨e,hu,hsz⟩:=aA0 (hT t i ht) ha
 refine ac8 (s:=Instr.arrayAt t (η x)) (u:=.pointer (some ⟨b,off,none⟩)) ?_ (Ex.refl w) (.v _)
 rw [hxv]
 have hne:¬ l<n:=by omega
 simp [Instr.arrayAt,run_underlying hu,Result.andThen,hne]
end
/-! ### Strings -/
def strB (l:List Nat):ByteArray:=⟨(l.map UInt8.ofNat).toArray⟩
abbrev strY (l:List Nat):D:=.v (.string (strB l))
theorem aj6 (l:List Nat):(strB l).size=l.length:=by unfold strB;rw [ByteArray.size];simp
theorem aN6 {l:List Nat} (h:∀ d∈l,d<256):Lib.byteCells (strB l).data.toList=l.map fun (d:Nat)=>Value.int .u8 (d:Int):=by
 unfold strB Lib.byteCells
 simp only [List.map_map]
 refine List.map_congr_left fun d hd=>?_
 have:=h d hd
 simp [UInt8.toNat_ofNat']
 omega
section
variable {P:Program} {σ:aa1} {ρ:Operand→D}
theorem bg7 {o:Oper} {s d e:TypeId} {x:Operand} {l:List Nat} (ho:o.op = .convert s d x) (hx:ρ x = .sl 1 (l.map fun (b:Nat)=>[D.v (.int .u8 (b:Int))])) (hl:∀ c∈l,c<256) (h1:P.underlying s=some (.slice e)) (h2:P.underlying e=some (.int .u8)) (h3:P.underlying d=some .string):Yd P o ρ σ (strY l):=by
 intro w X η hη hst
 obtain ⟨dst,op,ty,pos,aft,g⟩:=o
 simp only at ho
 subst ho
 have h:=hη x (by simp [Op.operands])
 rw [hx] at h
 obtain ⟨a,cap,vs,hv,hle,hk,hc,hr⟩:=h.sl_inv
 rw [List.length_map] at hv hle
 refine ac8 (s:=convert s d (η x)) (u:=.string (strB l)) ?_ (Ex.refl w) (.v _)
 rw [hv]
 cases l with
 | nil=>
  rw [List.length_nil,run_convert_bytes_string w s d e a 0 cap h1 h2 h3]
  cases a <;> simp [Conv.bytesToString,loadCells,loadCellsFrom,Result.andThen,strB] <;> rfl
 | cons c l'=>
  obtain ⟨b,off,rfl,_⟩:=hc 0 _ rfl
  have:=run_convert_bytes_back (P:=P) w s d e ⟨b,off,none⟩ cap ((c :: l').map UInt8.ofNat) h1 h2 h3 (fun j hj=>by
   rw [List.length_map] at hj
   have hj2:(c :: l')[j]?=some (c :: l')[j]:=List.getElem?_eq_getElem hj
   have hlt:=hl _ (List.mem_of_getElem? hj2)
   have hq:((c :: l').map fun (b:Nat)=>[D.v (.int .u8 (b:Int))])[j]?=some [D.v (.int .u8 (((c :: l')[j]:Nat):Int))]:=by rw [List.getElem?_map,hj2];rfl
   obtain ⟨b',off',e1,_,_,h4⟩:=hc j _ hq
   cases e1
   have h5:=h4 0 (by omega)
   have h6:=(hr j _ hq 0 _ rfl).val rfl
   rw [ah4]
   simp only [Nat.mul_one,Nat.add_zero] at h5
   rw [h5,h6]
   simp only [List.getElem_map,UInt8.toNat_ofNat']
   rw [Nat.mod_eq_of_lt (by simpa using hlt)])
  rw [List.length_map] at this
  exact this
theorem cb4 {o:Oper} {s d e:TypeId} {x:Operand} {l:List Nat} (ho:o.op = .convert s d x) (hx:ρ x=strY l) (hl:∀ c∈l,c<256) (h1:P.underlying s=some .string) (h2:P.underlying d=some (.slice e)) (h3:P.underlying e=some (.int .u8)):Yd P o ρ σ (.sl 1 (l.map fun (b:Nat)=>[D.v (.int .u8 (b:Int))])):=by
 intro w X η hη hst
 obtain ⟨dst,op,ty,pos,aft,g⟩:=o
 simp only at ho
 subst ho
 have h:=(hη x (by simp [Op.operands])).val hx
 have hrun:=run_bytes_of_string (P:=P) w s d e (strB l) h1 h2 h3
 have hge:=grownCap_ge w (strB l).size 0 e
 generalize grownCap w (strB l).size 0 e=cap at *
 have hEx:Ex w (w.drew.alloc (.cells (bytesRow (strB l) cap) e ((bytesRow (strB l) cap).size,(bytesRow (strB l) cap).size+1))):=by
  have:=Ex.refl w
  exact Ex.alloc (Ex.drew this)
 refine ac8 (s:=convert s d (η x)) (by rw [h];exact hrun) hEx ?_
 have hbr:∀ (q c:Nat),l[q]?=some c→(bytesRow (strB l) cap)[q]?=some (.int .u8 (c:Int)):=fun q c hq=>by
  have hlt:q<l.length:=(List.getElem?_eq_some_iff.1 hq).1
  have hc:=hl c (List.mem_of_getElem? hq)
  unfold bytesRow
  rw [Array.getElem?_append_left (by simp [strB];exact hlt)]
  simp [strB,hq,UInt8.toNat_ofNat']
  omega
 have:=Rd.sl (w:=w.drew.alloc (.cells (bytesRow (strB l) cap) e ((bytesRow (strB l) cap).size,(bytesRow (strB l) cap).size+1))) (O:=Own σ X) 1 (l.map fun (b:Nat)=>[D.v (.int .u8 (b:Int))]) (some ⟨w.heap.size,0,none⟩) cap (fun q _=>(bytesRow (strB l) cap).getD q undef) (by rw [List.length_map,← aj6];exact hge) (fun x hx=>by
   obtain ⟨c,_,rfl⟩:=List.mem_map.1 hx
   rfl) (fun q x hx=>⟨w.heap.size,0,rfl,aD8 hst (Nat.le_refl _),by simp,fun c hc=>by
   obtain rfl:c=0:=by omega
   rw [List.getElem?_map] at hx
   cases hq:l[q]? with
   | none=>rw [hq] at hx;cases hx
   | some z=>
    have:=hbr q z hq
    simp only [Nat.zero_add,Nat.mul_one,Nat.add_zero]
    have h9:=heap_alloc_new w.drew (.cells (bytesRow (strB l) cap) e ((bytesRow (strB l) cap).size,(bytesRow (strB l) cap).size+1))
    rw [show w.drew.heap.size=w.heap.size from rfl] at h9
    have h10:(w.drew.alloc (.cells (bytesRow (strB l) cap) e ((bytesRow (strB l) cap).size,(bytesRow (strB l) cap).size+1))).cell? ⟨w.heap.size,q,none⟩=(bytesRow (strB l) cap)[q]?:=by
     unfold World.cell?
     rw [h9]
     rfl
    rw [h10]
    simp [this]⟩) (fun q x hx c d hd=>by
   rw [List.getElem?_map] at hx
   cases hq:l[q]? with
   | none=>rw [hq] at hx;cases hx
   | some z=>
    rw [hq] at hx
    cases hx
    have:=hbr q z hq
    cases c with
    | zero=>
     cases hd
     simp only [Array.getD_eq_getD_getElem?,this,Option.getD_some]
     exact .v _
    | succ c=>cases hd)
 rw [List.length_map,← aj6] at this
 exact this
end
/-! ### A string appended -/
section
variable {P:Program} {w:World} {X:Nat→Prop}
theorem bg1 {t u ty e:TypeId} {i:TypeInfo} (ht:P.underlying t=some (.slice e)) (hu:P.underlying u=some .string) (hi:P.info? e=some i) (hz:i.zero=some (.int .u8 0)) (hsize:i.size=1) (hby:i.bytes=1) {b n cap:Nat} {vs:Array Value} {st:ByteArray} (hb:w.heap[b]?=some (.cells vs e (0,0))) (hv:vs.size=cap) (hn:n≤cap) (hm:n+st.size≤1000000000) {v':Value} {w':World}
  (hrun:(Builtin.append_ #[t,u] ty #[.slice (some ⟨b,0,none⟩) n cap,.string st]).run P w = .ok v' w'):v'.ownBlock=some b∨v'.ownBlock=some w.heap.size:=by
 have hS:Src P i.size u (.string st) st.size (Go.byteCells st) w:=by rw [hsize];exact Src.ofString w hu st
 by_cases hroom:n+st.size≤cap
 ·have h1:=run_append_room_src (P:=P) w t u ty e i ht hi b 0 n cap (.string st) st.size _ hS hroom (fun j hj=>by
   rw [byteCells_length] at hj
   simp [World.cell?,hb]
   rw [hsize]
   omega) (fun j hj=>Lib.frozen_of_heap hb _)
  rw [h1] at hrun
  cases hrun
  exact .inl rfl
 ·have h1:=run_append_grow_src (P:=P) w t u ty e i _ ht hi hz (some ⟨b,0,none⟩) n cap (vs.toList.take n) (by
   refine run_firstCells_some w.drew i.size n ⟨b,0,none⟩ n cap _ (by rw [hsize,List.length_take,Array.length_toList];omega) (fun j u' hu'=>?_)
   rw [List.getElem?_take] at hu'
   split at hu'
   ·rw [ah4]
    have h9:w.drew.heap[b]?=some (.cells vs e (0,0)):=hb
    unfold World.cell?
    rw [h9]
    simpa using hu'
   ·cases hu') (.string st) st.size _ hS (by omega) (by omega) (growslice_fits (by omega) (by rw [hby];omega))
  rw [h1] at hrun
  cases hrun
  exact .inr rfl
theorem bW8 (l:List Nat):(l.map fun (d:Nat)=>[D.v (.int .u8 (d:Int))]).flatten=l.map fun (d:Nat)=>D.v (.int .u8 (d:Int)):=by
 induction l with
 | nil=>rfl
 | cons d l ih=>rw [List.map_cons,List.flatten_cons,ih];rfl
theorem bo9 {s:aa1} {t tx ty e:TypeId} {inf:TypeInfo} {l:List Nat} {xs:List (List D)} {v:Value} (hut:P.underlying t=some (.slice e)) (hux:P.underlying tx=some .string) (hi:P.info? e=some inf) (hz:inf.zero=some (.int .u8 0)) (hsize:inf.size=1) (hby:inf.bytes=1)
  (hr:RowIs e 1 xs v s) (hne:xs≠[]) (hs:StOK w X s) (hl:∀ d∈l,d<256) (hm:xs.length+l.length≤1000000000) :
  ∃ v' w' s',(Builtin.append_ #[t,tx] ty #[v,.string (strB l)]).run P w = .ok v' w'∧RowIs e 1 (xs ++ l.map fun (d:Nat)=>[D.v (.int .u8 (d:Int))]) v' s'∧StOK w' X s'∧Mv w s w' s':=by
 obtain ⟨b,cap,junk,rfl,rfl,hle,hcap,hj,_⟩:=hr.block hne
 obtain ⟨_,o,g2,vs,rfl,g3⟩:=hs.at_ b (.cells e (xs.flatten ++ junk)) (by simp)
 have hfl:=aj2 hr.len
 have hvl:vs.length=cap:=by rw [g3.len,List.length_append,hfl,hj];omega
 have ht':=g3.take (xs.length*1)
 rw [← hfl,List.take_left] at ht'
 have hxl:xs.flatten.length=xs.length:=by rw [hfl,Nat.mul_one]
 have hown:w.ownsRow 0 e 1 (.slice (some ⟨b,0,none⟩) xs.length cap) xs.length (vs.take xs.flatten.length):=
  ⟨by rw [List.length_take,hxl,hvl,Nat.mul_one];exact Nat.min_eq_left hle,.inr ⟨b,cap,vs.toArray,rfl,Nat.zero_le _,g2,hle,hcap,by simpa using hvl,by simp [hfl]⟩⟩
 obtain ⟨v',w',hrun,hown',hgrow,_⟩:=Lib.run_append_own_string (P:=P) w 0 t tx ty e inf hut hux hi hz hsize hby _ _ _ hown (strB l) (by rw [aj6];unfold maxLen;omega) (by rw [aj6];omega) (Nat.zero_le _)
 have hblk:=bg1 hut hux hi hz hsize hby g2 (by simpa using hvl) hle (by rw [aj6];exact hm) hrun
 have hkeep:Keep (fun b'=>b'∈ab4 [(b,Blk.cells e (xs.flatten ++ junk))]) w w':=⟨hgrow.os,hgrow.tape,hgrow.output,hgrow.size,fun b' hb hn=>hgrow.block b' hb (fun e=>hn (by cases e;simp [ab4]))⟩
 have hcs:Lib.strCells (strB l)=l.map fun (d:Nat)=>Value.int .u8 (d:Int):=aN6 hl
 rw [aj6] at hown'
 have hnews:RdL w (Own [(b,Blk.cells e (xs.flatten ++ junk))] X) (l.map fun (d:Nat)=>[D.v (.int .u8 (d:Int))]).flatten (Lib.strCells (strB l)):=by
  rw [hcs]
  have e1:=bW8 l
  rw [e1]
  refine ⟨by simp,fun q d u h1 h2=>?_⟩
  rw [List.getElem?_map] at h1 h2
  cases hq:l[q]? with
  | none=>rw [hq] at h1;cases h1
  | some z=>rw [hq] at h1 h2;cases h1;cases h2;exact .v _
 rcases hown'.2 with ⟨_,h0⟩|⟨g,cap',cur,rfl,_,hg,hle2,hcap2,hcs2,htk⟩
 ·exfalso
  have:0<xs.length:=List.length_pos_iff.2 hne
  omega
 ·have hg':g=b∨g=w.heap.size:=by
   rcases hblk with h|h
   ·cases h;exact .inl rfl
   ·cases h;exact .inr rfl
  have hbl:b<w.heap.size:=(Array.getElem?_eq_some_iff.1 g2).1
  generalize hys:(l.map fun (d:Nat)=>[D.v (.int .u8 (d:Int))])=ys at *
  have hyl:ys.length=l.length:=by rw [← hys,List.length_map]
  have hysk:∀ y∈ys,y.length=1:=fun y hy=>by
   rw [← hys] at hy
   obtain ⟨d,_,rfl⟩:=List.mem_map.1 hy
   rfl
  have hlk:∀ y∈xs ++ ys,y.length=1:=fun y hy=>by
   rcases List.mem_append.1 hy with h|h
   ·exact hr.len y h
   ·exact hysk y h
  have hfl2:=aj2 hlk
  rw [List.length_append,hyl] at hfl2
  have hXb:¬ X g:=by
   rcases hg' with h|h
   ·subst h;exact (hs.at_ g (.cells e (xs.flatten ++ junk)) (by simp)).1
   ·intro hx;have:=hs.xlt g hx;omega
  have hO:∀ x,x<w.heap.size→¬ Own [(b,Blk.cells e (xs.flatten ++ junk))] X x→¬ Own [(g,Blk.cells e ((xs ++ ys).flatten ++ List.replicate (cur.toList.drop ((xs.length+l.length)*1)).length .any))] X x:=by
   intro x hx hn ho
   rcases ho with ho|ho
   ·exact hn (.inl ho)
   ·simp only [ab4,List.map_cons,List.map_nil,List.mem_singleton] at ho
    subst ho
    rcases hg' with h|h
    ·subst h;exact hn (.inr (by simp [ab4]))
    ·omega
  have hS:∀ x,x<w.heap.size→¬ Own [(b,Blk.cells e (xs.flatten ++ junk))] X x→w'.heap[x]?=w.heap[x]?:=fun x hx hn=>hkeep.block x hx (fun hm=>hn (.inr hm))
  refine ⟨_,w',[(g,.cells e ((xs ++ ys).flatten ++ List.replicate (cur.toList.drop ((xs.length+l.length)*1)).length .any))],hrun,⟨hlk,.inr ⟨g,cap',_,by rw [List.length_append,hyl],rfl,by rw [List.length_append,hyl];exact hle2,hcap2,?_,fun d hd=>(List.mem_replicate.1 hd).2⟩⟩,⟨by simp [ab4],?_,fun b hb=>Nat.lt_of_lt_of_le (hs.xlt b hb) hkeep.size,?_⟩,⟨hkeep,?_⟩⟩
  ·simp only [List.length_append,hyl,List.length_replicate,List.length_drop,Array.length_toList,hcs2];have:=Nat.mul_le_mul_right 1 hle2;omega
  ·intro b' kk hbk
   simp only [List.mem_singleton,Prod.mk.injEq] at hbk
   obtain ⟨rfl,rfl⟩:=hbk
   refine ⟨hXb,_,hg,cur.toList,by simp,?_⟩
   have hall:=((ht'.append hnews).keep hkeep.size hO hS).append (bt9 (w:=w') (cur.toList.drop ((xs.length+l.length)*1)))
   rw [← List.flatten_append,← htk,List.take_append_drop] at hall
   exact hall
  ·refine hs.gok.keep hkeep.size hO hS ?_
   intro x ho
   rcases ho with ho|ho
   ·exact Nat.lt_of_lt_of_le (hs.xlt x ho) hkeep.size
   ·simp only [ab4,List.map_cons,List.map_nil,List.mem_singleton] at ho
    subst ho
    exact (Array.getElem?_eq_some_iff.1 hg).1
  ·intro b' hb'
   simp only [ab4,List.map_cons,List.map_nil,List.mem_singleton] at hb'
   subst hb'
   rcases hg' with h|h
   ·subst h;exact .inl (by simp [ab4])
   ·exact .inr (by omega)
end
section
variable {P:Program} {r:Option Nat} {n:Nat} {df:Nat} {N:Nat} {σ:aa1} {a:List D} {f:Frm} {T:TypeId→Option TI} {L:List Oper} {Q:Fst} {ρ:Operand→D}
theorem OtE.apstr {o:Oper} {p x:Operand} {t tx e:TypeId} {inf:TypeInfo} {l:List Nat} {xs:List (List D)} {v:Value} {s τ:aa1} {K:Frm→aa1→Prop}
  (ho:o.op = .call { callee:=.builtin .append,args:=#[p,x],argTypes:=#[t,tx] }) (hp:evF f p = .v v) (hx:evF f x=strY l) (hut:P.underlying t=some (.slice e)) (hux:P.underlying tx=some .string) (hi:P.info? e=some inf) (hz:inf.zero=some (.int .u8 0)) (hsize:inf.size=1) (hby:inf.bytes=1)
  (hr:RowIs e 1 xs v s) (hne:xs≠[]) (hσ:σ.Perm (s ++ τ)) (hl:∀ d∈l,d<256) (hm:xs.length+l.length≤1000000000)
  (kk:∀ v' s',RowIs e 1 (xs ++ l.map fun (d:Nat)=>[D.v (.int .u8 (d:Int))]) v' s'→W (putK N o.dst (.v v') f (fun f'=>K f' (s' ++ τ)))):OtE P r n df L N o f σ K:=by
 refine ⟨fun rest Q a hsp hw hk=>?_⟩
 refine am2 hσ ?_
 refine ad7 hw (by rw [ho];rfl) fun w X fr hst=>?_
 have hpv:=hsp.le p _ _ _ (hst.fr.eval p)
 rw [hp] at hpv
 have hpv:=hpv.val rfl
 have hxv:=hsp.le x _ _ _ (hst.fr.eval x)
 rw [hx] at hxv
 have hxv:=hxv.val rfl
 obtain ⟨v',w',s',g1,g2,g3,g4⟩:=bo9 (ty:=o.type) hut hux hi hz hsize hby hr hne hst.st.left hl hm
 have ee:(execOp fr.eval o).run P w = .ok (.value v') w':=by
  simp only [execOp,ho,resolve,invoke,builtin,Sem.run_bind,Sem.run_pure,Result.andThen,List.map_toArray,List.map_cons,List.map_nil,hpv,hxv,g1]
 rw [ee]
 obtain ⟨q1,q2,q3,q4⟩:=stays hst.st g3 g4
 obtain ⟨f',hs',h4⟩:=ac7 (kk v' s' g2).h hsp
 exact ⟨_,_,q2,(⟨hst.fr.keep g4.keep.size q3 q4,q1,hst.df.keep g4.keep.size q3 q4⟩:St w' X df a (s' ++ τ) fr).put (.v _) o.dst,hk _ _ _ h4 hs'⟩
theorem aW1 (w:World) (dT sT ty elem:TypeId) (g o dLen dCap m:Nat) (s:ByteArray) (cur:Array Value) (t:TypeId)
  (hu:P.underlying dT=some (.slice elem)) (hs:(P.info? elem).map (·.size)=some 1) (hg:w.heap[g]?=some (.cells cur t (0,0))) (hmn:m=Nat.min s.size dLen) (hfit:o+m≤cur.size) :
  (Builtin.copy_ #[dT,sT] ty #[.slice (some ⟨g,o,none⟩) dLen dCap,.string s]).run P w =
   .ok (goInt m) (w.setRow g (cur.toList.take o ++ (Lib.byteCells s.data.toList).take m ++ cur.toList.drop (o+m)).toArray):=by
 have hlen:((Lib.byteCells s.data.toList).take m).length=m:=by
  rw [List.length_take,Lib.byteCells_length,← Lib.size_eq]
  have:m≤s.size:=by rw [hmn];exact Nat.min_le_left _ _
  exact Nat.min_eq_left this
 have hst:=run_storeCells_at P g o t ((Lib.byteCells s.data.toList).take m) 0 cur w hg (by rw [hlen];simpa using hfit) (fun v hv=>Lib.byteCells_one _ v (List.mem_of_mem_take hv))
 have htk:List.take m (List.map (fun b:UInt8=>Value.int IntKind.u8 (b.toNat:Int)) s.data.toList)=(Lib.byteCells s.data.toList).take m:=rfl
 rw [hlen] at hst
 simp only [Nat.add_zero] at hst
 cases hq:P.info? elem with
 | none=>simp [hq] at hs
 | some i=>
  simp [Builtin.copy_,run_underlying hu,Builtin.lenOf,Builtin.firstCells,sizeOf,typeInfo,hq,← hmn]
  rw [htk,hst]
  simp [Result.andThen]
theorem OtE.copystr (hT:∀ t i,T t=some i→tiOf P t=some i) {o:Oper} {p x:Operand} {t t2 e:TypeId} {i j:TI} {ag:Bool} {by_ b off dl dc m:Nat} {tb:TypeId} {cs:List D} {l:List Nat} {τ:aa1} {K:Frm→aa1→Prop}
  (ho:o.op = .call { callee:=.builtin .copy,args:=#[p,x],argTypes:=#[t,t2] }) (hp:evF f p = .v (.slice (some ⟨b,off,none⟩) dl dc)) (hx:evF f x=strY l) (ht:T t=some i) (hs:i.sl=some (e,ag,1,by_)) (hj:T e=some j) (hjs:j.size=1)
  (hb:σ.Perm ((b,.cells tb cs) :: τ)) (hm:m=Nat.min l.length dl) (hfit:off+m≤cs.length) (hl:∀ d∈l,d<256)
  (kk:W (putK N o.dst (.v (.int .i64 m)) f (fun f'=>K f' ((b,.cells tb (spl cs off ((l.take m).map fun (d:Nat)=>D.v (.int .u8 (d:Int))))) :: τ)))):OtE P r n df L N o f σ K:=by
 refine ⟨fun rest Q a hsp hw hk=>?_⟩
 refine am2 hb ?_
 refine ad7 hw (by rw [ho];rfl) fun w X fr hst=>?_
 have hpv:=hsp.le p _ _ _ (hst.fr.eval p)
 rw [hp] at hpv
 have hpv:=hpv.val rfl
 have hxv:=hsp.le x _ _ _ (hst.fr.eval x)
 rw [hx] at hxv
 have hxv:=hxv.val rfl
 obtain ⟨hu,hsz,_⟩:=ag3 (hT t i ht) hs
 have hsz1:(P.info? e).map (·.size)=some 1:=by
  obtain ⟨inf,u,q1,_,_,q4,_⟩:=ao9 (hT e j hj)
  rw [q1];simp [← q4,hjs]
 obtain ⟨_,ob,hob,vs,rfl,hvs⟩:=hst.st.at_ b _ List.mem_cons_self
 have hrun:=aW1 (P:=P) w t t2 o.type e b off dl dc m (strB l) vs.toArray tb hu hsz1 hob (by rw [aj6];exact hm) (by simp [hvs.len];exact hfit)
 have hbc:(Lib.byteCells (strB l).data.toList).take m=(l.take m).map fun (d:Nat)=>Value.int .u8 (d:Int):=by rw [aN6 hl,List.map_take]
 rw [hbc] at hrun
 have hnn:((l.take m).map fun (d:Nat)=>Value.int .u8 (d:Int)).length=m:=by
  rw [List.length_map,List.length_take]
  have:m≤l.length:=by rw [hm];exact Nat.min_le_left _ _
  exact Nat.min_eq_left this
 generalize hnv:(l.take m).map (fun (d:Nat)=>Value.int .u8 (d:Int))=nv at *
 have hnr:RdL w (Own ((b,Blk.cells tb cs) :: τ) X) ((l.take m).map fun (d:Nat)=>D.v (.int .u8 (d:Int))) nv:=by
  rw [← hnv]
  refine ⟨by simp,fun q d u h1 h2=>?_⟩
  rw [List.getElem?_map] at h1 h2
  cases hq:(l.take m)[q]? with
  | none=>rw [hq] at h1;cases h1
  | some z=>rw [hq] at h1 h2;cases h1;cases h2;exact .v _
 have ee:(execOp fr.eval o).run P w = .ok (.value (goInt m)) (w.setRow b (vs.take off ++ nv ++ vs.drop (off+nv.length)).toArray):=by
  rw [hnn]
  simp only [execOp,ho,resolve,invoke,builtin,Sem.run_bind,Sem.run_pure,Result.andThen,List.map_toArray,List.map_cons,List.map_nil,hpv,hxv,hrun]
 rw [ee]
 obtain ⟨q1,q2⟩:=av1 (cur':=(vs.take off ++ nv ++ vs.drop (off+nv.length)).toArray) hob
 have hnew:RdL w (Own ((b,Blk.cells tb cs) :: τ) X) (spl cs off ((l.take m).map fun (d:Nat)=>D.v (.int .u8 (d:Int)))) (vs.take off ++ nv ++ vs.drop (off+nv.length)):=by
  unfold spl
  rw [hnr.len]
  exact ((hvs.take off).append hnr).append (hvs.drop _)
 obtain ⟨g1,g2,g3,g4⟩:=hst.st.upd (i:=0) rfl (k':=.cells tb (spl cs off ((l.take m).map fun (d:Nat)=>D.v (.int .u8 (d:Int))))) q2 q1 ⟨_,rfl,hnew⟩
 obtain ⟨f',hs',h4⟩:=ac7 kk.h hsp
 exact ⟨.v (.int .i64 m),_,g2,(⟨hst.fr.keep q2.size g3 g4,g1,hst.df.keep q2.size g3 g4⟩:St _ X df a _ fr).put (.v _) o.dst,hk _ _ _ h4 hs'⟩
end
end
section
open Go
section
variable {P:Program} {t:TypeId} {p q:Operand} {w:World}
theorem cp9 {n:Nat} (h0:0<n) (h:n<32):(do eqGuard .and t p q (.int .u64 ((18446744073709551616 - n:Nat):Int)) (.int .u64 31);binOp .and t (.int .u64 ((18446744073709551616 - n:Nat):Int)) (.int .u64 31)).run P w = .ok (.int .u64 ((32 - n:Nat):Int)) w:=by
 have h1:=aG7 (P:=P) (t:=t) (p:=p) (q:=q) (w:=w) .u64 .and (fun x y=>x &&& y) (.inr (.inr ⟨rfl,rfl⟩)) rfl (18446744073709551616 - n) 31 (by show _<18446744073709551616;omega) (by show 31<18446744073709551616;omega)
 have e:(18446744073709551616 - n) &&& 31=32 - n:=by
  rw [show 31=2 ^ 5 - 1 from rfl,Nat.and_two_pow_sub_one_eq_mod]
  omega
 simp only [e] at h1
 exact h1
theorem cn2 {n:Nat} (h:n≤32):(do eqGuard .sub t p q (.int .u64 32) (.int .u64 (n:Int));binOp .sub t (.int .u64 32) (.int .u64 (n:Int))).run P w = .ok (.int .u64 ((32 - n:Nat):Int)) w:=by
 show Result.ok (Value.int .u64 (IntKind.u64.wrap _)) w=_
 have e:IntKind.u64.wrap (32 - (n:Int))=((32 - n:Nat):Int):=by rw [IntKind.wrap_u64];omega
 rw [e]
end
theorem ar4 (x:W32) (n:Nat) (h0:0<n) (h:n<32):APure Tryz.prog 222 [wD x,iD (-(n:Int))] (wD (rotR x n)):=by
 refine eP7 Tryz.func222 Tryz.ntmps222 fun BB=>?_
 repeat' first|refine sk2 ?_|(intro b;conv=>whnf)
 refine Ot.yd (ab5 (m:=((18446744073709551616 - n:Nat):Int)) rfl rfl Tryz.underlying3 Tryz.underlying180 (by rw [IntKind.wrap_u64];omega)) ?_
 repeat' first|refine sk2 ?_|(intro b;conv=>whnf)
 refine Ot.yd (aa3 (r:=.int .u64 ((32 - n:Nat):Int)) rfl rfl rfl (fun w=>cp9 h0 h)) ?_
 repeat' first|refine sk2 ?_|(intro b;conv=>whnf)
 refine Ot.yd (aa3 (r:=wV (x <<< (32 - n))) rfl rfl rfl (fun w=>aN8 x .u64 (32 - n) (by omega))) ?_
 repeat' first|refine sk2 ?_|(intro b;conv=>whnf)
 refine Ot.yd (aa3 (r:=.int .u64 ((32 - (32 - n):Nat):Int)) rfl rfl rfl (fun w=>cn2 (by omega))) ?_
 repeat' first|refine sk2 ?_|(intro b;conv=>whnf)
 refine Ot.yd (aa3 (r:=wV (x >>> (32 - (32 - n)))) rfl rfl rfl (fun w=>aN7 x .u64 (32 - (32 - n)) (by omega))) ?_
 repeat' first|refine sk2 ?_|(intro b;conv=>whnf)
 refine Ot.yd (aa3 (r:=wV (x <<< (32 - n) ||| x >>> (32 - (32 - n)))) rfl rfl rfl (fun w=>bm6 _ _)) ?_
 repeat' first|refine sk2 ?_|(intro b;conv=>whnf)
 refine Rt.pure ?_
 rw [show 32 - (32 - n)=n by omega,BitVec.or_comm]
 rfl
theorem sk20 {A B:Prop} (k:B) (h:Hd7 B→A:=by intro hk7q;(first|refine sb0 ?_|refine sb1 ?_|((with_reducible refine' Cp.by ?hc ?_);(case hc=>first|exact ar4 _ _ h0 h1|exact ar4 _ _ h2 h3|exact ar4 _ _ h4 h5))|((with_reducible refine' CE.pure ?hc ?_);(case hc=>first|exact ar4 _ _ h0 h1|exact ar4 _ _ h2 h3|exact ar4 _ _ h4 h5)));exact hk7q.run):A:=h ⟨k⟩
theorem aF4 (x:W32) (i j k:Nat) (h0:0<i) (h1:i<32) (h2:0<j) (h3:j<32) (h4:0<k) (h5:k<32):APure Tryz.prog 185 [wD x,iD i,iD j,iD k] (wD (mixW x i j k)):=by
 refine eP7 Tryz.func185 Tryz.ntmps185 fun BB=>?_
 repeat' first|refine sk20 ?_|(intro b;conv=>whnf)
 refine Ot.yd (aa3 (r:=wV (rotR x i ^^^ rotR x j)) rfl rfl rfl (fun w=>aj7 _ _)) ?_
 repeat' first|refine sk20 ?_|(intro b;conv=>whnf)
 refine Ot.yd (aa3 (r:=wV (rotR x i ^^^ rotR x j ^^^ rotR x k)) rfl rfl rfl (fun w=>aj7 _ _)) ?_
 repeat' first|refine sk20 ?_|(intro b;conv=>whnf)
 exact Rt.pure rfl
theorem aa9 (x:W32) (n:Nat) (h0:0<n) (h:n<32):APure Tryz.prog 188 [wD x,iD n] (wD (rotR x n)):=by
 refine eP7 Tryz.func188 Tryz.ntmps188 fun BB=>?_
 repeat' first|refine sk2 ?_|(intro b;conv=>whnf)
 refine Ot.yd (aa3 (r:=wV (x >>> n)) rfl rfl rfl (fun w=>aN7 x .i64 n (by omega))) ?_
 repeat' first|refine sk2 ?_|(intro b;conv=>whnf)
 rw [show (32:Int) - (n:Int)=((32 - n:Nat):Int) by omega]
 refine Ot.yd (aa3 (r:=wV (x <<< (32 - n))) rfl rfl rfl (fun w=>aN8 x .i64 (32 - n) (by omega))) ?_
 repeat' first|refine sk2 ?_|(intro b;conv=>whnf)
 refine Ot.yd (aa3 (r:=wV (x >>> n ||| x <<< (32 - n))) rfl rfl rfl (fun w=>bm6 _ _)) ?_
 repeat' first|refine sk2 ?_|(intro b;conv=>whnf)
 exact Rt.pure rfl
end
section
open Go
def wc (l:List W32):List D:=l.map wD ++ List.replicate (64 - l.length) (wD 0)
theorem aV4 {l:List W32} (h:l.length≤64):(wc l).length=64:=by unfold wc;simp;omega
theorem bL8 {l:List W32} {i:Nat} (h:i<l.length):(wc l)[i]?=some (wD (l.getD i 0)):=by
 unfold wc
 rw [List.getElem?_append_left (by simpa using h),List.getElem?_map,List.getD_eq_getElem?_getD,List.getElem?_eq_getElem h]
 rfl
theorem bQ2 {l:List W32} (h:l.length<64):(wc l)[l.length]?=some (wD 0):=by
 unfold wc
 rw [List.getElem?_append_right (by simp),List.length_map,Nat.sub_self,List.getElem?_replicate,if_pos (by omega)]
theorem aQ0 {l:List W32} (h:l.length<64) (x:W32):(wc l).set l.length (wD x)=wc (l ++ [x]):=by
 unfold wc
 rw [show 64 - l.length=(64 - (l ++ [x]).length)+1 by simp;omega,List.replicate_succ,List.set_append_right _ _ (by simp)]
 simp
theorem bQ1 {l:List W32} (h:l.length<64):(wc l).set l.length (wD 0)=wc l:=by
 obtain ⟨h2,h3⟩:=List.getElem?_eq_some_iff.1 (bQ2 h)
 rw [← h3]
 exact List.set_getElem_self h2
theorem bq5 {l:List W32} (h:l.length=64):wc l=l.map wD:=by unfold wc;rw [h];simp
def aV3 (l:List W32):D:=.agg ((List.range 64).map fun i=>wD (l.getD i 0))
theorem aV2 {l:List W32} (h:l.length=64):(List.range 64).map (fun i=>wD (l.getD i 0))=l.map wD:=by
 refine List.ext_getElem (by simp [h]) fun i h1 h2=>?_
 simp only [List.length_map,List.length_range] at h1
 have h3:i<l.length:=by omega
 simp [List.getD_eq_getElem?_getD,h3]
def acc4 (b:List Nat) (t i:Nat):W32:=(((b.take (4*t+4)).drop (4*t)).take i).foldl accW 0
theorem bC3 {b:List Nat} {t i d:Nat} (h:((b.take (4*t+4)).drop (4*t))[i]?=some d):acc4 b t (i+1)=accW (acc4 b t i) d:=by
 unfold acc4
 rw [List.take_add_one,h,List.foldl_append]
 rfl
theorem bC4 {b:List Nat} {t:Nat} (hb:b.length=64) (ht:t<16):acc4 b t 4=bq0 (b.getD (4*t) 0) (b.getD (4*t+1) 0) (b.getD (4*t+2) 0) (b.getD (4*t+3) 0):=by
 have e:(((b.take (4*t+4)).drop (4*t)).take 4)=[b.getD (4*t) 0,b.getD (4*t+1) 0,b.getD (4*t+2) 0,b.getD (4*t+3) 0]:=by
  refine List.ext_getElem (by simp;omega) fun i h1 h2=>?_
  simp only [List.length_cons,List.length_nil] at h2
  have h3:4*t+i<b.length:=by omega
  rw [List.getElem_take,List.getElem_drop,List.getElem_take]
  rcases i with _ | _ | _ | _|i
  ·simp [List.getD_eq_getElem?_getD,show 4*t<b.length by omega]
  ·simp [List.getD_eq_getElem?_getD,show 4*t+1<b.length by omega]
  ·simp [List.getD_eq_getElem?_getD,show 4*t+2<b.length by omega]
  ·simp [List.getD_eq_getElem?_getD,show 4*t+3<b.length by omega]
  ·omega
 unfold acc4
 rw [e]
 rfl
theorem ce0 {b:List Nat} {t:Nat} (hb:b.length=64) (ht:t<16):schN b (t+1)=schN b t ++ [acc4 b t 4]:=by
 rw [schN,if_pos ht,bC4 hb ht]
theorem bM6 {b:List Nat} {t:Nat} (ht:¬ t<16):schN b (t+1)=schN b t ++ [(schN b t).getD (t - 16) 0+sml0 ((schN b t).getD (t - 15) 0)+(schN b t).getD (t - 7) 0+sml1 ((schN b t).getD (t - 2) 0)]:=by
 rw [schN,if_neg ht]
theorem an1 {P:Program} {σ:aa1} {ρ:Operand→D} {T:TypeId→Option TI} (hT:∀ t i,T t=some i→tiOf P t=some i) {o:Oper} {t:TypeId} {x ix:Operand} {b off n m q:Nat} {kk:IntKind} {j:Int} {ag:Bool} {i:TI} (ho:o.op = .indexAddr t x ix) (hx:ρ x = .v (.pointer (some ⟨b,off,none⟩))) (hi:ρ ix = .v (.int kk j)) (ht:T t=some i) (ha:i.arr=some (n,ag,1)) (hj:j=(m:Int)) (hm:m<n) (hq:off+m=q):Yd P o ρ σ (.v (.pointer (some ⟨b,q,none⟩))):=by
 subst hq
 have:=bP4 (σ:=σ) hT ho hx hi ht ha hj hm
 rwa [Nat.mul_one] at this
theorem sb21 {A B:Prop} (k:B) (h:Hd7 B→A:=by intro hk7q;(first|((with_reducible refine W.mk ?_);(conv=>whnf))|(with_reducible refine Br.tt ?_)|(with_reducible refine Br.ff ?_)|(with_reducible refine Br.n ?_)|((with_reducible refine' Br.eq ?h ?_);(case h=>(simp only [List.length_map,List.length_take,List.length_append,List.length_cons,List.length_nil,List.length_replicate,Nat.reduceAdd];exact rfl)))|((with_reducible refine Sd.go ?qs7 ?_);(case qs7=>first|trivial|(constructor <;> omega)|omega|assumption|((try simp only [List.length_map,List.length_take,List.length_append,List.length_cons,List.length_nil,List.length_replicate,Nat.reduceAdd] at *);first|(constructor <;> omega)|omega)))|((with_reducible refine Ck.go ?qs7 ?_);(case qs7=>kernel_rfl))|((with_reducible refine' Ix.mapAt ?hy ?h0 ?_);(case hy=>assumption);(case h0=>omega))|((with_reducible refine' Ix.at ?hy ?h0 ?_);(case hy=>exact rfl);(case h0=>omega))|((with_reducible refine Ix.mapM ?h0 ?_);(case h0=>first|omega|(simp only [List.length_map,List.length_take,List.length_append,List.length_cons,List.length_nil,List.length_replicate,Nat.reduceAdd] at *;omega)))|fail|fail|((with_reducible refine' Ot.yd ?hyd ?_);(case hyd=>first|(refine' ap9 aa0 rfl rfl rfl rfl rfl ?hc ?h0;(case hc=>assumption);(case h0=>omega))|(refine ap8 aa0 rfl rfl rfl rfl rfl ?_;first|omega|(simp only [List.length_map,List.length_take,List.length_append,List.length_cons,List.length_nil,List.length_replicate,Nat.reduceAdd];omega))|(refine aG3 aa0 rfl rfl rfl rfl rfl ?_;omega)|exact yd_bne rfl rfl rfl Tryz.underlying4|exact av7 rfl rfl rfl|exact av8 rfl rfl rfl))|((with_reducible refine' Rs.tc aa0 (m:=0) ?h ?hi ?hj ?hb ?ht ?hag ?hs ?_);(case h=>exact rfl);(case hi=>exact rfl);(case hj=>exact rfl);(case hb=>exact rfl);(case ht=>exact rfl);(case hag=>exact rfl);(case hs=>exact rfl))|((with_reducible refine' Rs.ct aa0 (m:=0) ?h ?hi ?hj ?hb ?ht ?hag ?hs ?_);(case h=>exact rfl);(case hi=>exact rfl);(case hj=>exact rfl);(case hb=>exact rfl);(case ht=>exact rfl);(case hag=>exact rfl);(case hs=>exact rfl))|((with_reducible refine' Rs.c aa0 (m:=0) ?h ?hj ?hb ?ht ?hag ?hs ?_);(case h=>exact rfl);(case hj=>exact rfl);(case hb=>exact rfl);(case ht=>exact rfl);(case hag=>exact rfl);(case hs=>exact rfl))|((with_reducible refine Br.dt ?h ?_);(case h=>omega))|((with_reducible refine Br.df ?h ?_);(case h=>omega))|((with_reducible refine Br.t ?h ?_);(case h=>assumption))|((with_reducible refine Br.f ?h ?_);(case h=>assumption))|((with_reducible refine Br.t ?h ?_);(case h=>(refine decide_eq_true ?_;omega)))|((with_reducible refine Br.f ?h ?_);(case h=>(refine decide_eq_false ?_;omega))));exact hk7q.run):A:=h ⟨k⟩
theorem sk22 {A B:Prop} (k:B) (h:Hd7 B→A:=by intro hk7q;(first|refine sb21 ?_|refine sb1 ?_|((with_reducible refine' Cp.by ?hc ?_);(case hc=>first|exact ar4 _ 7 (by decide) (by decide)|exact ar4 _ 18 (by decide) (by decide)|exact ar4 _ 17 (by decide) (by decide)|exact ar4 _ 19 (by decide) (by decide)))|((with_reducible refine' CE.pure ?hc ?_);(case hc=>first|exact ar4 _ 7 (by decide) (by decide)|exact ar4 _ 18 (by decide) (by decide)|exact ar4 _ 17 (by decide) (by decide)|exact ar4 _ 19 (by decide) (by decide))));exact hk7q.run):A:=h ⟨k⟩
theorem cl15 {p:Prop} (h:p:=by rw [hwf];unfold aV3;rw [aV2 hsl];simp only [mkD,List.drop_zero];rw [List.take_of_length_le (by simp [hsl])];rfl):p:=h
theorem bH7 (y:List Nat) (hb:y.length=64) (hlt:∀ d∈y,d<256):APure Tryz.prog 184 [slY y] (aV3 (schN y 64)):=by
 refine eP7 Tryz.func184 Tryz.ntmps184 fun BB=>?_
 repeat' first|refine sk22 ?_|(intro b;conv=>whnf)
 rename_i b2
 refine aa5 mixed aa0 (γ:=Nat) (fun t=>[(11,iD t)]) (fun t=>[(b,.cells 293 (wc (schN y t))),(b2,.cells 293 (wc []))]) (fun t=>t≤64) (fun t=>64 - t) 0 (aa2 cl2) (Sc.refl _) (by decide) ?_
 intro t ht
 have hsl:=ax3 y t
 by_cases h64:t<64
 ·by_cases h16:t<16
  ·repeat' first|refine sk22 ?_|(intro b;conv=>whnf)
   refine Ot.yd (aj4 aa0 (l:=4*t) (h:=4*t+4) (ys:=((y.take (4*t+4)).drop (4*t)).map yC) rfl rfl rfl rfl rfl (.inr ⟨_,_,_,rfl,rfl,by omega⟩) (.inr ⟨_,_,_,rfl,rfl,by omega⟩) (by omega) (by simp;omega) (by simp [List.map_take,List.map_drop])) ?_
   repeat' first|refine sk22 ?_|(intro b;conv=>whnf)
   refine aa5 mixed aa0 (γ:=Nat) (fun i=>[(24,iD i)]) (fun i=>[(b,.cells 293 ((wc (schN y t)).set t (wD (acc4 y t i)))),(b2,.cells 293 (wc []))]) (fun i=>i≤4) (fun i=>4 - i) 0 (aa2 cl2) (by rw [show acc4 y t 0=0 from rfl,show (wc (schN y t)).set t (wD 0)=wc (schN y t) by have:=bQ1 (l:=schN y t) (by omega);rwa [hsl] at this];exact Sc.refl _) (by decide) ?_
   intro i hi
   have hql:((y.take (4*t+4)).drop (4*t)).length=4:=by simp;omega
   by_cases hi4:i<4
   ·obtain ⟨d,hd⟩:∃ d,((y.take (4*t+4)).drop (4*t))[((i:Nat):Int).toNat]?=some d:=⟨_,List.getElem?_eq_getElem (by show i<_;omega)⟩
    have hdl:=hlt d (List.mem_of_mem_take (List.mem_of_mem_drop (List.mem_of_getElem? hd)))
    have hnx:=bC3 (t:=t) (i:=i) hd
    have hc:((wc (schN y t)).set t (wD (acc4 y t i)))[t]?=some (wD (acc4 y t i)):=List.getElem?_set_self (by rw [aV4 (by omega)];exact h64)
    repeat' first|refine sk22 ?_|(intro b;conv=>whnf)
    refine Ot.yd (an1 aa0 (m:=t) (q:=t) rfl rfl rfl rfl rfl (by omega) (by omega) (Nat.zero_add _)) ?_;repeat' (first|refine sk22 ?_|(intro b;conv=>whnf))
    refine Ld.cellm (tb:=293) (List.Mem.head _) (hc) ?_;repeat' (first|refine sk22 ?_|(intro b;conv=>whnf))
    refine Ot.yd (aa3 (r:=wV (acc4 y t i <<< 8)) rfl rfl rfl (fun w=>aN8 _ .u64 8 (by decide))) ?_;repeat' (first|refine sk22 ?_|(intro b;conv=>whnf))
    refine Ot.yd (ab5 (m:=(((BitVec.ofNat 32 d).toNat:Nat):Int)) rfl rfl Tryz.underlying5 Tryz.underlying168 (by rw [IntKind.wrap_u32,BitVec.toNat_ofNat];omega)) ?_
    repeat' first|refine sk22 ?_|(intro b;conv=>whnf)
    refine Ot.yd (aa3 (r:=wV (accW (acc4 y t i) d)) rfl rfl rfl (fun w=>bm6 _ _)) ?_;repeat' (first|refine sk22 ?_|(intro b;conv=>whnf))
    refine Ot.yd (an1 aa0 (m:=t) (q:=t) rfl rfl rfl rfl rfl (by omega) (by omega) (Nat.zero_add _)) ?_;repeat' (first|refine sk22 ?_|(intro b;conv=>whnf))
    refine Sv.cellm (List.Perm.refl _) (by rw [List.length_set,aV4 (by omega)];exact h64) rfl (List.set_set _) ?_
    repeat' first|refine sk22 ?_|(intro b;conv=>whnf)
    exact ⟨i+1,(aa2 cl2),by rw [hnx];exact Sc.refl _,by omega,by omega⟩
   ·obtain rfl:i=4:=by omega
    have hn:(wc (schN y t)).set t (wD (acc4 y t 4))=wc (schN y (t+1)):=by have:=aQ0 (l:=schN y t) (by omega) (acc4 y t 4);rw [ce0 hb h16,← this,hsl]
    rw [hn]
    repeat' first|refine sk22 ?_|(intro b;conv=>whnf)
    exact ⟨t+1,(aa2 cl2),Sc.refl _,by omega,by omega⟩
  ·have hg:∀ i,i<t→(wc (schN y t))[i]?=some (wD ((schN y t).getD i 0)):=fun i hi=>bL8 (by omega)
   have hn:=bM6 (b:=y) h16
   have hp:=fun x=>aQ0 (l:=schN y t) (by omega) x
   rw [hsl] at hp
   have hwl:=aV4 (l:=schN y t) (by omega)
   generalize schN y t=l at *
   repeat' first|refine sk22 ?_|(intro b;conv=>whnf)
   refine Ot.yd (an1 aa0 (m:=t - 15) (q:=t - 15) rfl rfl rfl rfl rfl (by omega) (by omega) (Nat.zero_add _)) ?_;repeat' (first|refine sk22 ?_|(intro b;conv=>whnf))
   refine Ld.cellm (tb:=293) (List.Mem.head _) (hg (t - 15) (by omega)) ?_;repeat' (first|refine sk22 ?_|(intro b;conv=>whnf))
   refine Ot.yd (an1 aa0 (m:=t - 2) (q:=t - 2) rfl rfl rfl rfl rfl (by omega) (by omega) (Nat.zero_add _)) ?_;repeat' (first|refine sk22 ?_|(intro b;conv=>whnf))
   refine Ld.cellm (tb:=293) (List.Mem.head _) (hg (t - 2) (by omega)) ?_;repeat' (first|refine sk22 ?_|(intro b;conv=>whnf))
   refine Ot.yd (aa3 (r:=wV (rotR (l.getD (t - 15) 0) 7 ^^^ rotR (l.getD (t - 15) 0) 18)) rfl rfl rfl (fun w=>aj7 _ _)) ?_;repeat' (first|refine sk22 ?_|(intro b;conv=>whnf))
   refine Ot.yd (aa3 (r:=wV (l.getD (t - 15) 0 >>> 3)) rfl rfl rfl (fun w=>aN7 _ .u64 3 (by decide))) ?_;repeat' (first|refine sk22 ?_|(intro b;conv=>whnf))
   refine Ot.yd (aa3 (r:=wV (sml0 (l.getD (t - 15) 0))) rfl rfl rfl (fun w=>aj7 _ _)) ?_;repeat' (first|refine sk22 ?_|(intro b;conv=>whnf))
   refine Ot.yd (aa3 (r:=wV (rotR (l.getD (t - 2) 0) 17 ^^^ rotR (l.getD (t - 2) 0) 19)) rfl rfl rfl (fun w=>aj7 _ _)) ?_;repeat' (first|refine sk22 ?_|(intro b;conv=>whnf))
   refine Ot.yd (aa3 (r:=wV (l.getD (t - 2) 0 >>> 10)) rfl rfl rfl (fun w=>aN7 _ .u64 10 (by decide))) ?_;repeat' (first|refine sk22 ?_|(intro b;conv=>whnf))
   refine Ot.yd (aa3 (r:=wV (sml1 (l.getD (t - 2) 0))) rfl rfl rfl (fun w=>aj7 _ _)) ?_;repeat' (first|refine sk22 ?_|(intro b;conv=>whnf))
   refine Ot.yd (an1 aa0 (m:=t - 16) (q:=t - 16) rfl rfl rfl rfl rfl (by omega) (by omega) (Nat.zero_add _)) ?_;repeat' (first|refine sk22 ?_|(intro b;conv=>whnf))
   refine Ld.cellm (tb:=293) (List.Mem.head _) (hg (t - 16) (by omega)) ?_;repeat' (first|refine sk22 ?_|(intro b;conv=>whnf))
   refine Ot.yd (aa3 (r:=wV (l.getD (t - 16) 0+sml0 (l.getD (t - 15) 0))) rfl rfl rfl (fun w=>ae5 _ _)) ?_;repeat' (first|refine sk22 ?_|(intro b;conv=>whnf))
   refine Ot.yd (an1 aa0 (m:=t - 7) (q:=t - 7) rfl rfl rfl rfl rfl (by omega) (by omega) (Nat.zero_add _)) ?_;repeat' (first|refine sk22 ?_|(intro b;conv=>whnf))
   refine Ld.cellm (tb:=293) (List.Mem.head _) (hg (t - 7) (by omega)) ?_;repeat' (first|refine sk22 ?_|(intro b;conv=>whnf))
   refine Ot.yd (aa3 (r:=wV (l.getD (t - 16) 0+sml0 (l.getD (t - 15) 0)+l.getD (t - 7) 0)) rfl rfl rfl (fun w=>ae5 _ _)) ?_;repeat' (first|refine sk22 ?_|(intro b;conv=>whnf))
   refine Ot.yd (aa3 (r:=wV (l.getD (t - 16) 0+sml0 (l.getD (t - 15) 0)+l.getD (t - 7) 0+sml1 (l.getD (t - 2) 0))) rfl rfl rfl (fun w=>ae5 _ _)) ?_;repeat' (first|refine sk22 ?_|(intro b;conv=>whnf))
   refine Ot.yd (an1 aa0 (m:=t) (q:=t) rfl rfl rfl rfl rfl (by omega) (by omega) (Nat.zero_add _)) ?_;repeat' (first|refine sk22 ?_|(intro b;conv=>whnf))
   refine Sv.cellm (List.Perm.refl _) (by rw [hwl];exact h64) rfl (hp _) ?_
   repeat' first|refine sk22 ?_|(intro b;conv=>whnf)
   exact ⟨t+1,(aa2 cl2),by rw [hn];exact Sc.refl _,by omega,by omega⟩
 ·obtain rfl:t=64:=by omega
  have hwf:=bq5 hsl
  generalize schN y 64=l at *
  repeat' first|refine sk22 ?_|(intro b;conv=>whnf)
  refine Ld.mem (tb:=293) (cs:=wc l) (d:=aV3 l) (List.Mem.head _) (by rw [hwf,List.length_map,hsl];decide) cl15 ?_
  unfold aV3
  repeat' first|refine sk22 ?_|(intro b;conv=>whnf)
  refine Sv.perm (cs':=(List.range 64).map fun i=>wD (l.getD i 0)) (List.Perm.swap _ _ _) rfl (by decide) rfl rfl ?_
  repeat' first|refine sk22 ?_|(intro b;conv=>whnf)
  exact Rt.pure rfl
end
section
open Go
theorem aT9 {l:List Nat} {i d:Nat} (h:l[i]?=some d):l.getD i 0=d:=by rw [List.getD_eq_getElem?_getD,h];rfl
theorem sk23 {A B:Prop} (k:B) (h:Hd7 B→A:=by intro hk7q;(first|refine sb21 ?_|refine sb1 ?_|((with_reducible refine' Cp.by ?hc ?_);(case hc=>first|exact aa9 _ 7 (by decide) (by decide)|exact aa9 _ 18 (by decide) (by decide)|exact aa9 _ 17 (by decide) (by decide)|exact aa9 _ 19 (by decide) (by decide)))|((with_reducible refine' CE.pure ?hc ?_);(case hc=>first|exact aa9 _ 7 (by decide) (by decide)|exact aa9 _ 18 (by decide) (by decide)|exact aa9 _ 17 (by decide) (by decide)|exact aa9 _ 19 (by decide) (by decide))));exact hk7q.run):A:=h ⟨k⟩
theorem bE8 (y:List Nat) (hb:y.length=64) (hlt:∀ d∈y,d<256):APure Tryz.prog 187 [slY y] (aV3 (schN y 64)):=by
 refine eP7 Tryz.func187 Tryz.ntmps187 fun BB=>?_
 repeat' first|refine sk23 ?_|(intro b;conv=>whnf)
 rename_i b2
 refine aa5 mixed aa0 (γ:=Nat) (fun t=>[(4,iD t)]) (fun t=>[(b,.cells 293 (wc (schN y t))),(b2,.cells 293 (wc []))]) (fun t=>t≤16) (fun t=>16 - t) 0 (aa2 cl2) (Sc.refl _) (by decide) ?_
 intro t ht
 have hsl:=ax3 y t
 by_cases h16:t<16
 ·obtain ⟨d0,e0⟩:∃ d,y[(4*(t:Int)).toNat]?=some d:=⟨_,List.getElem?_eq_getElem (by omega)⟩
  obtain ⟨d1,e1⟩:∃ d,y[(4*(t:Int)+1).toNat]?=some d:=⟨_,List.getElem?_eq_getElem (by omega)⟩
  obtain ⟨d2,e2⟩:∃ d,y[(4*(t:Int)+2).toNat]?=some d:=⟨_,List.getElem?_eq_getElem (by omega)⟩
  obtain ⟨d3,e3⟩:∃ d,y[(4*(t:Int)+3).toNat]?=some d:=⟨_,List.getElem?_eq_getElem (by omega)⟩
  have l0:=hlt _ (List.mem_of_getElem? e0)
  have l1:=hlt _ (List.mem_of_getElem? e1)
  have l2:=hlt _ (List.mem_of_getElem? e2)
  have l3:=hlt _ (List.mem_of_getElem? e3)
  have hn:schN y (t+1)=schN y t ++ [bq0 d0 d1 d2 d3]:=by
   rw [schN,if_pos h16,aT9 (d:=d0) (by rw [← e0];congr 1),aT9 (d:=d1) (by rw [← e1];congr 1),aT9 (d:=d2) (by rw [← e2];congr 1),aT9 (d:=d3) (by rw [← e3];congr 1)]
  have hp:=fun x=>aQ0 (l:=schN y t) (by omega) x
  rw [hsl] at hp
  have hwl:=aV4 (l:=schN y t) (by omega)
  generalize schN y t=l at *
  repeat' first|refine sk23 ?_|(intro b;conv=>whnf)
  refine Ot.yd (ab5 (m:=(((BitVec.ofNat 32 d0).toNat:Nat):Int)) rfl rfl Tryz.underlying5 Tryz.underlying168 (by rw [IntKind.wrap_u32,BitVec.toNat_ofNat];omega)) ?_;repeat' (first|refine sk23 ?_|(intro b;conv=>whnf))
  refine Ot.yd (aa3 (r:=wV (BitVec.ofNat 32 d0 <<< 24)) rfl rfl rfl (fun w=>aN8 _ .u64 24 (by decide))) ?_;repeat' (first|refine sk23 ?_|(intro b;conv=>whnf))
  refine Ot.yd (ab5 (m:=(((BitVec.ofNat 32 d1).toNat:Nat):Int)) rfl rfl Tryz.underlying5 Tryz.underlying168 (by rw [IntKind.wrap_u32,BitVec.toNat_ofNat];omega)) ?_;repeat' (first|refine sk23 ?_|(intro b;conv=>whnf))
  refine Ot.yd (aa3 (r:=wV (BitVec.ofNat 32 d1 <<< 16)) rfl rfl rfl (fun w=>aN8 _ .u64 16 (by decide))) ?_;repeat' (first|refine sk23 ?_|(intro b;conv=>whnf))
  refine Ot.yd (aa3 (r:=wV (BitVec.ofNat 32 d0 <<< 24 ||| BitVec.ofNat 32 d1 <<< 16)) rfl rfl rfl (fun w=>bm6 _ _)) ?_;repeat' (first|refine sk23 ?_|(intro b;conv=>whnf))
  refine Ot.yd (ab5 (m:=(((BitVec.ofNat 32 d2).toNat:Nat):Int)) rfl rfl Tryz.underlying5 Tryz.underlying168 (by rw [IntKind.wrap_u32,BitVec.toNat_ofNat];omega)) ?_;repeat' (first|refine sk23 ?_|(intro b;conv=>whnf))
  refine Ot.yd (aa3 (r:=wV (BitVec.ofNat 32 d2 <<< 8)) rfl rfl rfl (fun w=>aN8 _ .u64 8 (by decide))) ?_;repeat' (first|refine sk23 ?_|(intro b;conv=>whnf))
  refine Ot.yd (aa3 (r:=wV (BitVec.ofNat 32 d0 <<< 24 ||| BitVec.ofNat 32 d1 <<< 16 ||| BitVec.ofNat 32 d2 <<< 8)) rfl rfl rfl (fun w=>bm6 _ _)) ?_;repeat' (first|refine sk23 ?_|(intro b;conv=>whnf))
  refine Ot.yd (ab5 (m:=(((BitVec.ofNat 32 d3).toNat:Nat):Int)) rfl rfl Tryz.underlying5 Tryz.underlying168 (by rw [IntKind.wrap_u32,BitVec.toNat_ofNat];omega)) ?_;repeat' (first|refine sk23 ?_|(intro b;conv=>whnf))
  refine Ot.yd (aa3 (r:=wV (BitVec.ofNat 32 d0 <<< 24 ||| BitVec.ofNat 32 d1 <<< 16 ||| BitVec.ofNat 32 d2 <<< 8 ||| BitVec.ofNat 32 d3)) rfl rfl rfl (fun w=>bm6 _ _)) ?_;repeat' (first|refine sk23 ?_|(intro b;conv=>whnf))
  rw [bD1]
  refine Ot.yd (an1 aa0 (m:=t) (q:=t) rfl rfl rfl rfl rfl (by omega) (by omega) (Nat.zero_add _)) ?_;repeat' (first|refine sk23 ?_|(intro b;conv=>whnf))
  refine Sv.cellm (List.Perm.refl _) (by rw [hwl];omega) rfl (hp _) ?_
  repeat' first|refine sk23 ?_|(intro b;conv=>whnf)
  exact ⟨t+1,(aa2 cl2),by rw [hn];exact Sc.refl _,by omega,by omega⟩
 ·obtain rfl:t=16:=by omega
  clear hsl
  repeat' first|refine sk23 ?_|(intro b;conv=>whnf)
  refine aa5 mixed aa0 (γ:=Nat) (fun t=>[(5,iD t)]) (fun t=>[(b,.cells 293 (wc (schN y t))),(b2,.cells 293 (wc []))]) (fun t=>16≤t∧t≤64) (fun t=>64 - t) 16 (aa2 cl2) (Sc.refl _) (by decide) ?_
  rintro t ⟨h16,ht⟩
  have hsl:=ax3 y t
  by_cases h64:t<64
  ·have hg:∀ i,i<t→(wc (schN y t))[i]?=some (wD ((schN y t).getD i 0)):=fun i hi=>bL8 (by omega)
   have hn:=bM6 (b:=y) (t:=t) (by omega)
   have hp:=fun x=>aQ0 (l:=schN y t) (by omega) x
   rw [hsl] at hp
   have hwl:=aV4 (l:=schN y t) (by omega)
   generalize schN y t=l at *
   repeat' first|refine sk23 ?_|(intro b;conv=>whnf)
   refine Ot.yd (an1 aa0 (m:=t - 15) (q:=t - 15) rfl rfl rfl rfl rfl (by omega) (by omega) (Nat.zero_add _)) ?_;repeat' (first|refine sk23 ?_|(intro b;conv=>whnf))
   refine Ld.cellm (tb:=293) (List.Mem.head _) (hg (t - 15) (by omega)) ?_;repeat' (first|refine sk23 ?_|(intro b;conv=>whnf))
   refine Ot.yd (an1 aa0 (m:=t - 15) (q:=t - 15) rfl rfl rfl rfl rfl (by omega) (by omega) (Nat.zero_add _)) ?_;repeat' (first|refine sk23 ?_|(intro b;conv=>whnf))
   refine Ld.cellm (tb:=293) (List.Mem.head _) (hg (t - 15) (by omega)) ?_;repeat' (first|refine sk23 ?_|(intro b;conv=>whnf))
   refine Ot.yd (aa3 (r:=wV (rotR (l.getD (t - 15) 0) 7 ^^^ rotR (l.getD (t - 15) 0) 18)) rfl rfl rfl (fun w=>aj7 _ _)) ?_;repeat' (first|refine sk23 ?_|(intro b;conv=>whnf))
   refine Ot.yd (an1 aa0 (m:=t - 15) (q:=t - 15) rfl rfl rfl rfl rfl (by omega) (by omega) (Nat.zero_add _)) ?_;repeat' (first|refine sk23 ?_|(intro b;conv=>whnf))
   refine Ld.cellm (tb:=293) (List.Mem.head _) (hg (t - 15) (by omega)) ?_;repeat' (first|refine sk23 ?_|(intro b;conv=>whnf))
   refine Ot.yd (aa3 (r:=wV (l.getD (t - 15) 0 >>> 3)) rfl rfl rfl (fun w=>aN7 _ .u64 3 (by decide))) ?_;repeat' (first|refine sk23 ?_|(intro b;conv=>whnf))
   refine Ot.yd (aa3 (r:=wV (sml0 (l.getD (t - 15) 0))) rfl rfl rfl (fun w=>aj7 _ _)) ?_;repeat' (first|refine sk23 ?_|(intro b;conv=>whnf))
   refine Ot.yd (an1 aa0 (m:=t - 2) (q:=t - 2) rfl rfl rfl rfl rfl (by omega) (by omega) (Nat.zero_add _)) ?_;repeat' (first|refine sk23 ?_|(intro b;conv=>whnf))
   refine Ld.cellm (tb:=293) (List.Mem.head _) (hg (t - 2) (by omega)) ?_;repeat' (first|refine sk23 ?_|(intro b;conv=>whnf))
   refine Ot.yd (an1 aa0 (m:=t - 2) (q:=t - 2) rfl rfl rfl rfl rfl (by omega) (by omega) (Nat.zero_add _)) ?_;repeat' (first|refine sk23 ?_|(intro b;conv=>whnf))
   refine Ld.cellm (tb:=293) (List.Mem.head _) (hg (t - 2) (by omega)) ?_;repeat' (first|refine sk23 ?_|(intro b;conv=>whnf))
   refine Ot.yd (aa3 (r:=wV (rotR (l.getD (t - 2) 0) 17 ^^^ rotR (l.getD (t - 2) 0) 19)) rfl rfl rfl (fun w=>aj7 _ _)) ?_;repeat' (first|refine sk23 ?_|(intro b;conv=>whnf))
   refine Ot.yd (an1 aa0 (m:=t - 2) (q:=t - 2) rfl rfl rfl rfl rfl (by omega) (by omega) (Nat.zero_add _)) ?_;repeat' (first|refine sk23 ?_|(intro b;conv=>whnf))
   refine Ld.cellm (tb:=293) (List.Mem.head _) (hg (t - 2) (by omega)) ?_;repeat' (first|refine sk23 ?_|(intro b;conv=>whnf))
   refine Ot.yd (aa3 (r:=wV (l.getD (t - 2) 0 >>> 10)) rfl rfl rfl (fun w=>aN7 _ .u64 10 (by decide))) ?_;repeat' (first|refine sk23 ?_|(intro b;conv=>whnf))
   refine Ot.yd (aa3 (r:=wV (sml1 (l.getD (t - 2) 0))) rfl rfl rfl (fun w=>aj7 _ _)) ?_;repeat' (first|refine sk23 ?_|(intro b;conv=>whnf))
   refine Ot.yd (an1 aa0 (m:=t - 16) (q:=t - 16) rfl rfl rfl rfl rfl (by omega) (by omega) (Nat.zero_add _)) ?_;repeat' (first|refine sk23 ?_|(intro b;conv=>whnf))
   refine Ld.cellm (tb:=293) (List.Mem.head _) (hg (t - 16) (by omega)) ?_;repeat' (first|refine sk23 ?_|(intro b;conv=>whnf))
   refine Ot.yd (aa3 (r:=wV (l.getD (t - 16) 0+sml0 (l.getD (t - 15) 0))) rfl rfl rfl (fun w=>ae5 _ _)) ?_;repeat' (first|refine sk23 ?_|(intro b;conv=>whnf))
   refine Ot.yd (an1 aa0 (m:=t - 7) (q:=t - 7) rfl rfl rfl rfl rfl (by omega) (by omega) (Nat.zero_add _)) ?_;repeat' (first|refine sk23 ?_|(intro b;conv=>whnf))
   refine Ld.cellm (tb:=293) (List.Mem.head _) (hg (t - 7) (by omega)) ?_;repeat' (first|refine sk23 ?_|(intro b;conv=>whnf))
   refine Ot.yd (aa3 (r:=wV (l.getD (t - 16) 0+sml0 (l.getD (t - 15) 0)+l.getD (t - 7) 0)) rfl rfl rfl (fun w=>ae5 _ _)) ?_;repeat' (first|refine sk23 ?_|(intro b;conv=>whnf))
   refine Ot.yd (aa3 (r:=wV (l.getD (t - 16) 0+sml0 (l.getD (t - 15) 0)+l.getD (t - 7) 0+sml1 (l.getD (t - 2) 0))) rfl rfl rfl (fun w=>ae5 _ _)) ?_;repeat' (first|refine sk23 ?_|(intro b;conv=>whnf))
   refine Ot.yd (an1 aa0 (m:=t) (q:=t) rfl rfl rfl rfl rfl (by omega) (by omega) (Nat.zero_add _)) ?_;repeat' (first|refine sk23 ?_|(intro b;conv=>whnf))
   refine Sv.cellm (List.Perm.refl _) (by rw [hwl];exact h64) rfl (hp _) ?_
   repeat' first|refine sk23 ?_|(intro b;conv=>whnf)
   exact ⟨t+1,(aa2 cl2),by rw [hn];exact Sc.refl _,by omega,by omega⟩
  ·obtain rfl:t=64:=by omega
   have hwf:=bq5 hsl
   generalize schN y 64=l at *
   repeat' first|refine sk23 ?_|(intro b;conv=>whnf)
   refine Ld.mem (tb:=293) (cs:=wc l) (d:=aV3 l) (List.Mem.head _) (by rw [hwf,List.length_map,hsl];decide) cl15 ?_
   unfold aV3
   repeat' first|refine sk23 ?_|(intro b;conv=>whnf)
   refine Sv.perm (cs':=(List.range 64).map fun i=>wD (l.getD i 0)) (List.Perm.swap _ _ _) rfl (by decide) rfl rfl ?_
   repeat' first|refine sk23 ?_|(intro b;conv=>whnf)
   exact Rt.pure rfl
end
end Go.Proofs.YtlcfiilejnnlnaaGreatDoor
