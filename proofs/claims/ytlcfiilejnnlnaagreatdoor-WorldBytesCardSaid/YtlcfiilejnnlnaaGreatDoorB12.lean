/- A part of the proof: Xe Xf Xg Xh Bld Shelf SrcP SrcA. -/
import Derived.Test.YtlcfiilejnnlnaaGreatDoorB11
import Derived.Shelf.Abstract
import Derived.WalkKit
import Derived.OwnWalkIn
import Derived.TacticsInMore
import Derived.LoopNIn
import Derived.LoopIn
import Derived.StringKeys
import Derived.Test.YtlcfiilejnnlnaaGreatDoorProg
import Derived.Lib.Builder
import Derived.Lib.AppendStr
import Derived.Lib.UnsafeStr
import Derived.Laws.Externs
import Derived.Maps.AppendAt
import Derived.Shelf.Strings.Builder1
import Derived.Shelf.Strconv.Itoa0
import Derived.Shelf.Strconv.Itoa1
import Derived.Shelf.LaysM
import Derived.Shelf.Strconv.Itoa2
import Derived.Shelf.Strconv.Itoa3
import Derived.Shelf.Bits.Mul64
import Derived.Lib.ItoaLen
import Derived.Lib.LaidTab
set_option maxRecDepth 100000
set_option maxHeartbeats 20000000
set_option linter.unusedVariables false
set_option linter.unusedSimpArgs false
namespace Go.Proofs.YtlcfiilejnnlnaaGreatDoor
section
open Go Go.Maps Go.MapKept
theorem bN1 (n:Int):APure Tryz.prog 102 [iD n] (bD (!numOk n)):=by
 refine eP7 Tryz.func102 Tryz.ntmps102 fun BB=>?_
 repeat' first|refine sk2 ?_|(intro b;conv=>whnf)|(with_reducible refine Br.d (fun hc=>?_) (fun hc=>?_))|(with_reducible refine Br.b (fun hc=>?_) (fun hc=>?_))
 ·refine Rt.pure (congrArg bD ?_);unfold numOk;simp;omega
 ·refine Rt.pure (congrArg bD ?_);unfold numOk;simp;omega
theorem bN9 {f:FuncId} (l:List Int) (p:Int→Bool) (hl:l.length≤1000000) (hp:∀ y∈l,APure Tryz.prog f [iD y] (bD (p y))):APure Tryz.prog 152 [slI l,.v (.func (.func f) #[] #[])] (iD (idx p l)):=by
 refine eP7 Tryz.func152 Tryz.ntmps152 fun BB=>?_
 repeat' first|refine sk47 ?_|(intro b;conv=>whnf)
 refine ad5 mixed aa0 (γ:=Nat) (fun k=>[(8,iD k)]) (fun _=>[]) (fun k=>k≤l.length∧∀ i y,i<k→l[i]?=some y→p y=false) (fun k=>l.length - k) 0 rfl rfl ⟨by omega,by omega⟩ ?_
 rintro k ⟨hk,hno⟩
 by_cases hlt:k<l.length
 ·obtain ⟨y,hy⟩:∃ y,l[(k:Int).toNat]?=some y:=⟨_,List.getElem?_eq_getElem hlt⟩
  repeat' first|refine sk47 ?_|(intro b;conv=>whnf)|(with_reducible refine Br.d (fun hc=>?_) (fun hc=>?_))|(with_reducible refine Br.b (fun hc=>?_) (fun hc=>?_))
  ·refine Rt.pure (congrArg iD ?_)
   exact (ae7 hy ‹_› hno).symm
  ·exact ⟨k+1,rfl,rfl,⟨by omega,fun i z hi hz=>by
    by_cases e:i=k
    ·subst e;rw [show ((i:Int)).toNat=i from rfl,hz] at hy;cases hy;assumption
    ·exact hno i z (by omega) hz⟩,by omega⟩
 ·repeat' first|refine sk47 ?_|(intro b;conv=>whnf)
  refine Rt.pure (congrArg iD ?_)
  exact (al9 fun i y hy=>hno i y (by have:=(List.getElem?_eq_some_iff.1 hy).1;omega) hy).symm
theorem sk78 {A B:Prop} (k:B) (h:Hd7 B→A:=by intro hk7q;(first|refine sb0 ?_|refine sb1 ?_|((with_reducible refine' Cp.by ?hc ?_);(case hc=>exact bN9 l p hl hp))|((with_reducible refine' CE.pure ?hc ?_);(case hc=>exact bN9 l p hl hp)));exact hk7q.run):A:=h ⟨k⟩
theorem bB7 {f:FuncId} (l:List Int) (p:Int→Bool) (hl:l.length≤1000000) (hp:∀ y∈l,APure Tryz.prog f [iD y] (bD (p y))):APure Tryz.prog 101 [slI l,.v (.func (.func f) #[] #[])] (bD (l.any p)):=by
 refine eP7 Tryz.func101 Tryz.ntmps101 fun BB=>?_
 repeat' first|refine sk78 ?_|(intro b;conv=>whnf)
 refine Rt.pure (congrArg bD ?_)
 exact ap1 p l
theorem sk79 {A B:Prop} (k:B) (h:Hd7 B→A:=by intro hk7q;(first|refine sb0 ?_|refine sb1 ?_|((with_reducible refine' Cp.by ?hc ?_);(case hc=>exact bB7 _ _ (by assumption) (fun y _=>bN1 y)))|((with_reducible refine' CE.pure ?hc ?_);(case hc=>exact bB7 _ _ (by assumption) (fun y _=>bN1 y))));exact hk7q.run):A:=h ⟨k⟩
theorem ch0 (x:Sch) (k:Nat) (kd:Knd) (r:List Int) (hk:x.kinds[k]?=some kd) (h1:x.kinds.length≤1000000) (h2:r.length≤1000000):APure Tryz.prog 100 [slI r,.ro (schC x),.ro [iD k]] (bD (!recOk x k r)):=by
 have hk':x.kinds[((k:Nat):Int).toNat]?=some kd:=hk
 have q1:=(List.getElem?_eq_some_iff.1 hk).1
 have hE:(r.any fun n=>!numOk n)=!r.all numOk:=by rw [List.all_eq_not_any_not];simp
 have hR:recOk x k r=(decide (r.length=kd.fields.length) && r.all numOk):=by unfold recOk bV0;rw [hk]
 refine eP7 Tryz.func100 Tryz.ntmps100 fun BB=>?_
 by_cases hl:r.length=kd.fields.length
 ·repeat' first|refine sk79 ?_|(intro b;conv=>whnf)
  refine Rt.pure (congrArg bD ?_);rw [hR,hE];simp [hl]
 ·repeat' first|refine sk79 ?_|(intro b;conv=>whnf)
  refine Rt.pure (congrArg bD ?_);rw [hR];simp [hl]
theorem cj2 {f:FuncId} {c1 c2:List D} (l:List (List Int)) (p:List Int→Bool) (hl:l.length≤1000000) (hp:∀ y∈l,APure Tryz.prog f [slI y,.ro c1,.ro c2] (bD (p y))):APure Tryz.prog 151 [slW1 l,.clo f [.ro c1,.ro c2]] (iD (idx p l)):=by
 refine eP7 Tryz.func151 Tryz.ntmps151 fun BB=>?_
 repeat' first|refine sk47 ?_|(intro b;conv=>whnf)
 refine ad5 mixed aa0 (γ:=Nat) (fun k=>[(8,iD k)]) (fun _=>[]) (fun k=>k≤l.length∧∀ i y,i<k→l[i]?=some y→p y=false) (fun k=>l.length - k) 0 rfl rfl ⟨by omega,by omega⟩ ?_
 rintro k ⟨hk,hno⟩
 by_cases hlt:k<l.length
 ·obtain ⟨y,hy⟩:∃ y,l[(k:Int).toNat]?=some y:=⟨_,List.getElem?_eq_getElem hlt⟩
  repeat' first|refine sk47 ?_|(intro b;conv=>whnf)|(with_reducible refine Br.d (fun hc=>?_) (fun hc=>?_))|(with_reducible refine Br.b (fun hc=>?_) (fun hc=>?_))
  ·refine Rt.pure (congrArg iD ?_)
   exact (ae7 hy ‹_› hno).symm
  ·exact ⟨k+1,rfl,rfl,⟨by omega,fun i z hi hz=>by
    by_cases e:i=k
    ·subst e;rw [show ((i:Int)).toNat=i from rfl,hz] at hy;cases hy;assumption
    ·exact hno i z (by omega) hz⟩,by omega⟩
 ·repeat' first|refine sk47 ?_|(intro b;conv=>whnf)
  refine Rt.pure (congrArg iD ?_)
  exact (al9 fun i y hy=>hno i y (by have:=(List.getElem?_eq_some_iff.1 hy).1;omega) hy).symm
theorem sk80 {A B:Prop} (k:B) (h:Hd7 B→A:=by intro hk7q;(first|refine sb0 ?_|refine sb1 ?_|((with_reducible refine' Cp.by ?hc ?_);(case hc=>exact cj2 l p hl hp))|((with_reducible refine' CE.pure ?hc ?_);(case hc=>exact cj2 l p hl hp)));exact hk7q.run):A:=h ⟨k⟩
theorem cm0 {f:FuncId} {c1 c2:List D} (l:List (List Int)) (p:List Int→Bool) (hl:l.length≤1000000) (hp:∀ y∈l,APure Tryz.prog f [slI y,.ro c1,.ro c2] (bD (p y))):APure Tryz.prog 99 [slW1 l,.clo f [.ro c1,.ro c2]] (bD (l.any p)):=by
 refine eP7 Tryz.func99 Tryz.ntmps99 fun BB=>?_
 repeat' first|refine sk80 ?_|(intro b;conv=>whnf)
 refine Rt.pure (congrArg bD ?_)
 exact ap1 p l
/-! ### The life cycles,backward -/
theorem bU1 (l:List Lif):APure Tryz.prog 103 [slL l] (.clo 153 [.ro [slL l]]):=by
 refine eP7 Tryz.func103 Tryz.ntmps103 fun BB=>?_
 repeat' first|refine sk2 ?_|(intro b;conv=>whnf)
 exact Rt.pure rfl
end
section
open Go Go.RowKit Go.Shelf
attribute [local go_sem] Oper.semAt_some
theorem bZ4 (n:Nat) (hn:n≤1000) (l:Nat) (O:Nat→Prop) (J Jx:Nat→World→Prop) (W:World) (b0 o0:Nat) (ad:Option Addr) (cap:Nat) (va:Nat→Nat→Value)
  (h0b:¬ O b0∧b0<W.heap.size) (h0:W.cell? ⟨b0,o0,none⟩=some (.slice ad n cap))
  (h1:∀ (k:Nat),k<n→∃ b off,ad=some ⟨b,off,none⟩∧¬ O b∧b<W.heap.size∧∀ j,j<3→W.cell? ⟨b,off+k*3+j,none⟩=some (va k j))
  (hY:∀ (k j:Nat) W1,k+j+1=n→J k W1→YieldAt Fence.wide 7 Tryz.prog l #[.int .i64 (j:Nat),.agg #[va j 0,va j 1,va j 2]] W1 fun e W'=>
    (e = .returned (.bool true)∧J (k+1) W'∧W1.heap.size≤W'.heap.size∧∀ b,b<W.heap.size→¬ O b→W'.heap[b]?=W1.heap[b]?)∨(e = .returned (.bool false)∧Jx (k+1) W'))
  (hJ:J 0 W):CallsIn Fence.wide 8 Tryz.prog 153 #[.func (.yield l) #[] #[],.pointer (some ⟨b0,o0,none⟩)] W fun e W'=>∃ v,e = .returned v∧(J n W'∨∃ k,Jx k W'):=by
 refine callsIn_of_wp Tryz.func153 rfl trivial ?_ rfl
 simp only [Tryz.ntmps153,List.size_toArray,List.length_cons,List.length_nil,Nat.reduceAdd,Nat.reduceSub,Array.replicate_succ,Array.replicate_zero,List.push_toArray,List.append_toArray,List.nil_append,List.cons_append]
 have cellK:∀ (wr:World),(∀ b,b<W.heap.size→¬ O b→wr.heap[b]?=W.heap[b]?)→∀ (b o:Nat) (v:Value),b<W.heap.size→¬ O b→W.cell? ⟨b,o,none⟩=some v→wr.cell? ⟨b,o,none⟩=some v:=
  fun wr h b o v hb hn hc=>(World.cell?_of_block (w:=W) (a:=⟨b,o,none⟩) (h b hb hn)).trans hc
 gi_wp2
 gi_loopw [3] (fun i wr=>∃ k:Nat,((∃ j:Nat,k+j+1=n∧i = .int .i64 j)∨(k=n∧i = .int .i64 (-1)))∧J k wr∧W.heap.size≤wr.heap.size∧∀ b,b<W.heap.size→¬ O b→wr.heap[b]?=W.heap[b]?) (fun i _=>(intOf i+1).toNat)
 case atStart=>
  refine ⟨0,?_,hJ,Nat.le_refl _,fun _ _ _=>rfl⟩
  rcases Nat.eq_zero_or_pos n with e|e
  ·exact .inr ⟨e.symm,by subst e;rfl⟩
  ·exact .inl ⟨n - 1,by omega,by congr 1;omega⟩
 case round=>
  obtain ⟨k,hi,hJs,hzs,hks⟩:=hrel
  rcases hi with ⟨j,hj,rfl⟩|⟨rfl,rfl⟩
  ·obtain ⟨b,off,rfl,hb1,hb2,hb3⟩:=h1 j (by omega)
   have hs0:=cellK wr hks b0 o0 _ h0b.2 h0b.1 h0
   have hc0:wr.cell? ⟨b,off+j*3,none⟩=some (va j 0):=cellK wr hks b (off+j*3+0) _ hb2 hb1 (hb3 0 (by omega))
   have hc1:=cellK wr hks b (off+j*3+1) _ hb2 hb1 (hb3 1 (by omega))
   have hc2:=cellK wr hks b (off+j*3+2) _ hb2 hb1 (hb3 2 (by omega))
   obtain ⟨fn,tmps,assign,body,hy,hR⟩:=hY k j wr hj hJs
   gi_wp2
   refine hR.mono ?_
   rintro e W3 (⟨rfl,hJ3,hz3,hk3⟩|⟨rfl,hJx3⟩)
   ·gi_wp2
    go_roundw
    case rel=>
     refine ⟨k+1,?_,hJ3,Nat.le_trans hzs hz3,fun b hb hn=>(hk3 b hb hn).trans (hks b hb hn)⟩
     rcases Nat.eq_zero_or_pos j with e|e
     ·exact .inr ⟨by omega,by subst e;rfl⟩
     ·exact .inl ⟨j - 1,by omega,by congr 1;omega⟩
    case measure=>simp [intOf]
   ·gi_wp2
    refine bodyPost_ret (results_none rfl _ _ _) rfl ?_
    exact ⟨_,rfl,.inr ⟨_,hJx3⟩⟩
  ·gi_wp2
   go_end0
   exact ⟨_,rfl,.inl hJs⟩
def ck9 (l:List Lif) (j:Nat):List D:=match l[j]? with
 | some x=>[iD j,lifD x]
 | none=>[]
def bb0 (l:List Lif):List (List D):=((List.range l.length).reverse).map (ck9 l)
theorem aM0 (l:List Lif):(bb0 l).length=l.length:=by simp [bb0]
theorem aM1 {l:List Lif} {k:Nat} {x:List D} (h:(bb0 l)[k]?=some x):∃ (j:Nat) (y:Lif),k+j+1=l.length∧l[j]?=some y∧x=[iD j,lifD y]:=by
 have hk:=(List.getElem?_eq_some_iff.1 h).1
 rw [aM0] at hk
 unfold bb0 at h
 rw [List.getElem?_map,List.getElem?_reverse (by simpa using hk),List.length_range,List.getElem?_range (by omega)] at h
 simp only [Option.map_some,Option.some.injEq] at h
 obtain ⟨y,hy⟩:∃ y,l[l.length - 1 - k]?=some y:=⟨_,List.getElem?_eq_getElem (by omega)⟩
 exact ⟨l.length - 1 - k,y,by omega,hy,by rw [← h];unfold ck9;rw [hy]⟩
theorem bA4 (l:List Lif) (hl:l.length≤1000):cb2 Tryz.prog 153 [.ro [slL l]] (bb0 l):=by
 refine ⟨enters_of Tryz.func153 (by kernel_rfl) rfl,fun O W lb hlb=>?_⟩
 cases lb with
 | nil=>have:=hlb.len;simp at this
 | cons u lb=>
  have:lb=[]:=by have:=hlb.len;simpa using this
  subst this
  obtain ⟨b0,o0,va0,rfl,g1,g2,g3,g4⟩:=(hlb.at_ 0 _ u rfl rfl).ro_inv
  obtain ⟨ad,cap,va,e1,hcap,hk1,hc1,hr1⟩:=(g4 0 _ rfl).sl_inv
  have hcell:=g3 0 (by simp)
  rw [e1,List.length_map] at hcell
  refine ⟨((List.range l.length).reverse).map fun j=>[.int .i64 (j:Nat),.agg #[va j 0,va j 1,va j 2]],by simp [bb0],fun k x vs hx hv=>?_,fun q J Jx hJs hJxs hY hJ=>?_⟩
  ·obtain ⟨j,y,h1,h2,rfl⟩:=aM1 hx
   have hkl:k<l.length:=by omega
   rw [List.getElem?_map,List.getElem?_reverse (by simpa using hkl),List.length_range,List.getElem?_range (by omega)] at hv
   simp only [Option.map_some,Option.some.injEq] at hv
   have hj:l.length - 1 - k=j:=by omega
   rw [hj] at hv
   subst hv
   have hy:(l.map lifC)[j]?=some (lifC y):=by rw [List.getElem?_map,h2];rfl
   refine .cons (.v _) (.cons (Rd.agg (lifC y) [va j 0,va j 1,va j 2] rfl fun i d u q1 q2=>?_) .nil)
   match i,q1,q2 with
   | 0,q1,q2=>cases q2;exact hr1 j _ hy 0 d q1
   | 1,q1,q2=>cases q2;exact hr1 j _ hy 1 d q1
   | 2,q1,q2=>cases q2;exact hr1 j _ hy 2 d q1
   | i+3,q1,q2=>simp at q2
  ·refine CallsIn.mono (bZ4 l.length hl q O J Jx W b0 o0 ad cap va ⟨g1,g2⟩ (by simpa using hcell) (fun k hk=>?_) (fun k j W1 hkj hJ1=>hY k _ W1 ?_ hJ1) hJ) (fun e W' h=>by rw [aM0];simpa using h)
   ·obtain ⟨b,off,ha,q1,q2,q3⟩:=hc1 k (lifC l[k]) (by rw [List.getElem?_map,List.getElem?_eq_getElem hk];rfl)
    exact ⟨b,off,ha,q1,q2,q3⟩
   ·rw [List.getElem?_map,List.getElem?_reverse (by simp;omega),List.length_range,List.getElem?_range (by omega)]
    simp only [Option.map_some,Option.some.injEq]
    rw [show l.length - 1 - k=j by omega]
end
section
open Go Go.Maps Go.MapKept
theorem bY8 {α:Type} {l:List α} {i:Nat} {a:α} (h:l[i]?=some a):l.drop i=a :: l.drop (i+1):=by
 obtain ⟨h1,rfl⟩:=List.getElem?_eq_some_iff.1 h
 exact List.drop_eq_getElem_cons h1
/-! ### Which worlds fit -/
theorem bI3 {x:Sch} {w:Wd} (h:w.length≠x.kinds.length):fitW x w=false:=by simp [fitW,h]
theorem bl1 {x:Sch} {w:Wd} {k:Nat} {l:List (List Int)} (hk:w[k]?=some l) (h:ar3 x k l=false):fitW x w=false:=by
 unfold fitW
 have:(List.range w.length).all (fun k=>ar3 x k (w.getD k []))=false:=by
  rw [List.all_eq_false]
  exact ⟨k,List.mem_range.2 (List.getElem?_eq_some_iff.1 hk).1,by rw [ae8 hk,h];simp⟩
 rw [this];simp
theorem bl2 {x:Sch} {w:Wd} {r:Rf} (hr:r∈ab8 x) {l:List (List Int)} (hl:w[r.kind]?=some l) {y:List Int} (hy:y∈l) (h:aG0 w r y=false):fitW x w=false:=by
 unfold fitW
 have:(ab8 x).all (fun r=>(w.getD r.kind []).all (aG0 w r))=false:=by
  rw [List.all_eq_false]
  refine ⟨r,hr,?_⟩
  rw [ae8 hl,Bool.not_eq_true,List.all_eq_false]
  exact ⟨y,hy,by rw [h];simp⟩
 rw [this];simp
theorem bI2 {x:Sch} {w:Wd} (h1:w.length=x.kinds.length) (h2:∀ (k:Nat) l,w[k]?=some l→ar3 x k l=true) (h3:∀ r∈ab8 x,∀ l,w[r.kind]?=some l→∀ y∈l,aG0 w r y=true):fitW x w=true:=by
 unfold fitW
 simp only [Bool.and_eq_true,decide_eq_true_eq,List.all_eq_true]
 refine ⟨⟨h1,fun k hk=>?_⟩,fun r hr y hy=>?_⟩
 ·obtain ⟨l,hl⟩:∃ l,w[k]?=some l:=⟨_,List.getElem?_eq_getElem (List.mem_range.1 hk)⟩
  rw [ae8 hl];exact h2 k l hl
 ·cases hl:w[r.kind]? with
  | none=>rw [List.getD_eq_getElem?_getD,hl] at hy;cases hy
  | some l=>rw [ae8 hl] at hy;exact h3 r hr l hl y hy
theorem aR1 {x:Sch} {k:Nat} {l:List (List Int)} (h:ar3 x k l=true):l.length≤512∧∀ y∈l,recOk x k y=true:=by
 unfold ar3 at h
 simp only [Bool.and_eq_true,decide_eq_true_eq,List.all_eq_true] at h
 exact h
theorem bd7 {x:Sch} {k:Nat} {kd:Knd} {y:List Int} (hk:x.kinds[k]?=some kd) (h:recOk x k y=true):y.length=kd.fields.length∧∀ n∈y,-1099511627776≤n∧n≤1099511627776:=by
 unfold recOk bV0 at h
 rw [hk] at h
 simp only [Bool.and_eq_true,decide_eq_true_eq,List.all_eq_true] at h
 refine ⟨h.1,fun n hn=>?_⟩
 have:=h.2 n hn
 unfold numOk at this
 simp only [Bool.not_eq_true',Bool.or_eq_false_iff,decide_eq_false_iff_not] at this
 omega
def ckL (x:Sch) (w:Wd) (d:D) (rm lm:Nat):List D:=[iD x.version,slK x.kinds,slL x.lives,slR x.rules,slW w,d,.v (.map (some rm)),.v (.map (some lm)),.v (.slice none 0 0)]
theorem ck6 (x:Sch) (w:Wd) (L:List Rf) (rm lm:Nat):ckL x w (slLn L) rm lm=ckC x w L rm lm (.slice none 0 0):=rfl
def NewS (x:Sch) (w:Wd) (d:D) (σ:aa1):Prop:=∃ (c rm lm:Nat) (F:Value→Option Value) (sa:aa1),d = .tup [.v (.pointer (some ⟨c,0,none⟩)),iD 0]∧σ=(c,.cells 145 (ckC x w (ab8 x) rm lm (.slice none 0 0))) :: (rm,.obj (MapO Tryz.prog 147 F)) :: (lm,.mp Tryz.prog 9 (lvG x.lives)) :: sa∧AdjS w F (ab8 x) sa
def NewR (x:Sch) (w:Wd) (d:D) (σ:aa1):Prop:=(fitW x w=false∧d = .tup [.v (.pointer none),iD 2]∧σ=[])∨(fitW x w=true∧NewS x w d σ)
theorem sk81 {A B:Prop} (k:B) (h:Hd7 B→A:=by intro hk7q;(first|refine sb0 ?_|refine sb1 ?_|((with_reducible refine' Cp.by ?hc ?_);(case hc=>first|exact HC))|((with_reducible refine' CE.pure ?hc ?_);(case hc=>first|exact HC)));exact hk7q.run):A:=h ⟨k⟩
theorem cf2 (a b c d e:Nat × Blk) (s:aa1):(a :: b :: c :: d :: e :: s).Perm (s ++ [a,b,c,d,e]):=List.perm_append_comm (l₁:=[a,b,c,d,e]) (l₂:=s)
theorem cf1 (a b c d e:Nat × Blk) (s:aa1):(s ++ [a,b,c,d,e]).Perm (a :: b :: c :: d :: e :: s):=(cf2 a b c d e s).symm
theorem bA5 {l:List Lif} {y:List D} (h:y∈bb0 l):y.length=2:=by
 obtain ⟨k,hk⟩:=List.getElem?_of_mem h
 obtain ⟨j,z,_,_,rfl⟩:=aM1 hk
 rfl
theorem bw4 {l:Lif} (h:al7 l=true):l.name.size≤1000:=by
 simp only [al7,Bool.and_eq_true] at h
 have:=h.1.1.1.1
 simp only [isNm,ac1,Bool.and_eq_true,decide_eq_true_eq] at this
 omega
theorem sk82 {A B:Prop} (k:B) (h:Hd7 B→A:=by intro hk7q;(first|refine sb0 ?_|refine sb1 ?_|((with_reducible refine' Cp.by ?hc ?_);(case hc=>first|exact HC|exact aM4 _ _ _ (by assumption) (by assumption)|exact HB))|((with_reducible refine' CE.pure ?hc ?_);(case hc=>first|exact HC|exact aM4 _ _ _ (by assumption) (by assumption)|exact HB)));exact hk7q.run):A:=h ⟨k⟩
theorem sk83 {A B:Prop} (k:B) (h:Hd7 B→A:=by intro hk7q;(first|refine sb0 ?_|refine sb6 ?_|((with_reducible refine' Cp.by ?hc ?_);(case hc=>first|exact HC|exact aM4 _ _ _ (by assumption) (by assumption)|exact HB))|((with_reducible refine' CE.pure ?hc ?_);(case hc=>first|exact HC|exact aM4 _ _ _ (by assumption) (by assumption)|exact HB)));exact hk7q.run):A:=h ⟨k⟩
theorem cl17 {p:Prop} (h:p:=by refine ac9 fun a=>?_;have e1:=ai0 p0 a;simp only [List.append_eq,List.nil_append,ad1,af7,af6] at e1 ⊢;omega):p:=h
theorem cl18 {p:Prop} (h:p:=by refine ac9 fun a=>?_;simp only [List.append_eq,List.nil_append,ad1,af7,af6];omega):p:=h
theorem ch1 (x:Sch) (w:Wd) (hw:Ws w) (hp:aA9 x=[]) (HV:APure Tryz.prog 143 [schD x] (iD (ak7 x))):ACall Tryz.prog 58 [schD x,slW w] [] (NewR x w):=by
 have HC:=bD5 x HV
 rw [hp] at HC
 have hS:=bM4 hp
 have hV:=hS.vld
 have hnk:=hV.nk
 have hnf:=hV.nf
 have hwl:=hw.nk
 have hl6:x.kinds.length≤1000000:=by omega
 have hf6:∀ k∈x.kinds,k.fields.length≤1000000:=fun k hk=>by have:=hnf k hk;omega
 have hrl:=bi9 hV
 refine eC7 Tryz.func58 Tryz.ntmps58 fun BB=>?_
 repeat' first|refine sk82 ?_|(intro b;conv=>whnf)
 refine OtE.makeMap (k:=147) rfl (fun rm=>?_)
 repeat' first|refine sk82 ?_|(intro b;conv=>whnf)
 refine OtE.makeMapM (k:=9) rfl (fun lm=>?_)
 repeat' first|refine sk83 ?_|(intro b;conv=>whnf)
 refine Bx.r ?_
 refine OtE.box (t:=145) rfl rfl (fun c=>?_)
 by_cases hlen:w.length=x.kinds.length
 ·repeat' first|refine sk82 ?_|(intro b;conv=>whnf)
  refine aB6 (i:=7) (d:=.v (.pointer (some ⟨b,0,none⟩))) (d':=.ro [.v (.pointer (some ⟨c,0,none⟩))]) (τ:=[(c,.cells 145 (ckL x w (.v (.slice none 0 0)) rm lm)),(lm,.mp Tryz.prog 9 fun _=>none),(rm,.obj (MapO Tryz.prog 147 fun _=>none))]) rfl (fun h=>by cases h) (Vs.ptr (tb:=121) (List.Perm.refl _)) ?_
  refine aa5 mixed aa0 (γ:=Nat × Value × aa1) (fun g=>[(45,iD g.1)]) (fun g=>(c,.cells 145 (ckL x w (.v g.2.1) rm lm)) :: (lm,.mp Tryz.prog 9 fun _=>none) :: (rm,.obj (MapO Tryz.prog 147 fun _=>none)) :: g.2.2) (fun g=>g.1≤x.kinds.length∧RowIs 147 3 ((upTo g.1 (refK x)).map lnC) g.2.1 g.2.2) (fun g=>x.kinds.length - g.1) (0,.slice none 0 0,[]) (aa2 cl7) (Sc.refl _) ⟨Nat.zero_le _,RowIs.nil _ _⟩ ?_
  rintro ⟨k,v,s⟩ ⟨hk,hrow⟩
  simp only at hk hrow ⊢
  by_cases hkl:k<x.kinds.length
  ·obtain ⟨kd,hkd⟩:∃ y,x.kinds[k]?=some y:=⟨_,List.getElem?_eq_getElem hkl⟩
   have hkd':x.kinds[((k:Nat):Int).toNat]?=some kd:=hkd
   have hfl:=hnf kd (List.mem_of_getElem? hkd)
   have hSK:=ag4 k (refK x)
   have hRK:refK x k=upTo kd.fields.length (refF x k kd):=by unfold refK;rw [hkd]
   repeat' first|refine sk82 ?_|(intro b;conv=>whnf)
   refine aa5 mixed aa0 (γ:=Nat × Value × aa1) (fun g=>[(53,iD g.1)]) (fun g=>(b,.cells 85 (kndC kd)) :: (c,.cells 145 (ckL x w (.v g.2.1) rm lm)) :: (lm,.mp Tryz.prog 9 fun _=>none) :: (rm,.obj (MapO Tryz.prog 147 fun _=>none)) :: g.2.2) (fun g=>g.1≤kd.fields.length∧RowIs 147 3 ((upTo k (refK x) ++ upTo g.1 (refF x k kd)).map lnC) g.2.1 g.2.2) (fun g=>kd.fields.length - g.1) (0,v,s) (aa2 cl7) (Sc.refl _) ⟨Nat.zero_le _,by simpa [upTo] using hrow⟩ ?_
   clear hrow
   rintro ⟨f,v,s⟩ ⟨hf,hrow⟩
   simp only at hf hrow ⊢
   by_cases hfl2:f<kd.fields.length
   ·obtain ⟨g,hg⟩:∃ y,kd.fields[f]?=some y:=⟨_,List.getElem?_eq_getElem hfl2⟩
    have hg':kd.fields[((f:Nat):Int).toNat]?=some g:=hg
    have hSF:=ag4 f (refF x k kd)
    have hlen1:=ad9 (fun k=>bj1 x k (fun k hk=>by have:=hnf k hk;omega)) k
    have hlen2:=ad9 (bj2 x k kd) f
    by_cases h1:g.kind=1
    ·have hRF:refF x k kd f=[⟨k,f,upIx x k f,g.lo⟩]:=by unfold refF;rw [hg];simp [h1]
     rw [hRF] at hSF
     repeat' first|refine sk82 ?_|(intro b;conv=>whnf)
     refine Ap.go rfl rfl rfl rfl hrow (cf2 _ _ _ _ _ _) rfl (zs:=(upTo k (refK x) ++ upTo (f+1) (refF x k kd)).map lnC) (by rw [hSF];simp only [List.map_append,List.map_cons,List.map_nil,List.append_assoc];rfl) (by rw [hSF];simp;omega) (by rw [hSF];simp;omega) (fun s'=>_ :: _ :: _ :: _ :: _ :: s') (cf1 _ _ _ _ _) (fun a' c' s' hr'=>?_)
     repeat' first|refine sk82 ?_|(intro b;conv=>whnf)
     exact ⟨(f+1,_,s'),(aa2 cl7),Sc.sl (List.sublist_cons_self _ _),⟨by simp only;omega,hr'⟩,by simp only;omega⟩
    ·have hRF:refF x k kd f=[]:=by unfold refF;rw [hg];simp [h1]
     rw [hRF,List.append_nil] at hSF
     repeat' first|refine sk82 ?_|(intro b;conv=>whnf)
     exact ⟨(f+1,v,s),(aa2 cl7),Sc.sl (List.sublist_cons_self _ _),⟨by simp only;omega,by rw [hSF];exact hrow⟩,by simp only;omega⟩
   ·obtain rfl:f=kd.fields.length:=by omega
    repeat' first|refine sk82 ?_|(intro b;conv=>whnf)
    exact ⟨(k+1,v,s),(aa2 cl7),Sc.sl (List.sublist_cons_self _ _),⟨by simp only;omega,by rw [hSK,hRK];exact hrow⟩,by simp only;omega⟩
  ·obtain rfl:k=x.kinds.length:=by omega
   change RowIs 147 3 ((ab8 x).map lnC) v s at hrow
   repeat' first|refine sk82 ?_|(intro b;conv=>whnf)
   refine bN3 (τ:=(c,.cells 145 (ckL x w (slLn (ab8 x)) rm lm)) :: (lm,.mp Tryz.prog 9 fun _=>none) :: (rm,.obj (MapO Tryz.prog 147 fun _=>none)) :: []) ((Sc.perm (List.Perm.cons _ (List.perm_append_comm (l₁:=[_,_]) (l₂:=s)))).trans (Sc.frz (j:=5) rfl hrow (LeR.refl _))) ?_
   clear hrow
   refine aa5 mixed aa0 (γ:=Nat) (fun g=>[(81,iD g)]) (fun _=>(c,.cells 145 (ckL x w (slLn (ab8 x)) rm lm)) :: (lm,.mp Tryz.prog 9 fun _=>none) :: (rm,.obj (MapO Tryz.prog 147 fun _=>none)) :: []) (fun g=>g≤w.length∧∀ (k:Nat) l,k<g→w[k]?=some l→ar3 x k l=true) (fun g=>w.length - g) 0 (aa2 cl7) (Sc.refl _) ⟨Nat.zero_le _,fun k l h=>by omega⟩ ?_
   rintro k ⟨hk,hno⟩
   by_cases hkl:k<w.length
   ·obtain ⟨l,hl⟩:∃ l,w[k]?=some l:=⟨_,List.getElem?_eq_getElem hkl⟩
    have hl':w[((k:Nat):Int).toNat]?=some l:=hl
    obtain ⟨kd,hkd⟩:∃ y,x.kinds[k]?=some y:=⟨_,List.getElem?_eq_getElem (by omega)⟩
    have hll:=hw.nr l (List.mem_of_getElem? hl)
    have hlf:=hw.nf l (List.mem_of_getElem? hl)
    have HR:APure Tryz.prog 99 [slW1 l,.clo 100 [.ro (schC x),.ro [iD k]]] (bD (l.any fun r=>!recOk x k r)):=cm0 l _ (by omega) (fun y hy=>ch0 x k kd y hkd hl6 (by have:=hlf y hy;omega))
    have hany:(l.any fun r=>!recOk x k r)=!(l.all (recOk x k)):=by rw [List.all_eq_not_any_not];simp
    by_cases h5:512<l.length
    ·have hb:ar3 x k l=false:=by unfold ar3;rw [decide_eq_false (by omega)];rfl
     repeat' first|refine sk82 ?_|(intro b;conv=>whnf)
     exact Rt.by (Vs.drop (List.nil_sublist _)) (.inl ⟨bl1 hl hb,rfl,rfl⟩)
    ·repeat' first|refine sk82 ?_|(intro b;conv=>whnf)
     refine CE.pk (APk.peek (.cons (Pk.same _) (.cons (Pk.clo (.cons (Pk.same _) (.cons (Pk.ptr (j:=0) rfl (PkL.refl _)) .nil))) .nil)) HR rfl) ?_
     clear HR
     rw [hany]
     have hro:ar3 x k l=l.all (recOk x k):=by unfold ar3;rw [decide_eq_true (by omega)];rfl
     cases hall:l.all (recOk x k) with
     | true=>
      repeat' first|refine sk82 ?_|(intro b;conv=>whnf)
      refine ⟨k+1,(aa2 cl7),Sc.sl (List.sublist_cons_self _ _),⟨by omega,fun k' l' hk' hl2=>?_⟩,by omega⟩
      by_cases e:k'=k
      ·subst e;cases hl.symm.trans hl2;rw [hro];exact hall
      ·exact hno k' l' (by omega) hl2
     | false=>
      repeat' first|refine sk82 ?_|(intro b;conv=>whnf)
      exact Rt.by (Vs.drop (List.nil_sublist _)) (.inl ⟨bl1 hl (hro.trans hall),rfl,rfl⟩)
   ·obtain rfl:k=w.length:=by omega
    have hrows:∀ (k:Nat) l,w[k]?=some l→ar3 x k l=true:=fun k l h=>hno k l (List.getElem?_eq_some_iff.1 h).1 h
    clear hno
    repeat' first|refine sk82 ?_|(intro b;conv=>whnf)
    refine aa5 mixed aa0 (γ:=Nat × (Value→Option Value) × aa1) (fun g=>[(100,iD g.1)]) (fun g=>(c,.cells 145 (ckL x w (slLn (ab8 x)) rm lm)) :: (lm,.mp Tryz.prog 9 fun _=>none) :: (rm,.obj (MapO Tryz.prog 147 g.2.1)) :: g.2.2) (fun g=>g.1≤(ab8 x).length∧AdjS w g.2.1 ((ab8 x).take g.1) g.2.2∧∀ (q:Nat) r l,q<g.1→(ab8 x)[q]?=some r→w[r.kind]?=some l→∀ y∈l,aG0 w r y=true) (fun g=>(ab8 x).length - g.1) (0,(fun _=>none),[]) (aa2 cl7) (Sc.refl _) ⟨Nat.zero_le _,AdjS.nil _ _,fun q r l h=>by simp at h⟩ ?_
    rintro ⟨q,F,sa⟩ ⟨hq,hA,hno⟩
    simp only at hq hA hno ⊢
    by_cases hql:q<(ab8 x).length
    ·obtain ⟨r,hr⟩:∃ r,(ab8 x)[q]?=some r:=⟨_,List.getElem?_eq_getElem hql⟩
     have hr':(ab8 x)[((q:Nat):Int).toNat]?=some r:=hr
     have hrm:=List.mem_of_getElem? hr
     obtain ⟨u1,u2,u3⟩:=hS.up r hrm
     obtain ⟨l,hl⟩:∃ l,w[r.kind]?=some l:=⟨_,List.getElem?_eq_getElem (by omega)⟩
     obtain ⟨lu,hlu'⟩:∃ l,w[r.up.toNat]?=some l:=⟨_,List.getElem?_eq_getElem (by omega)⟩
     have hl':w[((r.kind:Nat):Int).toNat]?=some l:=hl
     have hll:=hw.nr l (List.mem_of_getElem? hl)
     have hlul:=hw.nr lu (List.mem_of_getElem? hlu')
     obtain ⟨kd,fd,hkd,hfd,_⟩:=aT3 hrm
     have hrr:=aR1 (hrows _ _ hl)
     have hadj:adjR w r=adjL l r.field lu.length:=by unfold adjR;rw [ae8 hl,ae8 hlu']
     repeat' first|refine sk82 ?_|(intro b;conv=>whnf)
     refine Mk.go lu.length rfl rfl rfl rfl rfl (by simp) (by omega) (by omega) (fun bo=>?_)
     repeat' first|refine sk82 ?_|(intro b;conv=>whnf)
     have hR0:RW1 (adjL (l.take 0) r.field lu.length) (.slice (some ⟨bo,0,none⟩) lu.length lu.length) [(bo,.cells 22 (List.replicate lu.length (.v (.slice none 0 0))))]:=by
      rw [List.take_zero,bK9]
      exact RowsOf.made (R:=RI) (x0:=[]) (RowIs.nil _ _) _ bo (by unfold maxLen;omega)
     refine aB6 (i:=15) (d:=.v (.pointer (some ⟨b,0,none⟩))) (d':=.ro (lnC r)) (τ:=(bo,.cells 22 (List.replicate lu.length (.v (.slice none 0 0)))) :: (c,.cells 145 (ckL x w (slLn (ab8 x)) rm lm)) :: (lm,.mp Tryz.prog 9 fun _=>none) :: (rm,.obj (MapO Tryz.prog 147 F)) :: sa) rfl (fun h=>by cases h) (Vs.ptr (tb:=147) (List.Perm.swap _ _ _)) ?_
     refine aa5 mixed aa0 (γ:=Nat × aa1) (fun g=>[(117,iD g.1)]) (fun g=>g.2 ++ ((c,.cells 145 (ckL x w (slLn (ab8 x)) rm lm)) :: (lm,.mp Tryz.prog 9 fun _=>none) :: (rm,.obj (MapO Tryz.prog 147 F)) :: sa)) (fun g=>g.1≤l.length∧RW1 (adjL (l.take g.1) r.field lu.length) (.slice (some ⟨bo,0,none⟩) lu.length lu.length) g.2∧∀ (i:Nat) y,i<g.1→l[i]?=some y→aG0 w r y=true) (fun g=>l.length - g.1) (0,[(bo,.cells 22 (List.replicate lu.length (.v (.slice none 0 0))))]) (aa2 cl7) (Sc.refl _) ⟨Nat.zero_le _,hR0,fun i y h=>by simp at h⟩ ?_
     clear hR0
     rintro ⟨i,sr⟩ ⟨hi,hR,hno3⟩
     simp only at hi hR hno3 ⊢
     by_cases hil:i<l.length
     ·obtain ⟨y,hy⟩:∃ y,l[i]?=some y:=⟨_,List.getElem?_eq_getElem hil⟩
      have hy':l[((i:Nat):Int).toNat]?=some y:=hy
      have hym:=List.mem_of_getElem? hy
      have hyl:=(bd7 hkd (hrr.2 y hym)).1
      have hyl2:=hw.nf l (List.mem_of_getElem? hl) y hym
      have hfl:=(List.getElem?_eq_some_iff.1 hfd).1
      obtain ⟨z,hz⟩:∃ z,y[r.field]?=some z:=⟨_,List.getElem?_eq_getElem (by omega)⟩
      have hz':y[((r.field:Nat):Int).toNat]?=some z:=hz
      have hrok:aG0 w r y=!(decide (z<0) || decide ((lu.length:Int)≤z)):=by unfold aG0;rw [ae8 hz,ae8 hlu']
      by_cases hz0:z<0
      ·have hbad:aG0 w r y=false:=by rw [hrok,decide_eq_true hz0];rfl
       repeat' first|refine sk82 ?_|(intro b;conv=>whnf)
       exact Rt.by (Vs.drop (List.nil_sublist _)) (.inl ⟨bl2 hrm hl hym hbad,rfl,rfl⟩)
      ·by_cases hz1:(lu.length:Int)≤z
       ·have hbad:aG0 w r y=false:=by rw [hrok,decide_eq_true hz1,Bool.or_true];rfl
        repeat' first|refine sk82 ?_|(intro b;conv=>whnf)
        exact Rt.by (Vs.drop (List.nil_sublist _)) (.inl ⟨bl2 hrm hl hym hbad,rfl,rfl⟩)
       ·have hgood:aG0 w r y=true:=by rw [hrok,decide_eq_false hz0,decide_eq_false hz1];rfl
        obtain ⟨v,rfl⟩:∃ v:Nat,z=v:=⟨z.toNat,by omega⟩
        obtain ⟨b0,cap0,cs0,u,t,τ,e0,p0,c0,hu,upo⟩:=RowsOf.at hR (aC7 (f:=r.field) (l.take i) (show v<lu.length by omega))
        rw [av3] at e0
        cases e0
        obtain ⟨a1,ca1,rfl⟩:=RowIs.slice hu
        have hil2:(idxs (l.take i) r.field v).length≤1000:=by
         rw [bk8]
         have:=List.countP_le_length (p:=fun r':List Int=>decide (r'.getD r.field 0=(v:Int))) (l:=l.take i)
         rw [List.length_take] at this
         omega
        repeat' first|refine sk82 ?_|(intro b;conv=>whnf)
        refine Ld.cellm (tb:=22) (cs:=cs0) (List.mem_append_left _ (p0.mem_iff.2 List.mem_cons_self)) (by rw [ix1];exact c0) ?_
        repeat' first|refine sk82 ?_|(intro b;conv=>whnf)
        refine Ap.go rfl rfl rfl rfl hu (τ:=(bo,.cells 22 cs0) :: (τ ++ ((c,.cells 145 (ckL x w (slLn (ab8 x)) rm lm)) :: (lm,.mp Tryz.prog 9 fun _=>none) :: (rm,.obj (MapO Tryz.prog 147 F)) :: sa))) cl17 rfl (zs:=(idxs (l.take i) r.field v ++ [(i:Int)]).map fun n=>[iD n]) (by rw [List.map_append];rfl) (by simp;omega) (by simp;omega) (fun s2=>s2 ++ ((bo,.cells 22 cs0) :: (τ ++ ((c,.cells 145 (ckL x w (slLn (ab8 x)) rm lm)) :: (lm,.mp Tryz.prog 9 fun _=>none) :: (rm,.obj (MapO Tryz.prog 147 F)) :: sa)))) (fun s2=>List.Perm.refl _) (fun a9 c9 s9 hr9=>?_)
        repeat' first|refine sk82 ?_|(intro b;conv=>whnf)
        refine Sv.cellm (tb:=22) (cs:=cs0) (cs':=cs0.set v (.v (.slice a9 ((idxs (l.take i) r.field v ++ [(i:Int)]).map fun n=>[iD n]).length c9))) (τ:=s9 ++ (τ ++ ((c,.cells 145 (ckL x w (slLn (ab8 x)) rm lm)) :: (lm,.mp Tryz.prog 9 fun _=>none) :: (rm,.obj (MapO Tryz.prog 147 F)) :: sa))) cl18 (by rw [ix1];exact (List.getElem?_eq_some_iff.1 c0).1) rfl (by rw [ix1]) ?_
        repeat' first|refine sk82 ?_|(intro b;conv=>whnf)
        have h8:=upo _ _ s9 ((bo,.cells 22 (cs0.set v (.v (.slice a9 ((idxs (l.take i) r.field v ++ [(i:Int)]).map fun n=>[iD n]).length c9)))) :: (s9 ++ τ)) hr9 (List.Perm.refl _)
        have hlt:(l.take i).length=i:=by rw [List.length_take];omega
        have hsn:=bC2 (rows:=l.take i) (r:=y) (f:=r.field) (n:=lu.length) (v:=v) (ae8 hz 0)
        rw [hlt,← au1 hy] at hsn
        rw [← hsn] at h8
        refine ⟨(i+1,(bo,.cells 22 (cs0.set v (.v (.slice a9 ((idxs (l.take i) r.field v ++ [(i:Int)]).map fun n=>[iD n]).length c9)))) :: (s9 ++ τ)),(aa2 cl7),Sc.perm cl18,⟨by simp only;omega,h8,fun i' y' hi' hy2=>?_⟩,by simp only;omega⟩
        by_cases e:i'=i
        ·subst e;cases hy.symm.trans hy2;exact hgood
        ·exact hno3 i' y' (by omega) hy2
     ·obtain rfl:i=l.length:=by omega
      rw [List.take_length,← hadj] at hR
      have hfl:=(List.getElem?_eq_some_iff.1 hfd).1
      have hfl2:=hnf kd (List.mem_of_getElem? hkd)
      obtain ⟨kl,hkl⟩:=bN4 (show (Lit.int .i64 (r.kind:Int)).wf=true from wf64 (by omega) (by omega)) (show (Lit.int .i64 (r.field:Int)).wf=true from wf64 (by omega) (by omega)) (show (Lit.int .i64 r.up).wf=true from wf64 (by omega) (by omega))
      repeat' first|refine sk82 ?_|(intro b;conv=>whnf)
      refine Ld.cellm (List.mem_append_right _ List.mem_cons_self) rfl ?_
      repeat' first|refine sk82 ?_|(intro b;conv=>whnf)
      refine OtE.mapUpdate (b:=rm) (F:=F) (k:=147) (e:=62) (kv:=lnV r) (kl:=kl) (τ:=sr ++ ((c,.cells 145 (ckL x w (slLn (ab8 x)) rm lm)) :: (lm,.mp Tryz.prog 9 fun _=>none) :: sa)) rfl rfl (KeyD.agg3 _ _ _) rfl cl18 bk3 Tryz.underlying142 hkl ?_
      repeat' first|refine sk82 ?_|(intro b;conv=>whnf)
      refine ⟨(q+1,updF F (lnV r) (.slice (some ⟨bo,0,none⟩) lu.length lu.length),sa ++ sr),(aa2 cl7),Sc.perm cl18,⟨by simp only;omega,?_,fun q' r' l' hq' hr2 hl2 y hy=>?_⟩,by simp only;omega⟩
      ·rw [au1 hr]
       refine hA.push hR fun r' hr2=>?_
       obtain ⟨q',hq'⟩:=List.getElem?_of_mem hr2
       have hq2:=(List.getElem?_eq_some_iff.1 hq').1
       rw [List.length_take] at hq2
       rw [List.getElem?_take,if_pos (by omega)] at hq'
       exact bS3 hq' hr (by omega)
      ·by_cases e:q'=q
       ·subst e
        cases hr.symm.trans hr2
        cases hl.symm.trans hl2
        obtain ⟨i,hi⟩:=List.getElem?_of_mem hy
        exact hno3 i y (List.getElem?_eq_some_iff.1 hi).1 hi
       ·exact hno q' r' l' (by omega) hr2 hl2 y hy
    ·obtain rfl:q=(ab8 x).length:=by omega
     rw [List.take_length] at hA
     have hfit:fitW x w=true:=bI2 hlen hrows fun r hr l hl y hy=>by
      obtain ⟨q,hq⟩:=List.getElem?_of_mem hr
      exact hno q r l (List.getElem?_eq_some_iff.1 hq).1 hq hl y hy
     clear hno hrows
     have HB:=bU1 x.lives
     have hll:=hV.nl
     repeat' first|refine sk82 ?_|(intro b;conv=>whnf)
     refine bw0 (List.Perm.swap _ _ _) ?_
     refine bG8 mixed aa0 rfl (bA4 x.lives (by omega)) (fun y hy=>bA5 hy) rfl (γ:=Unit) (fun m _=>(lm,.mp Tryz.prog 9 (lvG (x.lives.drop (x.lives.length - m)))) :: (c,.cells 145 (ckL x w (slLn (ab8 x)) rm lm)) :: (rm,.obj (MapO Tryz.prog 147 F)) :: sa) (fun _ _=>True) () (by rw [show lvG (x.lives.drop (x.lives.length - 0))=fun _=>none by rw [Nat.sub_zero,List.drop_length,bU5]];exact cl16) trivial ?_ ?_
     ·rintro lb m _ y hy -
      obtain ⟨j,lf,h1,h2,rfl⟩:=aM1 hy
      have hnm:=bw4 (hV.lives lf (List.mem_of_getElem? h2))
      rw [show x.lives.length - m=j+1 by omega]
      repeat' first|refine sk82 ?_|(intro b;conv=>whnf)
      refine OtE.mapUpdateM (d:=lifD lf) (b:=lm) (k:=9) (e:=89) (kv:=.string lf.name) (τ:=(b,.cells 89 (lifC lf)) :: (c,.cells 145 (ckL x w (slLn (ab8 x)) rm lm)) :: (rm,.obj (MapO Tryz.prog 147 F)) :: sa) rfl rfl (KeyD.v _) rfl (List.Perm.swap _ _ _) (string_keyed Tryz.underlying9) Tryz.underlying143 (Go.WideMaps.keyOf_string_mk Tryz.underlying9 (by unfold maxLen;omega)) ?_
      repeat' first|refine sk82 ?_|(intro b;conv=>whnf)
      rw [bG7,← bY8 h2]
      exact ⟨(),by rw [show x.lives.length - (m+1)=j by omega];exact List.Sublist.cons_cons _ (List.sublist_cons_self _ _),trivial⟩
     ·rintro _ -
      rw [show x.lives.length - (bb0 x.lives).length=0 by rw [aM0];omega,List.drop_zero]
      repeat' first|refine sk82 ?_|(intro b;conv=>whnf)
      exact Rt.by (Vs.perm (τ:=(c,.cells 145 (ckC x w (ab8 x) rm lm (.slice none 0 0))) :: (rm,.obj (MapO Tryz.prog 147 F)) :: (lm,.mp Tryz.prog 9 (lvG x.lives)) :: sa) (by refine ac9 fun a=>?_;simp only [ad1,ck6];omega)) (.inr ⟨hfit,c,rm,lm,F,sa,rfl,rfl,hA⟩)
 ·repeat' first|refine sk82 ?_|(intro b;conv=>whnf)
  exact Rt.by (Vs.drop (List.nil_sublist _)) (.inl ⟨bI3 hlen,rfl,rfl⟩)
end
section
open Go Go.Maps Go.MapKept
theorem bO9 (w:World):(zeroValue 62).run Tryz.prog w = .ok (.slice none 0 0) w:=by kernel_rfl
theorem bz9 {x:Sch} {w:Wd} {k i f:Nat} {kd:Knd} {d:Fld} {l:List (List Int)} {r:List Int} {n:Int} (L:List Rf) (c bk rm lm:Nat) (v:Value) (ks:List Int) (hk:x.kinds[k]?=some kd) (hf:kd.fields[f]?=some d) (hl:w[k]?=some l) (hr:l[i]?=some r) (hv:r[f]?=some n) (hn:InR n) (h3:d.kind=0∨d.kind=1∨d.kind=2)
  (b1:x.kinds.length≤1000000) (b2:kd.fields.length≤1000000) (b3:w.length≤1000000) (b4:l.length≤1000000) (b5:r.length≤1000000) :
  ACall Tryz.prog 68 [.v (.pointer (some ⟨c,0,none⟩)),iD k,iD i,iD f,.v (.map (some bk))] [(c,.cells 145 (ckC x w L rm lm v)),(bk,.obj (MapO Tryz.prog 3 (KF ks)))]
   (fun dd σ'=>dd=iD (bz7 x w k kd r i f d ks)∧σ'=[(bk,.obj (MapO Tryz.prog 3 (KF (keyF r f d ks)))),(c,.cells 145 (ckC x w L rm lm v))]):=by
 have h:=bJ1 L bk rm lm v ks hk hf hl hr hv hn h3 b1 b2 b3 b4 b5
 have h2:=ACall.look (σ:=[(c,.cells 145 (ckC x w L rm lm v)),(bk,.obj (MapO Tryz.prog 3 (KF ks)))]) (ρ:=[(c,.cells 145 (ckC x w L rm lm v))]) (ds:=[.v (.pointer (some ⟨c,0,none⟩)),iD k,iD i,iD f,.v (.map (some bk))])
  (.cons (Vs.ptr (List.Perm.refl _)) (.cons (Vs.refl _ _) (.cons (Vs.refl _ _) (.cons (Vs.refl _ _) (.cons (Vs.refl _ _) (.nil _)))))) (List.Perm.swap _ _ _) h (fun d s hh=>⟨by rw [hh.1];rfl,by rw [hh.2];intro p hp;rw [List.mem_singleton] at hp;subst hp;trivial⟩)
 refine ⟨h2.ent,fun w X vs a b=>(h2.run w X vs a b).mono ?_⟩
 rintro e w' ⟨u,d,σ',g1,⟨s,rfl,g2,rfl⟩,g3⟩
 exact ⟨u,d,_,g1,⟨g2,rfl⟩,g3⟩
theorem bI4 {x:Sch} {w:Wd} (h:fitW x w=true):w.length=x.kinds.length∧(∀ (k:Nat) l,w[k]?=some l→ar3 x k l=true)∧∀ r∈ab8 x,∀ l,w[r.kind]?=some l→∀ y∈l,aG0 w r y=true:=by
 unfold fitW at h
 simp only [Bool.and_eq_true,decide_eq_true_eq,List.all_eq_true] at h
 obtain ⟨⟨h1,h2⟩,h3⟩:=h
 refine ⟨h1,fun k l hl=>?_,fun r hr l hl y hy=>?_⟩
 ·have:=h2 k (List.mem_range.2 (List.getElem?_eq_some_iff.1 hl).1)
  rwa [ae8 hl] at this
 ·have:=h3 r hr y
  rw [ae8 hl] at this
  exact this hy
theorem bl5 (x:Sch) (w:Wd) (r:Rf) (j:Nat):(degP x w r j).length≤1:=by unfold degP;split;exact aw4 ..;simp
theorem bz4 {x:Sch} {w:Wd} (hw:Ws w) (q:Nat):(aN0 x w q).length≤1000:=by
 unfold aN0
 split
 ·rename_i r hr
  have h1:=ad9 (bl5 x w r) (w.getD r.up.toNat []).length
  have h2:(w.getD r.up.toNat []).length≤1000:=by
   cases hl:w[r.up.toNat]? with
   | none=>rw [List.getD_eq_getElem?_getD,hl];simp
   | some l=>rw [ae8 hl];exact hw.nr l (List.mem_of_getElem? hl)
  omega
 ·simp
structure Easy (x:Sch):Prop where
 rules:x.rules=[]
 kinds:∀ k∈x.kinds,∀ f∈k.fields,f.kind=0∨f.kind=1∨f.kind=2
theorem bk5 (x:Sch) (w:Wd) (k:Nat):(limP x w k).length≤1:=by unfold limP;split;exact aw4 ..;simp
theorem bl0 (x:Sch) (w:Wd) (k:Nat) (kd:Knd) (l:List (List Int)) (i:Nat) (r:List Int) (f:Nat):(fldP x w k kd l i r f).length≤1:=by unfold fldP;split;exact aw4 ..;simp
theorem bj3 {x:Sch} (hE:Easy x) {w:Wd} {k:Nat} {kd:Knd} {l:List (List Int)} (hrec:∀ y∈l,recOk x k y=true) (hnf:∀ k∈x.kinds,k.fields.length≤10) (hkd:x.kinds[k]?=some kd) (i:Nat):(recP x w k kd l i).length≤10:=by
 unfold recP
 split
 ·rename_i r hr
  have h1:=ad9 (bl0 x w k kd l i r) r.length
  have h2:=(bd7 hkd (hrec r (List.mem_of_getElem? hr))).1
  have h3:=hnf kd (List.mem_of_getElem? hkd)
  rw [hE.rules]
  simp only [List.length_nil,List.length_append]
  have:(upTo 0 (rulP x k kd i r)).length=0:=rfl
  omega
 ·simp
theorem bw5 {x:Sch} (hE:Easy x) {w:Wd} (hrows:∀ (k:Nat) l,w[k]?=some l→ar3 x k l=true) (hnf:∀ k∈x.kinds,k.fields.length≤10) (k:Nat):(knP x w k).length≤5120:=by
 unfold knP
 split
 ·rename_i kd hkd
  cases hl:w[k]? with
  | none=>rw [List.getD_eq_getElem?_getD,hl];simp [upTo]
  | some l=>
   rw [ae8 hl]
   obtain ⟨h1,h2⟩:=aR1 (hrows k l hl)
   have:=ad9 (bj3 hE h2 hnf hkd (w:=w)) l.length
   omega
 ·simp
theorem sk84 {A B:Prop} (k:B) (h:Hd7 B→A:=by intro hk7q;(first|refine sb0 ?_|refine sb1 ?_|((with_reducible refine' Cp.by ?hc ?_);(case hc=>first|exact as9 _ _|exact HN))|((with_reducible refine' CE.pure ?hc ?_);(case hc=>first|exact as9 _ _|exact HN)));exact hk7q.run):A:=h ⟨k⟩
theorem sb85 {A B:Prop} (k:B) (h:Hd7 B→A:=by intro hk7q;(first|(with_reducible refine Bc.l ?_)|(with_reducible refine Bx.l ?_)|(with_reducible refine Dr.r ?_)|((with_reducible refine Dm.l ?h ?_);(case h=>decide +kernel))|((with_reducible refine Cb.go ?h ?_);(case h=>decide +kernel)));exact hk7q.run):A:=h ⟨k⟩
theorem sk86 {A B:Prop} (k:B) (h:Hd7 B→A:=by intro hk7q;(first|refine sb0 ?_|refine sb85 ?_|((with_reducible refine' Cp.by ?hc ?_);(case hc=>first|exact as9 _ _|exact HN))|((with_reducible refine' CE.pure ?hc ?_);(case hc=>first|exact as9 _ _|exact HN)));exact hk7q.run):A:=h ⟨k⟩
theorem sq5 {A B:Prop} (k:B) (h:Hd7 B→A:=by intro hk7q;(first|refine sk84 ?_|(with_reducible refine Br.t (beq_self_eq_true _) ?_)|(with_reducible refine Br.f Bool.not_true ?_)|(with_reducible refine Br.t (decide_eq_true trivial) ?_));exact hk7q.run):A:=h ⟨k⟩
theorem sq6 {A B:Prop} (k:B) (h:Hd7 B→A:=by intro hk7q;(first|refine sk86 ?_|(with_reducible refine Br.t (beq_self_eq_true _) ?_)|(with_reducible refine Br.f Bool.not_true ?_)|(with_reducible refine Br.t (decide_eq_true trivial) ?_));exact hk7q.run):A:=h ⟨k⟩
theorem bJ2 (x:Sch) (w:Wd) (hw:Ws w) (hp:aA9 x=[]) (hE:Easy x) (HV:APure Tryz.prog 143 [schD x] (iD (ak7 x))):APure Tryz.prog 27 [schD x,slW w] (.sl 4 ((ba9 x w).map prbC)):=by
 have HN:=ch1 x w hw hp HV
 have hS:=bM4 hp
 have hV:=hS.vld
 have hnk:=hV.nk
 have hnf:=hV.nf
 have hwl:=hw.nk
 have hl6:x.kinds.length≤1000000:=by omega
 have hrl:=bi9 hV
 refine eP7 Tryz.func27 Tryz.ntmps27 fun BB=>?_
 repeat' first|refine sk84 ?_|(intro b;conv=>whnf)
 refine CE.own HN (List.Perm.refl ([] ++ [])) (fun s'=>s') (fun s'=>by simp) ?_
 rintro d σ (⟨hfit,rfl,rfl⟩|⟨hfit,c,rm,lm,F,sa,rfl,rfl,hA⟩)
 ·repeat' first|refine sk84 ?_|(intro b;conv=>whnf)
  exact Rt.pure (by unfold ba9;rw [hfit];rfl)
 ·obtain ⟨hlen,hrows,hrefs⟩:=bI4 hfit
  obtain ⟨R,hR⟩:∃ R:aa1,R=(rm,.obj (MapO Tryz.prog 147 F)) :: (lm,.mp Tryz.prog 9 (lvG x.lives)) :: sa:=⟨_,rfl⟩
  rw [← hR]
  repeat' first|refine sq5 ?_|(intro b;conv=>whnf)
  refine aa5 mixed aa0 (γ:=Nat × Value × aa1) (fun g=>[(35,iD g.1)]) (fun g=>(c,.cells 145 (ckC x w (ab8 x) rm lm g.2.1)) :: (g.2.2 ++ R)) (fun g=>g.1≤w.length∧RowIs 135 4 ((upTo g.1 (limP x w)).map prbC) g.2.1 g.2.2) (fun g=>w.length - g.1) (0,.slice none 0 0,[]) (aa2 cl7) (Sc.refl _) ⟨Nat.zero_le _,RowIs.nil _ _⟩ ?_
  rintro ⟨k,v,s⟩ ⟨hk,hrow⟩
  simp only at hk hrow ⊢
  by_cases hkl:k<w.length
  ·obtain ⟨l,hl⟩:∃ l,w[k]?=some l:=⟨_,List.getElem?_eq_getElem hkl⟩
   have hl':w[((k:Nat):Int).toNat]?=some l:=hl
   obtain ⟨kd,hkd⟩:∃ y,x.kinds[k]?=some y:=⟨_,List.getElem?_eq_getElem (by omega)⟩
   have hkd':x.kinds[((k:Nat):Int).toNat]?=some kd:=hkd
   have hll:=hw.nr l (List.mem_of_getElem? hl)
   have hSL:=ag4 k (limP x w)
   have hLP:limP x w k=one k (-1) (-1) (if (l.length:Int)<kd.lo∨kd.hi<(l.length:Int) then 4 else 0):=by unfold limP;rw [hkd,ae8 hl]
   have hlen1:=ad9 (bk5 x w) k
   rw [hLP] at hSL
   by_cases h1:(l.length:Int)<kd.lo
   ·rw [if_pos (.inl h1)] at hSL
    repeat' first|refine sq5 ?_|(intro b;conv=>whnf)
    (refine CE.own (aL6 x w (ab8 x) rm lm c _ _ _ _ _ _ _ hrow (by (try simp only [List.length_append]);omega)) (List.Perm.refl _) (fun s'=>s' ++ _) (fun s'=>List.Perm.refl _) ?_;rintro _ _ ⟨v',s',rfl,rfl,hr'⟩)
    repeat' first|refine sq5 ?_|(intro b;conv=>whnf)
    exact ⟨(k+1,v',s'),(aa2 cl7),Sc.refl _,⟨by simp only;omega,by rw [hSL];exact hr'⟩,by simp only;omega⟩
   ·by_cases h2:kd.hi<(l.length:Int)
    ·rw [if_pos (.inr h2)] at hSL
     repeat' first|refine sq5 ?_|(intro b;conv=>whnf)
     (refine CE.own (aL6 x w (ab8 x) rm lm c _ _ _ _ _ _ _ hrow (by (try simp only [List.length_append]);omega)) (List.Perm.refl _) (fun s'=>s' ++ _) (fun s'=>List.Perm.refl _) ?_;rintro _ _ ⟨v',s',rfl,rfl,hr'⟩)
     repeat' first|refine sq5 ?_|(intro b;conv=>whnf)
     exact ⟨(k+1,v',s'),(aa2 cl7),Sc.refl _,⟨by simp only;omega,by rw [hSL];simpa [h2] using hr'⟩,by simp only;omega⟩
    ·rw [if_neg (by omega)] at hSL
     repeat' first|refine sq5 ?_|(intro b;conv=>whnf)
     (refine CE.own (aL6 x w (ab8 x) rm lm c _ _ _ _ _ _ _ hrow (by (try simp only [List.length_append]);omega)) (List.Perm.refl _) (fun s'=>s' ++ _) (fun s'=>List.Perm.refl _) ?_;rintro _ _ ⟨v',s',rfl,rfl,hr'⟩)
     repeat' first|refine sq5 ?_|(intro b;conv=>whnf)
     exact ⟨(k+1,v',s'),(aa2 cl7),Sc.refl _,⟨by simp only;omega,by rw [hSL];simpa [h2] using hr'⟩,by simp only;omega⟩
  ·obtain rfl:k=w.length:=by omega
   have hlen1:=ad9 (bk5 x w) w.length
   generalize hL1:upTo w.length (limP x w)=L1 at *
   repeat' first|refine sq5 ?_|(intro b;conv=>whnf)
   refine aa5 mixed aa0 (γ:=Nat × Value × aa1) (fun g=>[(68,iD g.1)]) (fun g=>(c,.cells 145 (ckC x w (ab8 x) rm lm g.2.1)) :: (g.2.2 ++ R)) (fun g=>g.1≤w.length∧RowIs 135 4 ((L1 ++ upTo g.1 (knP x w)).map prbC) g.2.1 g.2.2) (fun g=>w.length - g.1) (0,v,s) (aa2 cl7) (Sc.refl _) ⟨Nat.zero_le _,by simpa [upTo] using hrow⟩ ?_
   clear hrow
   rintro ⟨k,v,s⟩ ⟨hk,hrow⟩
   simp only at hk hrow ⊢
   by_cases hkl:k<w.length
   ·obtain ⟨l,hl⟩:∃ l,w[k]?=some l:=⟨_,List.getElem?_eq_getElem hkl⟩
    have hl':w[((k:Nat):Int).toNat]?=some l:=hl
    obtain ⟨kd,hkd⟩:∃ y,x.kinds[k]?=some y:=⟨_,List.getElem?_eq_getElem (by omega)⟩
    have hkd':x.kinds[((k:Nat):Int).toNat]?=some kd:=hkd
    have hll:=hw.nr l (List.mem_of_getElem? hl)
    have hlf:=hw.nf l (List.mem_of_getElem? hl)
    have hkf:=hnf kd (List.mem_of_getElem? hkd)
    have hSK:=ag4 k (knP x w)
    have hKP:knP x w k=upTo l.length (recP x w k kd l):=by unfold knP;rw [hkd,ae8 hl]
    rw [hKP] at hSK
    have hlen2:(upTo k (knP x w)).length≤100000:=by have:=ad9 (bw5 hE hrows hnf) k;omega
    have hrec:=(aR1 (hrows k l hl)).2
    generalize hL2:upTo k (knP x w)=L2 at *
    repeat' first|refine sq5 ?_|(intro b;conv=>whnf)
    refine OtE.makeMap (k:=3) rfl (fun bk=>?_)
    repeat' first|refine sq5 ?_|(intro b;conv=>whnf)
    refine aa5 mixed aa0 (γ:=Nat × Value × aa1) (fun g=>[(76,iD g.1)]) (fun g=>(c,.cells 145 (ckC x w (ab8 x) rm lm g.2.1)) :: (g.2.2 ++ ((bk,.obj (MapO Tryz.prog 3 (KF (aK9 kd l g.1)))) :: R))) (fun g=>g.1≤l.length∧RowIs 135 4 ((L1 ++ L2 ++ upTo g.1 (recP x w k kd l)).map prbC) g.2.1 g.2.2) (fun g=>l.length - g.1) (0,v,s) (aa2 cl7) (Sc.perm (by rw [show aK9 kd l 0=[] from rfl,cm3];refine ac9 fun a=>?_;simp only [List.append_eq,List.nil_append,ad1,af7,af6];omega)) ⟨Nat.zero_le _,by simpa [upTo] using hrow⟩ ?_
    clear hrow
    rintro ⟨i,v,s⟩ ⟨hi,hrow⟩
    simp only at hi hrow ⊢
    by_cases hil:i<l.length
    ·obtain ⟨r,hr⟩:∃ r,l[i]?=some r:=⟨_,List.getElem?_eq_getElem hil⟩
     have hr':l[((i:Nat):Int).toNat]?=some r:=hr
     have hrf:=hlf r (List.mem_of_getElem? hr)
     obtain ⟨hrl,hrn⟩:=bd7 hkd (hrec r (List.mem_of_getElem? hr))
     have hSR:=ag4 i (recP x w k kd l)
     have hRP:recP x w k kd l i=upTo r.length (fldP x w k kd l i r):=by unfold recP;rw [hr,hE.rules];simp [upTo]
     rw [hRP] at hSR
     have hlen3:(upTo i (recP x w k kd l)).length≤100000:=by have:=ad9 (bj3 hE hrec hnf hkd (w:=w)) i;omega
     generalize hL3:upTo i (recP x w k kd l)=L3 at *
     have hKK:aK9 kd l (i+1)=aB9 kd r (aK9 kd l i) r.length:=by show (match l[i]? with|some r=>aB9 kd r (aK9 kd l i) r.length|none=>aK9 kd l i)=_;rw [hr]
     generalize hK0:aK9 kd l i=K0 at *
     repeat' first|refine sq5 ?_|(intro b;conv=>whnf)
     refine aa5 mixed aa0 (γ:=Nat × Value × aa1) (fun g=>[(83,iD g.1)]) (fun g=>(c,.cells 145 (ckC x w (ab8 x) rm lm g.2.1)) :: (g.2.2 ++ ((bk,.obj (MapO Tryz.prog 3 (KF (aB9 kd r K0 g.1)))) :: R))) (fun g=>g.1≤r.length∧RowIs 135 4 ((L1 ++ L2 ++ L3 ++ upTo g.1 (fldP x w k kd l i r)).map prbC) g.2.1 g.2.2) (fun g=>r.length - g.1) (0,v,s) (aa2 cl7) (Sc.refl _) ⟨Nat.zero_le _,by simpa [upTo] using hrow⟩ ?_
     clear hrow
     rintro ⟨f,v,s⟩ ⟨hf,hrow⟩
     simp only at hf hrow ⊢
     by_cases hfl:f<r.length
     ·obtain ⟨n,hn⟩:∃ n,r[f]?=some n:=⟨_,List.getElem?_eq_getElem hfl⟩
      obtain ⟨d,hd⟩:∃ d,kd.fields[f]?=some d:=⟨_,List.getElem?_eq_getElem (by omega)⟩
      have hnb:=hrn n (List.mem_of_getElem? hn)
      have h3:=hE.kinds kd (List.mem_of_getElem? hkd) d (List.mem_of_getElem? hd)
      have hKF:aB9 kd r K0 (f+1)=keyF r f d (aB9 kd r K0 f):=by show (match kd.fields[f]? with|some d=>keyF r f d (aB9 kd r K0 f)|none=>aB9 kd r K0 f)=_;rw [hd]
      have hSF:=ag4 f (fldP x w k kd l i r)
      have hlen4:=ad9 (bl0 x w k kd l i r) f
      have hFP:fldP x w k kd l i r f=one k i f (bz7 x w k kd r i f d (aB9 kd r K0 f)):=by unfold fldP;rw [hd,hK0]
      rw [hFP] at hSF
      have HF:=bz9 (ab8 x) c bk rm lm v (aB9 kd r K0 f) hkd hd hl hr hn ⟨by omega,by omega⟩ h3 hl6 (by omega) (by omega) (by omega) (by omega)
      repeat' first|refine sq5 ?_|(intro b;conv=>whnf)
      refine CE.own HF (t:=s ++ R) cl18 (fun s'=>s' ++ (s ++ R)) (fun s'=>List.Perm.refl _) ?_
      rintro _ _ ⟨rfl,rfl⟩
      repeat' first|refine sq5 ?_|(intro b;conv=>whnf)
      refine CE.own (aL6 x w (ab8 x) rm lm c _ _ _ _ _ _ _ hrow (by simp only [List.length_append];omega)) (t:=(bk,.obj (MapO Tryz.prog 3 (KF (keyF r f d (aB9 kd r K0 f))))) :: R) cl18 (fun s'=>s' ++ _) (fun s'=>List.Perm.refl _) ?_
      rintro _ _ ⟨v',s',rfl,rfl,hr'⟩
      repeat' first|refine sq5 ?_|(intro b;conv=>whnf)
      exact ⟨(f+1,v',s'),(aa2 cl7),by rw [hKF];exact Sc.refl _,⟨by simp only;omega,by rw [hSF,← List.append_assoc];exact hr'⟩,by simp only;omega⟩
     ·obtain rfl:f=r.length:=by omega
      have hru:x.rules.length=0:=by rw [hE.rules];rfl
      rw [← hKK]
      repeat' first|refine sq5 ?_|(intro b;conv=>whnf)
      refine aa5 mixed aa0 (γ:=Unit) (fun _=>[(102,iD 0)]) (fun _=>(c,.cells 145 (ckC x w (ab8 x) rm lm v)) :: (s ++ ((bk,.obj (MapO Tryz.prog 3 (KF (aK9 kd l (i+1))))) :: R))) (fun _=>True) (fun _=>0) () (aa2 cl7) (Sc.refl _) trivial ?_
      rintro _ -
      repeat' first|refine sq5 ?_|(intro b;conv=>whnf)
      exact ⟨(i+1,v,s),(aa2 cl7),Sc.refl _,⟨by simp only;omega,by rw [hSR,← List.append_assoc];exact hrow⟩,by simp only;omega⟩
    ·obtain rfl:i=l.length:=by omega
     repeat' first|refine sq5 ?_|(intro b;conv=>whnf)
     exact ⟨(k+1,v,s),(aa2 cl7),Sc.sl ((List.Sublist.append_left (List.sublist_cons_self _ _) s).cons_cons _),⟨by simp only;omega,by rw [hSK,← List.append_assoc];exact hrow⟩,by simp only;omega⟩
   ·obtain rfl:k=w.length:=by omega
    have hlen2:(upTo w.length (knP x w)).length≤100000:=by have:=ad9 (bw5 hE hrows hnf) w.length;omega
    generalize hL2:upTo w.length (knP x w)=L2 at *
    repeat' first|refine sq5 ?_|(intro b;conv=>whnf)
    refine aa5 mixed aa0 (γ:=Nat × Value × aa1) (fun g=>[(137,iD g.1)]) (fun g=>(c,.cells 145 (ckC x w (ab8 x) rm lm g.2.1)) :: (g.2.2 ++ R)) (fun g=>g.1≤(ab8 x).length∧RowIs 135 4 ((L1 ++ L2 ++ upTo g.1 (aN0 x w)).map prbC) g.2.1 g.2.2) (fun g=>(ab8 x).length - g.1) (0,v,s) (aa2 cl7) (Sc.refl _) ⟨Nat.zero_le _,by simpa [upTo] using hrow⟩ ?_
    clear hrow
    rintro ⟨q,v,s⟩ ⟨hq,hrow⟩
    simp only at hq hrow ⊢
    by_cases hql:q<(ab8 x).length
    ·obtain ⟨r,hr⟩:∃ r,(ab8 x)[q]?=some r:=⟨_,List.getElem?_eq_getElem hql⟩
     have hr':(ab8 x)[((q:Nat):Int).toNat]?=some r:=hr
     have hrm:=List.mem_of_getElem? hr
     obtain ⟨u1,u2,u3⟩:=hS.up r hrm
     obtain ⟨kd,d,hkd,hd,_⟩:=aT3 hrm
     have hkd':x.kinds[((r.kind:Nat):Int).toNat]?=some kd:=hkd
     have hd':kd.fields[((r.field:Nat):Int).toNat]?=some d:=hd
     have hkf:=hnf kd (List.mem_of_getElem? hkd)
     have hfl:=(List.getElem?_eq_some_iff.1 hd).1
     obtain ⟨lu,hlu⟩:∃ l,w[r.up.toNat]?=some l:=⟨_,List.getElem?_eq_getElem (by omega)⟩
     obtain ⟨l,hl⟩:∃ l,w[r.kind]?=some l:=⟨_,List.getElem?_eq_getElem (by omega)⟩
     have hlul:=hw.nr lu (List.mem_of_getElem? hlu)
     have hll:=hw.nr l (List.mem_of_getElem? hl)
     have hadj:adjR w r=adjL l r.field lu.length:=by unfold adjR;rw [ae8 hl,ae8 hlu]
     have hSQ:=ag4 q (aN0 x w)
     have hQP:aN0 x w q=upTo lu.length (degP x w r):=by unfold aN0;rw [hr];show upTo (w.getD r.up.toNat []).length _=_;rw [ae8 hlu]
     rw [hQP] at hSQ
     have hlen3:(upTo q (aN0 x w)).length≤6000000:=by have:=ad9 (bz4 (x:=x) hw) q;omega
     generalize hL3:upTo q (aN0 x w)=L3 at *
     obtain ⟨kl,hkl⟩:=bN4 (show (Lit.int .i64 (r.kind:Int)).wf=true from wf64 (by omega) (by omega)) (show (Lit.int .i64 (r.field:Int)).wf=true from wf64 (by omega) (by omega)) (show (Lit.int .i64 r.up).wf=true from wf64 (by omega) (by omega))
     obtain ⟨va,ta,τa,hFv,hRW,hpa⟩:=hA.at hr
     rw [hadj] at hRW
     obtain ⟨aa,ca,rfl⟩:=RowsOf.slice hRW
     rw [av3] at *
     have om:(rm,Blk.obj (MapO Tryz.prog 147 F))∈R:=by rw [hR];exact List.mem_cons_self
     repeat' first|refine sq5 ?_|(intro b;conv=>whnf)
     refine Ot.yd (aN3 (kv:=lnV r) (u:=.slice aa lu.length ca) rfl rfl (KeyD.agg3 _ _ _) (List.mem_cons_of_mem _ (List.mem_cons_of_mem _ (List.mem_cons_of_mem _ (List.mem_append_right _ om)))) (fun _ h=>h) bk3 Tryz.underlying142 bO9 hkl (by rw [hFv];rfl)) ?_
     repeat' first|refine sq5 ?_|(intro b;conv=>whnf)
     rename_i b18
     refine aB6 (i:=19) (d:=.v (.pointer (some ⟨b,0,none⟩))) (d':=.ro (fldC d)) (τ:=(b18,.cells 147 (lnC r)) :: (c,.cells 145 (ckC x w (ab8 x) rm lm v)) :: (s ++ R)) rfl (fun h=>by cases h) (Vs.ptr (tb:=97) (List.Perm.refl _)) ?_
     refine aB6 (i:=18) (d:=.v (.pointer (some ⟨b18,0,none⟩))) (d':=.ro (lnC r)) (τ:=(c,.cells 145 (ckC x w (ab8 x) rm lm v)) :: (s ++ R)) rfl (fun h=>by cases h) (Vs.ptr (tb:=147) (List.Perm.refl _)) ?_
     refine aa5 mixed aa0 (γ:=Nat × Value × aa1) (fun g=>[(159,iD g.1)]) (fun g=>(c,.cells 145 (ckC x w (ab8 x) rm lm g.2.1)) :: (g.2.2 ++ R)) (fun g=>g.1≤lu.length∧RowIs 135 4 ((L1 ++ L2 ++ L3 ++ upTo g.1 (degP x w r)).map prbC) g.2.1 g.2.2) (fun g=>lu.length - g.1) (0,v,s) (aa2 cl7) (Sc.refl _) ⟨Nat.zero_le _,by simpa [upTo] using hrow⟩ ?_
     clear hrow
     rintro ⟨j,v,s⟩ ⟨hj,hrow⟩
     simp only at hj hrow ⊢
     by_cases hjl:j<lu.length
     ·obtain ⟨b0,cap0,cs0,u,t,τ,e0,p0,c0,hu,_⟩:=RowsOf.at hRW (aC7 (f:=r.field) l hjl)
      rw [av3] at e0
      cases e0
      obtain ⟨a1,ca1,rfl⟩:=RowIs.slice hu
      rw [List.length_map] at c0
      have hlen5:=ad9 (bl5 x w r) j
      have hSJ:=ag4 j (degP x w r)
      have hdeg:degE w r j=(idxs l r.field j).length:=by rw [bk8];unfold degE;rw [ae8 hl]
      have hfa:fieldAt x r.kind r.field=some d:=by rw [ah2 (by omega) (by omega) (by simpa using hkd)];simpa using hd
      have hJP:degP x w r j=one r.kind j r.field (if ((idxs l r.field j).length:Int)<d.lo∨d.hi<((idxs l r.field j).length:Int) then 11 else 0):=by unfold degP;rw [hfa,hdeg]
      rw [hJP] at hSJ
      generalize (idxs l r.field j).length=m at *
      have mo:(b0,Blk.cells 22 cs0)∈R:=by rw [hR];exact List.mem_cons_of_mem _ (List.mem_cons_of_mem _ (hpa.mem_iff.2 (List.mem_append_left _ (p0.mem_iff.2 List.mem_cons_self))))
      have lds:∀ z:Nat × Blk,(b0,Blk.cells 22 cs0)∈z :: (s ++ R):=fun z=>List.mem_cons_of_mem _ (List.mem_append_right _ mo)
      by_cases h1:(m:Int)<d.lo
      ·rw [if_pos (.inl h1)] at hSJ
       repeat' first|refine sq6 ?_|(intro b;conv=>whnf)
       refine Ld.cellm (tb:=22) (cs:=cs0) (lds _) (by rw [ix1];exact c0) ?_
       ((repeat' (first|refine sq6 ?_|(intro b;conv=>whnf)));(refine al6 mixed aa0 rfl [0,1,2,3,4,5,6,7,8,9,10,11,12,13,14,15,16,17,18,19] 1 (inE [20]) (.one 20 .done) (γ:=Value × aa1) (fun _=>[]) (fun g=>(c,.cells 145 (ckC x w (ab8 x) rm lm g.1)) :: (g.2 ++ R)) (fun g=>RowIs 135 4 ((L1 ++ L2 ++ L3 ++ upTo (j+1) (degP x w r)).map prbC) g.1 g.2) (by decide +kernel) ?_ ?_))
       ·repeat' first|refine sq6 ?_|(intro b;conv=>whnf)
        (refine CE.own (aL6 x w (ab8 x) rm lm c _ _ _ _ _ _ _ hrow (by (try simp only [List.length_append]);omega)) (List.Perm.refl _) (fun s'=>s' ++ _) (fun s'=>List.Perm.refl _) ?_;rintro _ _ ⟨v',s',rfl,rfl,hr'⟩)
        repeat' first|refine sq6 ?_|(intro b;conv=>whnf)
        exact ⟨(v',s'),(aa2 cl7),Sc.refl _,by rw [hSJ,← List.append_assoc];exact hr'⟩
       ·rintro ⟨v',s'⟩ hr'
        repeat' first|refine sq6 ?_|(intro b;conv=>whnf)
        exact ⟨(j+1,v',s'),(aa2 cl7),Sc.refl _,⟨by simp only;omega,hr'⟩,by simp only;omega⟩
      ·by_cases h2:d.hi<(m:Int)
       ·rw [if_pos (.inr h2)] at hSJ
        repeat' first|refine sq6 ?_|(intro b;conv=>whnf)
        refine Ld.cellm (tb:=22) (cs:=cs0) (lds _) (by rw [ix1];exact c0) ?_
        ((repeat' (first|refine sq6 ?_|(intro b;conv=>whnf)));(refine al6 mixed aa0 rfl [0,1,2,3,4,5,6,7,8,9,10,11,12,13,14,15,16,17,18,19] 1 (inE [20]) (.one 20 .done) (γ:=Value × aa1) (fun _=>[]) (fun g=>(c,.cells 145 (ckC x w (ab8 x) rm lm g.1)) :: (g.2 ++ R)) (fun g=>RowIs 135 4 ((L1 ++ L2 ++ L3 ++ upTo (j+1) (degP x w r)).map prbC) g.1 g.2) (by decide +kernel) ?_ ?_))
        ·repeat' first|refine sq6 ?_|(intro b;conv=>whnf)
         (refine CE.own (aL6 x w (ab8 x) rm lm c _ _ _ _ _ _ _ hrow (by (try simp only [List.length_append]);omega)) (List.Perm.refl _) (fun s'=>s' ++ _) (fun s'=>List.Perm.refl _) ?_;rintro _ _ ⟨v',s',rfl,rfl,hr'⟩)
         repeat' first|refine sq6 ?_|(intro b;conv=>whnf)
         exact ⟨(v',s'),(aa2 cl7),Sc.refl _,by rw [hSJ,← List.append_assoc];simpa [h2] using hr'⟩
        ·rintro ⟨v',s'⟩ hr'
         repeat' first|refine sq6 ?_|(intro b;conv=>whnf)
         exact ⟨(j+1,v',s'),(aa2 cl7),Sc.refl _,⟨by simp only;omega,hr'⟩,by simp only;omega⟩
       ·rw [if_neg (by omega)] at hSJ
        repeat' first|refine sq6 ?_|(intro b;conv=>whnf)
        refine Ld.cellm (tb:=22) (cs:=cs0) (lds _) (by rw [ix1];exact c0) ?_
        ((repeat' (first|refine sq6 ?_|(intro b;conv=>whnf)));(refine al6 mixed aa0 rfl [0,1,2,3,4,5,6,7,8,9,10,11,12,13,14,15,16,17,18,19] 1 (inE [20]) (.one 20 .done) (γ:=Value × aa1) (fun _=>[]) (fun g=>(c,.cells 145 (ckC x w (ab8 x) rm lm g.1)) :: (g.2 ++ R)) (fun g=>RowIs 135 4 ((L1 ++ L2 ++ L3 ++ upTo (j+1) (degP x w r)).map prbC) g.1 g.2) (by decide +kernel) ?_ ?_))
        ·repeat' first|refine sq6 ?_|(intro b;conv=>whnf)
         (refine CE.own (aL6 x w (ab8 x) rm lm c _ _ _ _ _ _ _ hrow (by (try simp only [List.length_append]);omega)) (List.Perm.refl _) (fun s'=>s' ++ _) (fun s'=>List.Perm.refl _) ?_;rintro _ _ ⟨v',s',rfl,rfl,hr'⟩)
         repeat' first|refine sq6 ?_|(intro b;conv=>whnf)
         exact ⟨(v',s'),(aa2 cl7),Sc.refl _,by rw [hSJ,← List.append_assoc];simpa [h2] using hr'⟩
        ·rintro ⟨v',s'⟩ hr'
         repeat' first|refine sq6 ?_|(intro b;conv=>whnf)
         exact ⟨(j+1,v',s'),(aa2 cl7),Sc.refl _,⟨by simp only;omega,hr'⟩,by simp only;omega⟩
     ·obtain rfl:j=lu.length:=by omega
      repeat' first|refine sq5 ?_|(intro b;conv=>whnf)
      exact ⟨(q+1,v,s),(aa2 cl7),Sc.refl _,⟨by simp only;omega,by rw [hSQ,← List.append_assoc];exact hrow⟩,by simp only;omega⟩
    ·obtain rfl:q=(ab8 x).length:=by omega
     have hC:ba9 x w=L1 ++ L2 ++ upTo (ab8 x).length (aN0 x w):=by unfold ba9;rw [if_pos hfit,hL1,hL2]
     repeat' first|refine sq5 ?_|(intro b;conv=>whnf)
     rw [hC]
     exact Rt.vs (Vs.row hrow (τ:=(c,.cells 145 (ckC x w (ab8 x) rm lm v)) :: R) cl18)
end
section
open Go.RowKit Go.Shelf
def Bld (w:World) (B b n:Nat) (O:Option Nat):Prop:=
 ∃ (l:List UInt8) (p v:Value),l.length=n∧(p = .pointer none∨p = .pointer (some ⟨b,0,none⟩))∧B≤b∧w.heap[b]?=some (.cells #[p,v] 266 (0,0)) ∧
  w.ownsRow B 5 1 v l.length (Lib.byteCells l)∧v.ownBlock=O∧O≠some b
theorem Ex.grownBy {w w':World} (h:Ex w w'):w.grownBy w' none:=⟨Keep.os h,Keep.tape h,Keep.output h,Keep.size h,fun k hk _=>Ex.block h k hk⟩
theorem Bld.lt {w:World} {B b n:Nat} {O:Option Nat} (h:Bld w B b n O):b<w.heap.size:=by
 obtain ⟨l,p,v,_,_,_,hb,_⟩:=h
 rcases Nat.lt_or_ge b w.heap.size with h' | h'
 ·exact h'
 ·simp [Array.getElem?_eq_none h'] at hb
theorem Bld.le {w:World} {B b n:Nat} {O:Option Nat} (h:Bld w B b n O):B≤w.heap.size:=by
 have:=h.lt
 obtain ⟨l,p,v,_,_,hB,_⟩:=h
 omega
theorem Bld.ex {w w':World} {B b n:Nat} {O:Option Nat} (h:Bld w B b n O) (he:Ex w w'):Bld w' B b n O:=by
 have hlt:=h.lt
 obtain ⟨l,p,v,h1,h2,h3,h4,h5,h6,h7⟩:=h
 exact ⟨l,p,v,h1,h2,h3,by rw [he.block b hlt];exact h4,h5.kept he.grownBy (by cases h:v.ownBlock <;> simp),h6,h7⟩
theorem Bld.fresh (w:World) (B:Nat) (hB:B≤w.heap.size):Bld (w.alloc (.cells #[.pointer none,.slice none 0 0] 266)) B w.heap.size 0 none:=
 ⟨[],.pointer none,.slice none 0 0,rfl,.inl rfl,hB,by show (w.heap.push _)[w.heap.size]?=_;simp,World.ownsRow_nil _ _ _ _,rfl,by simp⟩
theorem infoByte:(Tryz.prog.info? 5).map (fun i=>(i.zero,i.size,i.bytes))=some (some (.int .u8 0),1,1):=by kernel_rfl
theorem sizeBuilder:(Tryz.prog.info? 266).map (fun i=>i.size)=some 2:=by kernel_rfl
theorem aN1 (b:Nat) (w:World) (h0:w.cell? ⟨b,0,none⟩=some (.pointer (some ⟨b,0,none⟩))) :
  Calls Tryz.prog 205 #[.pointer (some ⟨b,0,none⟩)] w fun e w'=>e = .returned (.tuple #[])∧w=w':=by
 obtain ⟨j,hj,_⟩:=Option.map_eq_some_iff.1 sizeBuilder
 go_enter Tryz.func205,Tryz.ntmps205
 go_wp2
 rw [Lib.run_neq_ptr_same w _ Tryz.underlying264 hj]
 go_wp2
 go_end0
 exact ⟨rfl,rfl⟩
theorem aL5 (b:Nat) (w:World) (h0:w.cell? ⟨b,0,none⟩=some (.pointer none)) (hsh:w.shape? b=some (266,2)) (hfz:w.frozen? ⟨b,0,none⟩=false) :
  Calls Tryz.prog 205 #[.pointer (some ⟨b,0,none⟩)] w fun e w'=>e = .returned (.tuple #[])∧w'=w.setCell ⟨b,0,none⟩ (.pointer (some ⟨b,0,none⟩)):=by
 obtain ⟨j,hj,hjs⟩:=Option.map_eq_some_iff.1 sizeBuilder
 go_enter Tryz.func205,Tryz.ntmps205
 go_wp2
 rw [Lib.run_to_unsafe w ⟨b,0,none⟩ Tryz.underlying264 Tryz.underlying323 hj (by rw [hjs];decide) hsh (Nat.zero_lt_succ 1)]
 simp only [Result.andThen]
 rw [Oper.upon_value]
 go_wp2
 rw [run_callFunc_extern Tryz.func239 (by kernel_rfl) (by kernel_rfl) (by kernel_rfl) (e:=Extern.AbiNoEscape.same) (by kernel_rfl)]
 rw [Lib.run_noEscape]
 simp only [Result.andThen]
 rw [Oper.upon_value]
 go_wp2
 rw [Lib.run_from_unsafe w ⟨b,0,none⟩ Tryz.underlying323 Tryz.underlying264 hj hsh (by kernel_rfl)]
 simp only [Result.andThen]
 rw [Oper.upon_value]
 go_wp2
 go_end0
 exact ⟨rfl,rfl⟩
theorem aC5 {w:World} {B b n:Nat} {O:Option Nat} (h:Bld w B b n O) :
  Calls Tryz.prog 205 #[.pointer (some ⟨b,0,none⟩)] w fun e w'=>e = .returned (.tuple #[])∧(Keep (fun x=>x=b) w w' ∧
   ∃ (l:List UInt8) (v:Value),l.length=n∧B≤b∧w'.heap[b]?=some (.cells #[.pointer (some ⟨b,0,none⟩),v] 266 (0,0))∧w'.ownsRow B 5 1 v l.length (Lib.byteCells l)∧v.ownBlock=O∧O≠some b):=by
 have hlt:=h.lt
 obtain ⟨l,p,v,h1,h2,h3,h4,h5,h6,h7⟩:=h
 rcases h2 with rfl|rfl
 ·refine (aL5 b w (by simp [World.cell?,h4]) (by simp [World.shape?,h4]) (by simp [World.frozen?,h4])).mono ?_
  rintro e w' ⟨rfl,rfl⟩
  refine ⟨rfl,(Keep.refl (fun x=>x=b) w).setCell (p:=⟨b,0,none⟩) (.inr rfl) _,l,v,h1,h3,?_,ownsRow_setCell_other h5 (by rw [h6];exact h7) _,h6,h7⟩
  simp only [World.setCell,Array.getElem?_modify,if_true,h4]
  rfl
 ·refine (aN1 b w (by simp [World.cell?,h4])).mono ?_
  rintro e w' ⟨rfl,rfl⟩
  exact ⟨rfl,Keep.refl _ _,l,v,h1,h3,h4,h5,h6,h7⟩
def Wrote (w w':World) (B b n:Nat) (O:Option Nat):Prop:=Keep (fun x=>x=b∨some x=O) w w'∧∃ O',Bld w' B b n O'∧(O'=O∨∃ g,O'=some g∧w.heap.size≤g)
theorem aG2 {w:World} {base:Nat} {v v':Value} {n:Nat} {xs:List Value} (hown:w.ownsRow base 5 1 v n xs) (s:ByteArray) (hbytes:n+s.size≤140737488355328) {w':World} {ty:TypeId}
  (hrun:(Builtin.append_ #[23,9] ty #[v,.string s]).run Tryz.prog w = .ok v' w'):v'.ownBlock=v.ownBlock∨v'.ownBlock=some w.heap.size:=by
 obtain ⟨i,hi,hz0,hz1,hz2⟩:=info_parts infoByte
 rcases hown.2 with ⟨rfl,rfl⟩|⟨g,cap,cur,rfl,hbg,hg,hnc,hcm,hcs,htake⟩
 ·by_cases hm:s.size=0
  ·have hf:=Lib.run_firstCells_string (P:=Tryz.prog) w 1 s
   rw [hm] at hf
   simp [Builtin.append_,run_underlying Tryz.underlying23,run_underlying Tryz.underlying9,sizeOf,typeInfo,hi,hz1,Builtin.lenOf,hm,hf] at hrun
   obtain ⟨rfl,rfl⟩:=hrun
   exact .inl rfl
  ·have hr:=run_append_nil_string (P:=Tryz.prog) w 23 9 ty 5 i (.int .u8 0) Tryz.underlying23 Tryz.underlying9 hi hz0 s (by omega) (by omega) (by rw [hz2];omega)
   rw [hr] at hrun
   cases hrun
   exact .inr rfl
 ·by_cases hroom:n+s.size≤cap
  ·have hcs':cur.size=cap:=by simpa using hcs
   have hr:=Lib.run_append_room_string (P:=Tryz.prog) w 23 9 ty 5 i Tryz.underlying23 Tryz.underlying9 hi hz1 g n cap cur hg s hroom (by omega)
   rw [hr] at hrun
   cases hrun
   exact .inl rfl
  ·have holds:∀ j u,xs[j]?=some u→w.cell? ((⟨g,0,none⟩:Addr).add j)=some u:=hown.cells (g:=g) rfl
   have hr:=Lib.run_append_grow_string (P:=Tryz.prog) w 23 9 ty 5 i (.int .u8 0) Tryz.underlying23 Tryz.underlying9 hi hz0 ⟨g,0,none⟩ n cap xs (by rw [hz1];simpa using hown.1) holds s (by omega) (by omega) (by rw [hz2];exact growslice_fits (by omega) (by omega))
   rw [hr] at hrun
   cases hrun
   exact .inr rfl
theorem aC9 {w:World} {ops:Array Oper} {rest:List Oper} {o:Oper} {a:Act} {Q:Exit→Act→World→Prop} (hgd:o.guard=none) (sl x:Operand)
  (ho:o.op = .call { callee:=.builtin .append,args:=#[sl,x],argTypes:=#[23,9] })
  (base:Nat) (v:Value) (n:Nat) (xs:List Value) (hs:a.eval sl=v) (hown:w.ownsRow base 5 1 v n xs) (s:ByteArray) (hx:a.eval x = .string s)
  (hbytes:n+s.size≤140737488355328) (hbase:base≤w.heap.size)
  (h:∀ v' w',w'.ownsRow base 5 1 v' (n+s.size) (xs ++ Lib.strCells s)→w.grownBy w' v.ownBlock→(v'.ownBlock=v.ownBlock∨v'.ownBlock=some w.heap.size)→wpList Tryz.prog ops Q rest (a.put o.dst v') w'):wpList Tryz.prog ops Q (o :: rest) a w:=by
 obtain ⟨i,hi,hz0,hz1,hz2⟩:=info_parts infoByte
 refine wpList_plain hgd fun K hK=>?_
 obtain ⟨v',w',hr,h2,h3,h4⟩:=Lib.run_append_own_string (P:=Tryz.prog) w base 23 9 o.type 5 i Tryz.underlying23 Tryz.underlying9 hi hz0 hz1 hz2 v n xs hown s (by unfold maxLen;omega) hbytes hbase
 have h5:=aG2 hown s hbytes hr
 unfold Oper.wp execOp
 simp only [ho,resolve,invoke,builtin,Sem.run_bind,Sem.run_pure,Result.andThen_ok,List.map_toArray,List.map_cons,List.map_nil,hs,hx,hr]
 exact hK _ _ (h v' w' h2 h3 h5)
theorem aM5 (s:ByteArray):Lib.strCells s=Lib.byteCells s.data.toList:=by
 simp [Lib.strCells,Lib.byteCells]
theorem av5 (l m:List UInt8):Lib.byteCells l ++ Lib.byteCells m=Lib.byteCells (l ++ m):=by simp [Lib.byteCells]
theorem byteCells_length (l:List UInt8):(Lib.byteCells l).length=l.length:=by simp [Lib.byteCells]
theorem bg8 {w w1 w2:World} {B b n m:Nat} {O:Option Nat} {v v':Value} {l:List UInt8} (hk:Keep (fun x=>x=b) w w1) (hl:l.length=n+m) (hB:B≤b) (hb1:w1.heap[b]?=some (.cells #[.pointer (some ⟨b,0,none⟩),v] 266 (0,0)))
  (hO:v.ownBlock=O) (hne:O≠some b) (hown:w2.ownsRow B 5 1 v' (n+m) (Lib.byteCells l)) (hgrow:w1.grownBy w2 v.ownBlock) (hat:v'.ownBlock=v.ownBlock∨∃ g,v'.ownBlock=some g∧w1.heap.size≤g) :
  Wrote w (w2.setCell ⟨b,1,none⟩ v') B b (n+m) O:=by
 have hlt:b<w1.heap.size:=by
  rcases Nat.lt_or_ge b w1.heap.size with h' | h'
  ·exact h'
  ·simp [Array.getElem?_eq_none h'] at hb1
 have hb2:w2.heap[b]?=some (.cells #[.pointer (some ⟨b,0,none⟩),v] 266 (0,0)):=by
  rw [hgrow.block b hlt (fun e=>hne (hO ▸ e.symm))];exact hb1
 have hne':v'.ownBlock≠some b:=by
  rcases hat with h|⟨g,h,hg⟩
  ·rw [h,hO];exact hne
  ·rw [h];intro e;cases e;omega
 refine ⟨?_,v'.ownBlock,⟨l,_,v',hl,.inr rfl,hB,?_,?_,rfl,hne'⟩,?_⟩
 ·have h1:Keep (fun x=>x=b∨some x=O) w w1:=hk.mono (fun x _ h=>.inl h)
  have h2:Keep (fun x=>x=b∨some x=O) w w2:=h1.grown hgrow (fun k e=>.inr (.inr (by rw [← hO,e])))
  exact h2.setCell (p:=⟨b,1,none⟩) (.inr (.inl rfl)) _
 ·simp only [World.setCell,Array.getElem?_modify,if_true,hb2]
  rfl
 ·rw [hl];exact ownsRow_setCell_other hown hne' _
 ·rcases hat with h|⟨g,h,hg⟩
  ·exact .inl (h.trans hO)
  ·exact .inr ⟨g,h,Nat.le_trans hk.size hg⟩
theorem au9 {w:World} {b:Nat} {o:Obj} (h:w.heap[b]?=some o):b<w.heap.size:=by
 rcases Nat.lt_or_ge b w.heap.size with h' | h'
 ·exact h'
 ·simp [Array.getElem?_eq_none h'] at h
theorem ai6 {w:World} {B b n:Nat} {O:Option Nat} (h:Bld w B b n O) (s:ByteArray) (hn:n+s.size≤140737488355328) :
  Calls Tryz.prog 163 #[.pointer (some ⟨b,0,none⟩),.string s] w fun e w'=>e = .returned (.tuple #[.int .i64 s.size,.nilIface])∧Wrote w w' B b (n+s.size) O:=by
 have HC:=Lib.hid (aC5 h)
 have hBw:=h.le
 go_enter Tryz.func163,Tryz.ntmps163
 go_wp2_with (go_at_call 205;refine HC.out.mono ?_)
 rintro e w1 ⟨rfl,hk,l,v,hl,hB,hb1,hown,hO,hne⟩
 have HB:=Lib.hid hb1
 have HL:=Lib.hid hl
 have HO:=Lib.hid hO
 have c0:w1.cell? ⟨b,0,none⟩=some (.pointer (some ⟨b,0,none⟩)):=by simp [World.cell?,hb1]
 have c1:w1.cell? ⟨b,1,none⟩=some v:=by simp [World.cell?,hb1]
 clear hb1 hl hO
 have hsz:=hk.size
 go_wp2_with (at_builtin;refine aC9 rfl _ _ rfl B v _ _ rfl hown s rfl (by rw [HL.out];exact hn) (by omega) ?_)
 intro v' w2 hown' hgrow hat
 have hb2:w2.heap[b]?=some (.cells #[.pointer (some ⟨b,0,none⟩),v] 266 (0,0)):=by
  rw [hgrow.block b (au9 HB.out) (fun e=>hne (HO.out ▸ e.symm))];exact HB.out
 have d1:w2.cell? ⟨b,1,none⟩=some v:=by simp [World.cell?,hb2]
 have d0:w2.cell? ⟨b,0,none⟩=some (.pointer (some ⟨b,0,none⟩)):=by simp [World.cell?,hb2]
 have f1:w2.frozen? ⟨b,1,none⟩=false:=by simp [World.frozen?,hb2]
 clear hb2
 have HW:Hid (Wrote w (w2.setCell ⟨b,1,none⟩ v') B b (n+s.size) O):=by
  refine bg8 (l:=l ++ s.data.toList) hk ?_ hB HB.out HO.out hne ?_ hgrow ?_
  ·rw [List.length_append,HL.out];rfl
  ·rw [← av5,← aM5,← HL.out];exact hown'
  ·rcases hat with h|h
   ·exact .inl h
   ·exact .inr ⟨_,h,Nat.le_refl _⟩
 obtain ⟨ao,n',cap,rfl⟩:∃ ao n' cap,v' = .slice ao n' cap:=by
  rcases hown'.2 with ⟨hv,h0⟩|⟨g,cap,cur,hv,_⟩
  ·exact ⟨_,_,_,hv⟩
  ·exact ⟨_,_,_,hv⟩
 clear hown hown' hgrow hat
 go_wp2
 go_ret2
 exact ⟨rfl,HW.out⟩
theorem aP8 {w:World} {B b n:Nat} {O:Option Nat} (h:Bld w B b n O) (c:UInt8) (hn:n+1≤140737488355328) :
  Calls Tryz.prog 259 #[.pointer (some ⟨b,0,none⟩),.int .u8 c.toNat] w fun e w'=>e = .returned .nilIface∧Wrote w w' B b (n+1) O:=by
 have HC:=Lib.hid (aC5 h)
 have hBw:=h.le
 obtain ⟨i0,hi,hz0,hz1,hz2⟩:=info_parts infoByte
 go_enter Tryz.func259,Tryz.ntmps259
 go_wp2_with (go_at_call 205;refine HC.out.mono ?_)
 rintro e w1 ⟨rfl,hk,l,v,hl,hB,hb1,hown,hO,hne⟩
 have HB:=Lib.hid hb1
 have HL:=Lib.hid hl
 have HO:=Lib.hid hO
 have c0:w1.cell? ⟨b,0,none⟩=some (.pointer (some ⟨b,0,none⟩)):=by simp [World.cell?,hb1]
 have c1:w1.cell? ⟨b,1,none⟩=some v:=by simp [World.cell?,hb1]
 have hlt:=au9 hb1
 clear hb1 hl hO
 have hsz:=hk.size
 go_wp2_with (at_builtin;refine wpList_append_own_at _ rfl _ _ 23 rfl B 5 i0 (.int .u8 0) 1 1 Tryz.underlying23 hi hz0 hz1 hz2 rfl (by decide) v _ _ rfl (hown.alloc _) ⟨w1.heap.size,0,none⟩ 1 1 [.int .u8 c.toNat] rfl rfl ?c1 ?c2 ?c3 ?c4 ?c5 ?_)
 case c1=>exact cell_one_new _ _ _
 case c2=>simp [Value.oneCell']
 case c3=>unfold maxLen;rw [HL.out];omega
 case c4=>rw [HL.out];omega
 case c5=>simp;omega
 intro v' w2 hown' hgrow _ hat
 have hb1':(w1.alloc (.cells #[.int .u8 c.toNat] 5)).heap[b]?=some (.cells #[.pointer (some ⟨b,0,none⟩),v] 266 (0,0)):=by
  rw [Below.heap_alloc _ _ _ hlt];exact HB.out
 have hb2:w2.heap[b]?=some (.cells #[.pointer (some ⟨b,0,none⟩),v] 266 (0,0)):=by
  rw [hgrow.block b (au9 hb1') (fun e=>hne (HO.out ▸ e.symm))];exact hb1'
 have d1:w2.cell? ⟨b,1,none⟩=some v:=by simp [World.cell?,hb2]
 have d0:w2.cell? ⟨b,0,none⟩=some (.pointer (some ⟨b,0,none⟩)):=by simp [World.cell?,hb2]
 have f1:w2.frozen? ⟨b,1,none⟩=false:=by simp [World.frozen?,hb2]
 clear hb2
 have HW:Hid (Wrote w (w2.setCell ⟨b,1,none⟩ v') B b (n+1) O):=by
  refine bg8 (l:=l ++ [c]) (hk.alloc _) ?_ hB hb1' HO.out hne ?_ hgrow ?_
  ·rw [List.length_append,HL.out];rfl
  ·rw [← av5,← HL.out];exact hown'
  ·rcases hat with h|h
   ·exact .inl h
   ·exact .inr ⟨_,h,by simp⟩
 clear hb1'
 obtain ⟨ao,n',cap,rfl⟩:∃ ao n' cap,v' = .slice ao n' cap:=by
  rcases hown'.2 with ⟨hv,h0⟩|⟨g,cap,cur,hv,_⟩
  ·exact ⟨_,_,_,hv⟩
  ·exact ⟨_,_,_,hv⟩
 clear hown hown' hgrow hat
 go_wp2
 go_ret
 exact ⟨rfl,HW.out⟩
theorem aI4 {w:World} {B b n:Nat} {O:Option Nat} (h:Bld w B b n O) (hn:n+1≤140737488355328) :
  Calls Tryz.prog 259 #[.pointer (some ⟨b,0,none⟩),.int .u8 32] w fun e w'=>e = .returned .nilIface∧Wrote w w' B b (n+1) O:=aP8 h 32 hn
end
end Go.Proofs.YtlcfiilejnnlnaaGreatDoor
namespace Go.Proofs
open Go.Shelf
def Tryz.lays169_ren:Go.Shelf.Ren:=⟨fun | 169=>164|n=>n,fun | 70=>264 | 9=>9 | 0=>0 | 72=>266 | 37=>23 | 127=>307 | 3=>3 | 5=>5|n=>n,fun|n=>n⟩
theorem Tryz.lays169:Go.Proofs.Lays.n169 Tryz.prog Tryz.lays169_ren:={
 mixed:=by kernel_rfl
 f169:=Tryz.func164.trans (congrArg some (by kernel_rfl))
 t0:=Tryz.underlying0
 a0:=Tryz.isAgg0
 z0:=Tryz.sizeOf0
 v0:=Tryz.zeroValue0
 t3:=Tryz.underlying3
 a3:=Tryz.isAgg3
 z3:=Tryz.sizeOf3
 v3:=Tryz.zeroValue3
 t9:=Tryz.underlying9
 a9:=Tryz.isAgg9
 z9:=Tryz.sizeOf9
 v9:=Tryz.zeroValue9
 t37:=Tryz.underlying23
 a37:=Tryz.isAgg23
 z37:=Tryz.sizeOf23
 v37:=Tryz.zeroValue23
 t70:=Tryz.underlying264
 a70:=Tryz.isAgg264
 z70:=Tryz.sizeOf264
 v70:=Tryz.zeroValue264
 t72:=Tryz.underlying266
 a72:=Tryz.isAgg266
 z72:=Tryz.sizeOf266
 v72:=Tryz.zeroValue266
 t127:=Tryz.underlying307
 a127:=Tryz.isAgg307
 z127:=Tryz.sizeOf307
 v127:=Tryz.zeroValue307 }
theorem Tryz.Builder_Extra_169:Builder.Extra Tryz.prog Tryz.lays169_ren:={
 sizeBuilder:=by kernel_rfl
 liesBuilder:=by kernel_rfl
 t5:=Tryz.underlying5
 a5:=Tryz.isAgg5
 z5:=Tryz.sizeOf5
 v5:=Tryz.zeroValue5
 infoByte:=by kernel_rfl
 cellsByte:=by kernel_rfl
 sizeByte:=by kernel_rfl
 neB5:=by decide }
open Go.RowKit in
theorem Tryz.Builder_String_any (B b:Nat) (l:List UInt8) (w:World) (h:Lib.IsBuilder 266 5 B b (Lib.byteCells l) w) (hBw:B≤w.heap.size) :
  Calls Tryz.prog 164 #[.pointer (some ⟨b,0,none⟩)] w fun e w'=>e = .returned (.string ⟨l.toArray⟩)∧Below B w w':=Any.Builder_String_any Tryz.lays169 Tryz.Builder_Extra_169 B b l w h hBw
def Tryz.laysM246_ren:Go.Shelf.Ren:=⟨fun | 246=>265 | 283=>266 | 284=>267 | 285=>268 | 286=>269 | 129=>271 | 317=>270 | 318=>272 | 319=>273 | 320=>274 | 337=>275 | 338=>276|n=>n,fun | 2=>2 | 3=>3 | 9=>9 | 4=>4 | 171=>341 | 0=>0 | 53=>167 | 37=>23 | 5=>5 | 173=>344 | 212=>347 | 51=>168 | 20=>20 | 213=>348 | 46=>180 | 232=>176 | 233=>170|n=>n,fun | 17=>5 | 18=>6 | 19=>7|n=>n⟩
def Tryz.laysM243_ren:Go.Shelf.Ren:=⟨fun | 243=>264 | 246=>265 | 283=>266 | 284=>267 | 285=>268 | 286=>269 | 129=>271 | 317=>270 | 318=>272 | 319=>273 | 320=>274 | 337=>275 | 338=>276|n=>n,fun | 3=>3 | 9=>9 | 2=>2 | 4=>4 | 171=>341 | 0=>0 | 53=>167 | 37=>23 | 5=>5 | 173=>344 | 212=>347 | 51=>168 | 20=>20 | 213=>348 | 46=>180 | 232=>176 | 233=>170|n=>n,fun | 17=>5 | 18=>6 | 19=>7|n=>n⟩
def Tryz.laysM171_ren:Go.Shelf.Ren:=⟨fun | 171=>260 | 243=>264 | 246=>265 | 283=>266 | 284=>267 | 285=>268 | 286=>269 | 129=>271 | 317=>270 | 318=>272 | 319=>273 | 320=>274 | 337=>275 | 338=>276|n=>n,fun | 3=>3 | 9=>9 | 2=>2 | 4=>4 | 171=>341 | 0=>0 | 53=>167 | 37=>23 | 5=>5 | 173=>344 | 212=>347 | 51=>168 | 20=>20 | 213=>348 | 46=>180 | 232=>176 | 233=>170|n=>n,fun | 17=>5 | 18=>6 | 19=>7|n=>n⟩
theorem Tryz.laysM171:Go.Proofs.LaysM.n171 Tryz.prog Tryz.laysM171_ren:={
 mixed:=by kernel_rfl
 f129:=Tryz.func271.trans (congrArg some (by kernel_rfl))
 f171:=Tryz.func260.trans (congrArg some (by kernel_rfl))
 f243:=Tryz.func264.trans (congrArg some (by kernel_rfl))
 f246:=Tryz.func265.trans (congrArg some (by kernel_rfl))
 f283:=Tryz.func266.trans (congrArg some (by kernel_rfl))
 f284:=Tryz.func267.trans (congrArg some (by kernel_rfl))
 f285:=Tryz.func268.trans (congrArg some (by kernel_rfl))
 f286:=Tryz.func269.trans (congrArg some (by kernel_rfl))
 f317:=Tryz.func270.trans (congrArg some (by kernel_rfl))
 f318:=Tryz.func272.trans (congrArg some (by kernel_rfl))
 f319:=Tryz.func273.trans (congrArg some (by kernel_rfl))
 f320:=Tryz.func274.trans (congrArg some (by kernel_rfl))
 f337:=Tryz.func275.trans (congrArg some (by kernel_rfl))
 f338:=Tryz.func276.trans (congrArg some (by kernel_rfl))
 t0:=Tryz.underlying0
 a0:=Tryz.isAgg0
 z0:=Tryz.sizeOf0
 v0:=Tryz.zeroValue0
 t2:=Tryz.underlying2
 a2:=Tryz.isAgg2
 z2:=Tryz.sizeOf2
 v2:=Tryz.zeroValue2
 t3:=Tryz.underlying3
 a3:=Tryz.isAgg3
 z3:=Tryz.sizeOf3
 v3:=Tryz.zeroValue3
 t4:=Tryz.underlying4
 a4:=Tryz.isAgg4
 z4:=Tryz.sizeOf4
 v4:=Tryz.zeroValue4
 t5:=Tryz.underlying5
 a5:=Tryz.isAgg5
 z5:=Tryz.sizeOf5
 v5:=Tryz.zeroValue5
 t9:=Tryz.underlying9
 a9:=Tryz.isAgg9
 z9:=Tryz.sizeOf9
 v9:=Tryz.zeroValue9
 t20:=Tryz.underlying20
 a20:=Tryz.isAgg20
 z20:=Tryz.sizeOf20
 v20:=Tryz.zeroValue20
 t37:=Tryz.underlying23
 a37:=Tryz.isAgg23
 z37:=Tryz.sizeOf23
 v37:=Tryz.zeroValue23
 t46:=Tryz.underlying180
 a46:=Tryz.isAgg180
 z46:=Tryz.sizeOf180
 v46:=Tryz.zeroValue180
 t51:=Tryz.underlying168
 a51:=Tryz.isAgg168
 z51:=Tryz.sizeOf168
 v51:=Tryz.zeroValue168
 t53:=Tryz.underlying167
 a53:=Tryz.isAgg167
 z53:=Tryz.sizeOf167
 v53:=Tryz.zeroValue167
 t171:=Tryz.underlying341
 a171:=Tryz.isAgg341
 z171:=Tryz.sizeOf341
 v171:=Tryz.zeroValue341
 t173:=Tryz.underlying344
 a173:=Tryz.isAgg344
 z173:=Tryz.sizeOf344
 v173:=Tryz.zeroValue344
 t212:=Tryz.underlying347
 a212:=Tryz.isAgg347
 z212:=Tryz.sizeOf347
 v212:=Tryz.zeroValue347
 t213:=Tryz.underlying348
 a213:=Tryz.isAgg348
 z213:=Tryz.sizeOf348
 t232:=Tryz.underlying176
 a232:=Tryz.isAgg176
 z232:=Tryz.sizeOf176
 v232:=Tryz.zeroValue176
 t233:=Tryz.underlying170
 a233:=Tryz.isAgg170
 z233:=Tryz.sizeOf170
 v233:=Tryz.zeroValue170
 g17:=by kernel_rfl
 g18:=by kernel_rfl
 g19:=by kernel_rfl
 i0:=by kernel_rfl
 i2:=by kernel_rfl
 i3:=by kernel_rfl
 i4:=by kernel_rfl
 i5:=by kernel_rfl
 i9:=by kernel_rfl
 i20:=by kernel_rfl
 i37:=by kernel_rfl
 i46:=by kernel_rfl
 i51:=by kernel_rfl
 i53:=by kernel_rfl
 i171:=by kernel_rfl
 i173:=by kernel_rfl
 i212:=by kernel_rfl
 i232:=by kernel_rfl
 i233:=by kernel_rfl
 m17:=by kernel_rfl
 m18:=by kernel_rfl
 m19:=by kernel_rfl }
open Go.RowKit Go.Sort Go.Lib in
theorem Tryz.strconv_Itoa (n:Int) (h0:-9223372036854775808≤n) (h1:n≤9223372036854775807) (w:World) (htab:Lib.TabIs Tryz.prog w "internal/strconv.uint64pow10" .u64 Lib.pow10Tab) :
  Calls Tryz.prog 260 #[.int .i64 n] w fun e w'=>e = .returned (.string ⟨(Lib.itoa n).toArray⟩)∧∃ k os,w'=grow (w.drewN k) os:=Any.strconv_Itoa Tryz.laysM171 n h0 h1 w htab
end Go.Proofs
namespace Go.Proofs.YtlcfiilejnnlnaaGreatDoor
section
open Go
def intB (n:Int):Nat:=if -9999999≤n∧n≤9999999 then 8 else 21
theorem aK2 (u:Nat) (h:u≤9999999):Lib.nDigits u≤7:=by
 have step:∀ v:Nat,Lib.nDigits v≤Lib.nDigits (v / 10)+1:=fun v=>by
  rw [Lib.nDigits];split
  ·omega
  ·exact Nat.le_refl _
 have h1:=step u
 have h2:=step (u / 10)
 have h3:=step (u / 10 / 10)
 have h4:=step (u / 10 / 10 / 10)
 have h5:=step (u / 10 / 10 / 10 / 10)
 have h6:=step (u / 10 / 10 / 10 / 10 / 10)
 have h7:Lib.nDigits (u / 10 / 10 / 10 / 10 / 10 / 10)=1:=Lib.nDigits_small (by omega)
 omega
theorem ae6 (n:Int):intB n≤21:=by unfold intB;split <;> omega
def an0 (f:Fld):Nat:=16+f.name.size+f.of.size+f.up.size+intB f.lo+intB f.hi+intB f.words.length+(f.words.map fun s=>1+s.size).sum+(f.weights.map fun n=>1+intB n).sum
def sumB {α:Type} (f:α→Nat) (l:List α):Nat:=(l.map f).sum
theorem aw0 {α:Type} (f:α→Nat) (l:List α) (j:Nat) (x:α) (h:l[j]?=some x):sumB f (l.take (j+1))=sumB f (l.take j)+f x:=by
 simp [sumB,List.take_add_one,h,List.sum_append]
theorem aI8 {α:Type} (f:α→Nat) (l:List α):∀ j,sumB f (l.take j)≤sumB f l:=by
 induction l with
 | nil=>intro j;simp [sumB]
 | cons x l ih=>
  intro j
  cases j with
  | zero=>simp [sumB]
  | succ j=>have:=ih j;simp only [sumB,List.take_succ_cons,List.map_cons,List.sum_cons] at *;omega
def kndB (k:Knd):Nat:=8+k.name.size+intB k.lo+intB k.hi+sumB an0 k.fields
def movB (m:Int × Int):Nat:=7+intB m.1+intB m.2
def lifB (x:Lif):Nat:=7+x.name.size+intB x.states.length+sumB (fun s=>1+s.size) x.states+sumB movB x.moves
def rulB (r:Rul):Nat:=12+r.name.size+r.kind.size+r.a.size+r.b.size+intB r.n
def srcB (x:Sch):Nat:=29+sumB kndB x.kinds+sumB lifB x.lives+sumB rulB x.rules
/-! ### The source -/
def decN (m:Nat):ByteArray:=if m<10 then ⟨#[UInt8.ofNat (48+m)]⟩ else decN (m / 10) ++ ⟨#[UInt8.ofNat (48+m % 10)]⟩
termination_by m
decreasing_by omega
theorem aE2 {m:Nat} (h:m<10):decN m=⟨#[UInt8.ofNat (48+m)]⟩:=by rw [decN,if_pos h]
theorem aP3 {m:Nat} (h:¬ m<10):decN m=decN (m / 10) ++ ⟨#[UInt8.ofNat (48+m % 10)]⟩:=by rw [decN,if_neg h]
theorem aq5:∀ (c m:Nat),m<10 ^ (c+1)→(decN m).size≤c+1
 | 0,m,h=>by rw [aE2 (by omega)];exact Nat.le_refl 1
 | c+1,m,h=>by
  by_cases hm:m<10
  ·rw [aE2 hm];show 1≤_;omega
  ·rw [aP3 hm,ByteArray.size_append]
   have:=aq5 c (m / 10) (by rw [Nat.pow_succ] at h;omega)
   show _+1≤_
   omega
def decS (n:Int):ByteArray:=if n<0 then (⟨#[45]⟩:ByteArray) ++ decN (-n).toNat else decN n.toNat
theorem ba1 {n:Int} (h:-9223372036854775807≤n∧n≤9223372036854775807):(decS n).size≤intB n:=by
 have one:(⟨#[45]⟩:ByteArray).size=1:=rfl
 unfold decS intB
 split
 ·rw [ByteArray.size_append,one]
  split
  ·have:=aq5 6 (-n).toNat (by omega);omega
  ·have:=aq5 18 (-n).toNat (by omega);omega
 ·split
  ·have:=aq5 6 n.toNat (by omega);omega
  ·have:=aq5 18 n.toNat (by omega);omega
def andS (s:ByteArray) (n:Int):ByteArray:=s ++ (⟨#[32]⟩:ByteArray) ++ decS n
theorem bB9 {s:ByteArray} {n:Int} (h:-9223372036854775807≤n∧n≤9223372036854775807):(andS s n).size≤s.size+1+intB n:=by
 unfold andS
 rw [ByteArray.size_append,ByteArray.size_append]
 have:=ba1 h
 have:(⟨#[32]⟩:ByteArray).size=1:=rfl
 omega
def aO3 (s:ByteArray):ByteArray:=if isE s then ⟨#[45]⟩ else s
theorem be0 (s:ByteArray):(aO3 s).size≤s.size+1:=by
 unfold aO3;split
 ·show 1≤_;omega
 ·omega
end
section
open Go.RowKit Go.Shelf Go.Sort
theorem cc7 {w w':World} (he:Ex w w') {P:Program} {n:String} {cs:Array Value} (h:w.var? P n=some cs):w'.var? P n=some cs:=by
 unfold World.var? at h ⊢
 cases hg:P.globalNamed n with
 | none=>simp [hg] at h
 | some g=>
  simp only [hg,Option.bind_some] at h ⊢
  have hlt:g<w.heap.size:=by
   rcases Nat.lt_or_ge g w.heap.size with h' | h'
   ·exact h'
   ·simp [Array.getElem?_eq_none h'] at h
  rw [he.block g hlt]
  exact h
theorem Pow10.ex {w w':World} (h:Pow10 w) (he:Ex w w'):Pow10 w':=cc7 he h
theorem bW6 (w:World) (k:Nat) (os:Array Obj):Ex w (grow (w.drewN k) os):=
 ⟨rfl,rfl,rfl,by simp [grow,Array.size_append],fun b hb _=>by
  show (w.heap ++ os)[b]?=_
  rw [Array.getElem?_append_left hb]⟩
theorem bx0 (n:Int) (hn:I64 n):(Lib.itoa n).length≤intB n:=by
 unfold intB
 split
 ·by_cases hneg:n<0
  ·obtain ⟨u,rfl⟩:∃ u:Nat,n = -(u:Int):=⟨n.natAbs,by omega⟩
   rw [Lib.itoa_neg u (by omega),List.length_cons,Lib.decDigits_length]
   have:=aK2 u (by omega)
   omega
  ·obtain ⟨u,rfl⟩:∃ u:Nat,n=u:=⟨n.toNat,by omega⟩
   rw [Lib.itoa_nonneg,Lib.decDigits_length]
   have:=aK2 u (by omega)
   omega
 ·exact Lib.itoa_length_le n hn.1 hn.2
theorem bH6 (n:Int) (hn:I64 n) (w:World) (hp:Pow10 w) :
  Calls Tryz.prog 260 #[.int .i64 n] w fun e w'=>∃ s:ByteArray,e = .returned (.string s)∧s.size≤intB n∧Ex w w':=by
 refine (Tryz.strconv_Itoa n hn.1 hn.2 w hp).mono ?_
 rintro e w' ⟨rfl,k,os,rfl⟩
 refine ⟨_,rfl,?_,bW6 w k os⟩
 have:=bx0 n hn
 simpa [ByteArray.size] using this
def RAny (x:Int ⊕ ByteArray) (vs:List Value):Prop:=
 match x with
 | .inl n=>vs=[.iface 3 (.int .i64 n)]∧I64 n
 | .inr s=>vs=[.iface 9 (.string s)]
def aq7:Int ⊕ ByteArray→Nat
 | .inl n=>1+intB n
 | .inr s=>1+s.size
def ac0 (l:List (Int ⊕ ByteArray)):Nat:=(l.map aq7).sum
theorem be8 (l:List (Int ⊕ ByteArray)) (j:Nat) (x:Int ⊕ ByteArray) (h:l[j]?=some x):ac0 (l.take (j+1))=ac0 (l.take j)+aq7 x:=by
 simp [ac0,List.take_add_one,h,List.sum_append]
theorem aY8 (l:List (Int ⊕ ByteArray)):∀ j,ac0 (l.take j)≤ac0 l:=by
 induction l with
 | nil=>intro j;simp [ac0]
 | cons x l ih=>
  intro j
  cases j with
  | zero=>simp [ac0]
  | succ j=>have:=ih j;simp only [ac0,List.take_succ_cons,List.map_cons,List.sum_cons] at *;omega
theorem Wrote.ex {w wr w':World} {b n n':Nat} {O:Option Nat} (he:Ex w wr) (hb:Bld wr w.heap.size b n O) (hw:Wrote wr w' w.heap.size b n' O):Ex w w':=by
 obtain ⟨hk,_⟩:=hw
 obtain ⟨l,p,v,_,_,hB,_,hown,hO,_⟩:=hb
 refine ⟨hk.os.trans (Keep.os he),hk.tape.trans (Keep.tape he),hk.output.trans (Keep.output he),Nat.le_trans he.size hk.size,fun x hx _=>?_⟩
 rw [hk.block x (Nat.lt_of_lt_of_le hx he.size) ?_]
 ·exact he.block x hx
 ·rintro (rfl|h)
  ·omega
  ·have:=(hown.lt x (by rw [hO,h])).1;omega
theorem Wrote.bld {w w':World} {B b n:Nat} {O:Option Nat} (hw:Wrote w w' B b n O):∃ O',Bld w' B b n O':=by obtain ⟨_,O',h,_⟩:=hw;exact ⟨O',h⟩
theorem bB8 {w w':World} {F:Nat→Prop} {xs:List (Int ⊕ ByteArray)} {a:Option Addr} {cap:Nat} (h:Row 1 RAny w F xs a cap) (hex:Same F w w') {i:Nat} (hi:i<xs.length) :
  ∃ x b off v,Hid (xs[i]?=some x)∧a=some ⟨b,off,none⟩∧F b∧w'.cell? ⟨b,off+i,none⟩=some v∧Hid (RAny x [v]):=by
 obtain ⟨b,off,ha,hb,vs,hl,hr,hc⟩:=h.at_ i xs[i] (List.getElem?_eq_getElem hi)
 obtain ⟨v,rfl⟩:∃ v,vs=[v]:=by
  match vs,hl with
  | [v],_=>exact ⟨v,rfl⟩
 exact ⟨xs[i],b,off,v,Lib.hid (List.getElem?_eq_getElem hi),ha,hb,hex.cell (p:=⟨b,off+i,none⟩) (by have:=hc 0 _ rfl;simpa using this) hb,hr⟩
theorem cn0 (q:Int) (w:World):(Instr.typeAssert (.iface 3 (.int .i64 q)) 20 3 true).run Tryz.prog w = .ok (.tuple #[.int .i64 q,.bool true]) w:=by kernel_rfl
theorem cm9 (q:ByteArray) (w:World):(Instr.typeAssert (.iface 9 (.string q)) 20 3 true).run Tryz.prog w = .ok (.tuple #[.int .i64 0,.bool false]) w:=by kernel_rfl
theorem cm8 (q:ByteArray) (w:World):(Instr.typeAssert (.iface 9 (.string q)) 20 9 true).run Tryz.prog w = .ok (.tuple #[.string q,.bool true]) w:=by kernel_rfl
theorem aT6 (word:ByteArray) (items:List (Int ⊕ ByteArray)) (w:World) {F:Nat→Prop} {a:Option Addr} {cap:Nat} (h:Row 1 RAny w F items a cap) (hp:Pow10 w) (hl:items.length≤1000000) (hm:word.size+ac0 items≤1000000000) :
  Calls Tryz.prog 234 #[.string word,.slice a items.length cap] w fun e w'=>∃ s:ByteArray,e = .returned (.string s)∧s.size≤word.size+ac0 items+1∧Ex w w':=by
 have t1:=cn0
 have t2:=cm9
 have t3:=cm8
 have hbd:=Bld.fresh w w.heap.size (Nat.le_refl _)
 go_enter Tryz.func234,Tryz.ntmps234
 go_wp2_with (go_at_call 163;refine (ai6 hbd _ (by omega)).mono ?_;rintro e w1 ⟨rfl,hwr⟩)
 have hex:=Wrote.ex (Ex.refl w).alloc hbd hwr
 obtain ⟨O,hbd1⟩:=hwr.bld
 clear hwr hbd
 rw [Nat.zero_add] at hbd1
 go_wp2
 go_loopw [14] (fun i wr=>∃ (j n:Nat) (O:Option Nat),j≤items.length∧i = .int .i64 j∧Ex w wr∧Bld wr w.heap.size w.heap.size n O∧n≤word.size+ac0 (items.take j)) (fun i _=>items.length - (intOf i).toNat)
 case atStart=>exact ⟨0,_,O,by omega,rfl,hex,hbd1,by simp [ac0]⟩
 case round=>
  obtain ⟨j,n,O',hj,rfl,hex',hbd,hn⟩:=hrel
  clear hex hbd1
  have hle:=aY8 items j
  by_cases hlt:j<items.length
  ·obtain ⟨x,b,off,v,hx,rfl,_,c0,hr⟩:=bB8 h hex'.same hlt
   have Ht:=Lib.hid (be8 items j x hx.out)
   have hle1:=aY8 items (j+1)
   have Hle1:=Lib.hid hle1
   clear hle1
   cases x with
   | inl q=>
    obtain ⟨hv,hq⟩:=hr.out
    cases hv
    clear hr
    have hsum:n+1+intB q≤1000000000:=by have h1:=Ht.out;have h2:=Hle1.out;simp only [aq7] at h1;omega
    go_wp2_with fail
    refine (aI4 hbd (by omega)).mono ?_
    rintro e w1 ⟨rfl,hwr⟩
    have hex1:=Wrote.ex hex' hbd hwr
    obtain ⟨O1,hbd1⟩:=hwr.bld
    clear hwr c0
    go_wp2_with fail
    refine (bH6 q hq _ (hp.ex hex1)).mono ?_
    rintro e w2 ⟨s,rfl,hs,he2⟩
    have hbd2:=hbd1.ex he2
    have hex2:=hex1.trans he2
    clear hbd1 he2
    go_wp2_with fail
    refine (ai6 hbd2 s (by omega)).mono ?_
    rintro e w3 ⟨rfl,hwr⟩
    have hex3:=Wrote.ex hex2 hbd2 hwr
    obtain ⟨O3,hbd3⟩:=hwr.bld
    clear hwr hbd2
    go_wp2
    go_roundw
    case rel=>exact ⟨j+1,_,O3,by omega,by go_num,hex3,hbd3,by have h1:=Ht.out;simp only [aq7] at h1;omega⟩
    case measure=>simp [intOf];omega
   | inr q=>
    have hv:=hr.out
    cases hv
    clear hr
    have hsum:n+1+q.size≤1000000000:=by have h1:=Ht.out;have h2:=Hle1.out;simp only [aq7] at h1;omega
    go_wp2_with fail
    refine (aI4 hbd (by omega)).mono ?_
    rintro e w1 ⟨rfl,hwr⟩
    have hex1:=Wrote.ex hex' hbd hwr
    obtain ⟨O1,hbd1⟩:=hwr.bld
    clear hwr c0
    go_wp2_with fail
    refine (ai6 hbd1 q (by omega)).mono ?_
    rintro e w3 ⟨rfl,hwr⟩
    have hex3:=Wrote.ex hex1 hbd1 hwr
    obtain ⟨O3,hbd3⟩:=hwr.bld
    clear hwr hbd1
    go_wp2
    go_roundw
    case rel=>exact ⟨j+1,_,O3,by omega,by go_num,hex3,hbd3,by have h1:=Ht.out;simp only [aq7] at h1;omega⟩
    case measure=>simp [intOf];omega
  ·have hj':items.take j=items:=List.take_of_length_le (by omega)
   rw [hj'] at hn
   clear hj'
   obtain ⟨l,p,v,hl',hpp,hB,hbk,hown,hO,hne⟩:=hbd
   have hib:Lib.IsBuilder 266 5 w.heap.size w.heap.size (Lib.byteCells l) wr:=by
    rcases hpp with rfl|rfl
    ·exact .inl ⟨hB,v,hbk,by rw [byteCells_length];exact hown,by rw [hO];exact hne⟩
    ·exact .inr ⟨hB,v,hbk,by rw [byteCells_length];exact hown,by rw [hO];exact hne⟩
   have HSt:=Lib.hid (Tryz.Builder_String_any w.heap.size w.heap.size l wr hib (by have:=hex'.size;omega))
   have HL:=Lib.hid hl'
   clear hbk hown hO hib hpp hl'
   have hsz:l.length≤1000000000:=by have:=HL.out;omega
   go_wp2_with fail
   refine HSt.out.mono ?_
   rintro e w2 ⟨rfl,hb2⟩
   have hex2:Ex w w2:=Ex.of_below ⟨hb2.os.trans (Keep.os hex'),hb2.tape.trans (Keep.tape hex'),hb2.output.trans (Keep.output hex'),Nat.le_trans hex'.size hb2.size,fun k hk=>(hb2.block k hk).trans (hex'.block k hk)⟩
   have hss:(⟨l.toArray⟩:ByteArray).size=l.length:=by simp [ByteArray.size]
   generalize (⟨l.toArray⟩:ByteArray)=st at hss ⊢
   have HSS:=Lib.hid hss
   have hst:st.size≤1000000000:=by omega
   clear hss
   go_wp2
   go_ret
   refine ⟨_,rfl,?_,hex2⟩
   rw [ByteArray.size_append,HSS.out]
   have:=HL.out
   show l.length+1≤_
   omega
end
end Go.Proofs.YtlcfiilejnnlnaaGreatDoor
