/- A part of the proof: R10 Cs Cd Rg Bo Ns Nt Mp Lo Jn Ha R10b Ro. -/
import Derived.Test.YtlcfiilejnnlnaaGreatDoorB04
import Derived.Laws.CopyRow
import Derived.Laws.Cover3
import Derived.Laws.Small
import Derived.WideKeyEntry
import Derived.DeepKeys5
set_option maxRecDepth 100000
set_option maxHeartbeats 20000000
set_option linter.unusedVariables false
set_option linter.unusedSimpArgs false
namespace Go.Proofs.YtlcfiilejnnlnaaGreatDoor
section
open Go
theorem eC7 {N:Nat} {σ:aa1} {g:FuncId} {fn:Func} {c:Code} {args:List D} {R:D→aa1→Prop} (hf:Tryz.prog.funcs[g]?=some fn) (hN:fn.ntmps=N) (h:∀ B,W (am1 Tryz.prog tget none 9 B N c (retF Tryz.prog N fn R) (argF args) σ)) (hname:(fn.name == "runtime.NumGoroutine")=false:=by kernel_rfl) (hb:fn.body=some c:=by exact rfl) (hl:Nat.ble args.length N=true:=by exact rfl):ACall Tryz.prog g args σ R:=bO3 mixed aa0 hf hname hb hN hl h
theorem eP7 {N:Nat} {g:FuncId} {fn:Func} {c:Code} {args:List D} {d:D} (hf:Tryz.prog.funcs[g]?=some fn) (hN:fn.ntmps=N) (h:∀ B,W (am1 Tryz.prog tget none 9 B N c (retF Tryz.prog N fn fun d' _=>d'=d) (argF args) [])) (hname:(fn.name == "runtime.NumGoroutine")=false:=by kernel_rfl) (hb:fn.body=some c:=by exact rfl) (hl:Nat.ble args.length N=true:=by exact rfl):APure Tryz.prog g args d:=APure.of_call (bO3 mixed aa0 hf hname hb hN hl h)
theorem dr7 {A B:Prop} (k:B) (h:Hd7 B→A:=by intro hk7q;(refine Dr.r ?_;(((with_reducible refine W.mk ?_);(conv=>whnf)));refine Dm.r ?_;refine W.mk ?_);exact hk7q.run):A:=h ⟨k⟩
theorem sb0 {A B:Prop} (k:B) (h:Hd7 B→A:=by intro hk7q;(first|((with_reducible refine W.mk ?_);(conv=>whnf))|(with_reducible refine Br.tt ?_)|(with_reducible refine Br.ff ?_)|(with_reducible refine Br.n ?_)|((with_reducible refine' Br.eq ?h ?_);(case h=>(simp only [List.length_map,List.length_take,List.length_append,List.length_cons,List.length_nil,List.length_replicate,Nat.reduceAdd];exact rfl)))|((with_reducible refine Sd.go ?qs7 ?_);(case qs7=>first|trivial|(constructor <;> omega)|omega|assumption|((try simp only [List.length_map,List.length_take,List.length_append,List.length_cons,List.length_nil,List.length_replicate,Nat.reduceAdd] at *);first|(constructor <;> omega)|omega)))|((with_reducible refine Ck.go ?qs7 ?_);(case qs7=>kernel_rfl))|((with_reducible refine' Ix.mapAt ?hy ?h0 ?_);(case hy=>assumption);(case h0=>omega))|((with_reducible refine' Ix.at ?hy ?h0 ?_);(case hy=>exact rfl);(case h0=>omega))|((with_reducible refine Ix.mapM ?h0 ?_);(case h0=>first|omega|(simp only [List.length_map,List.length_take,List.length_append,List.length_cons,List.length_nil,List.length_replicate,Nat.reduceAdd] at *;omega)))|((with_reducible refine' Ld.at 0 ?h1 ?h2 ?h3 ?_);(case h1=>exact rfl);(case h2=>exact rfl);(case h3=>exact rfl))|((with_reducible refine' Ld.at 1 ?h1 ?h2 ?h3 ?_);(case h1=>exact rfl);(case h2=>exact rfl);(case h3=>exact rfl))|((with_reducible refine' Ld.at 2 ?h1 ?h2 ?h3 ?_);(case h1=>exact rfl);(case h2=>exact rfl);(case h3=>exact rfl))|((with_reducible refine' Sv.at 0 ?h1 ?h2 ?h3 ?h4 ?h5 ?_);(case h1=>exact rfl);(case h2=>exact rfl);(case h3=>exact rfl);(case h4=>exact rfl);(case h5=>exact (by first|(simp only [List.set_cons_succ,List.set_cons_zero,spl,ad8,mkD,List.take_succ_cons,List.take_zero,List.drop_succ_cons,List.drop_zero,List.length_cons,List.length_nil,List.nil_append,List.cons_append,Nat.reduceAdd,Nat.zero_add,List.append_nil,List.map_cons,List.map_nil];rfl)|rfl)))|((with_reducible refine' Sv.at 1 ?h1 ?h2 ?h3 ?h4 ?h5 ?_);(case h1=>exact rfl);(case h2=>exact rfl);(case h3=>exact rfl);(case h4=>exact rfl);(case h5=>exact (by first|(simp only [List.set_cons_succ,List.set_cons_zero,spl,ad8,mkD,List.take_succ_cons,List.take_zero,List.drop_succ_cons,List.drop_zero,List.length_cons,List.length_nil,List.nil_append,List.cons_append,Nat.reduceAdd,Nat.zero_add,List.append_nil,List.map_cons,List.map_nil];rfl)|rfl)))|((with_reducible refine' Sv.at 2 ?h1 ?h2 ?h3 ?h4 ?h5 ?_);(case h1=>exact rfl);(case h2=>exact rfl);(case h3=>exact rfl);(case h4=>exact rfl);(case h5=>exact (by first|(simp only [List.set_cons_succ,List.set_cons_zero,spl,ad8,mkD,List.take_succ_cons,List.take_zero,List.drop_succ_cons,List.drop_zero,List.length_cons,List.length_nil,List.nil_append,List.cons_append,Nat.reduceAdd,Nat.zero_add,List.append_nil,List.map_cons,List.map_nil];rfl)|rfl)))|((with_reducible refine' Ot.yd ?hyd ?_);(case hyd=>first|(refine' ap9 aa0 rfl rfl rfl rfl rfl ?hc ?h0;(case hc=>assumption);(case h0=>omega))|(refine ap8 aa0 rfl rfl rfl rfl rfl ?_;first|omega|(simp only [List.length_map,List.length_take,List.length_append,List.length_cons,List.length_nil,List.length_replicate,Nat.reduceAdd];omega))|(refine aG3 aa0 rfl rfl rfl rfl rfl ?_;omega)|exact yd_bne rfl rfl rfl Tryz.underlying4|exact av7 rfl rfl rfl|exact av8 rfl rfl rfl))|((with_reducible refine' Rs.tc aa0 (m:=0) ?h ?hi ?hj ?hb ?ht ?hag ?hs ?_);(case h=>exact rfl);(case hi=>exact rfl);(case hj=>exact rfl);(case hb=>exact rfl);(case ht=>exact rfl);(case hag=>exact rfl);(case hs=>exact rfl))|((with_reducible refine' Rs.ct aa0 (m:=0) ?h ?hi ?hj ?hb ?ht ?hag ?hs ?_);(case h=>exact rfl);(case hi=>exact rfl);(case hj=>exact rfl);(case hb=>exact rfl);(case ht=>exact rfl);(case hag=>exact rfl);(case hs=>exact rfl))|((with_reducible refine' Rs.c aa0 (m:=0) ?h ?hj ?hb ?ht ?hag ?hs ?_);(case h=>exact rfl);(case hj=>exact rfl);(case hb=>exact rfl);(case ht=>exact rfl);(case hag=>exact rfl);(case hs=>exact rfl))|((with_reducible refine Br.dt ?h ?_);(case h=>omega))|((with_reducible refine Br.df ?h ?_);(case h=>omega))|((with_reducible refine Br.t ?h ?_);(case h=>assumption))|((with_reducible refine Br.f ?h ?_);(case h=>assumption))|((with_reducible refine Br.t ?h ?_);(case h=>(refine decide_eq_true ?_;omega)))|((with_reducible refine Br.f ?h ?_);(case h=>(refine decide_eq_false ?_;omega))));exact hk7q.run):A:=h ⟨k⟩
theorem sb1 {A B:Prop} (k:B) (h:Hd7 B→A:=by intro hk7q;(first|(with_reducible refine Bc.l ?_)|(with_reducible refine Bx.l ?_)|((with_reducible refine Dr.l ?h ?_);(case h=>decide +kernel))|(with_reducible refine Dr.r ?_)|((with_reducible refine Dm.l ?h ?_);(case h=>decide +kernel))|((with_reducible refine Cb.go ?h ?_);(case h=>decide +kernel)));exact hk7q.run):A:=h ⟨k⟩
theorem sk2 {A B:Prop} (k:B) (h:Hd7 B→A:=by intro hk7q;(first|refine sb0 ?_|refine sb1 ?_|((with_reducible refine' Cp.by ?hc ?_);(case hc=>fail))|((with_reducible refine' CE.pure ?hc ?_);(case hc=>fail)));exact hk7q.run):A:=h ⟨k⟩
theorem aj9 (x:Sch) (nm:ByteArray) (hl:x.kinds.length≤1000000):APure Tryz.prog 81 [schD x,sD nm] (iD (ab6 x nm)):=by
 refine eP7 Tryz.func81 Tryz.ntmps81 fun BB=>?_
 repeat' first|refine sk2 ?_|(intro b;conv=>whnf)|refine IxM.mk fun y hy=>?_
 refine ad5 mixed aa0 (γ:=Nat) (fun k=>[(5,iD k)]) (fun _=>[]) (fun k=>k≤x.kinds.length∧∀ i y,i<k→x.kinds[i]?=some y→seq y.name nm=false) (fun k=>x.kinds.length - k) 0 rfl rfl ⟨by omega,by omega⟩ ?_
 rintro k ⟨hk,hno⟩
 repeat' first|refine sk2 ?_|(intro b;conv=>whnf)|refine IxM.mk fun y hy=>?_|(with_reducible refine Br.d (fun hc=>?_) (fun hc=>?_))|(with_reducible refine Br.b (fun hc=>?_) (fun hc=>?_))
 ·refine Rt.pure (congrArg iD ?_)
  exact (ae7 hy ‹_› hno).symm
 ·exact ⟨k+1,rfl,rfl,⟨by omega,fun i z hi hz=>by
   by_cases e:i=k
   ·subst e;rw [show ((i:Int)).toNat=i from rfl,hz] at hy;cases hy;assumption
   ·exact hno i z (by omega) hz⟩,by omega⟩
 ·refine Rt.pure (congrArg iD ?_)
  exact (al9 fun i y hy=>hno i y (by have:=(List.getElem?_eq_some_iff.1 hy).1;omega) hy).symm
def hasB (x:Sch) (i j:Int):Bool:=(fieldAt x i j).isSome
theorem aj3 {x:Sch} {i j:Int} (h:i<0∨(x.kinds.length:Int)≤i∨j<0):fieldAt x i j=none:=by
 unfold fieldAt af3
 by_cases hi:0≤i
 ·rw [if_pos hi]
  cases hk:x.kinds[i.toNat]? with
  | none=>rfl
  | some k=>
   have:=(List.getElem?_eq_some_iff.1 hk).1
   simp only
   rw [if_neg (by omega)]
 ·rw [if_neg hi]
theorem ah2 {x:Sch} {i j:Int} {k:Knd} (h0:0≤i) (h1:0≤j) (hk:x.kinds[i.toNat]?=some k):fieldAt x i j=k.fields[j.toNat]?:=by
 unfold fieldAt af3
 rw [if_pos h0,hk]
 simp only
 rw [if_pos h1]
theorem ah5 (k:Knd) (nm:ByteArray) (hl:k.fields.length≤1000000):APure Tryz.prog 80 [kndD k,sD nm] (iD (ac2 k nm)):=by
 refine eP7 Tryz.func80 Tryz.ntmps80 fun BB=>?_
 repeat' first|refine sk2 ?_|(intro b;conv=>whnf)|refine IxM.mk fun y hy=>?_
 refine ad5 mixed aa0 (γ:=Nat) (fun q=>[(5,iD q)]) (fun _=>[]) (fun q=>q≤k.fields.length∧∀ i y,i<q→k.fields[i]?=some y→seq y.name nm=false) (fun q=>k.fields.length - q) 0 rfl rfl ⟨by omega,by omega⟩ ?_
 rintro q ⟨hq,hno⟩
 repeat' first|refine sk2 ?_|(intro b;conv=>whnf)|refine IxM.mk fun y hy=>?_|(with_reducible refine Br.d (fun hc=>?_) (fun hc=>?_))|(with_reducible refine Br.b (fun hc=>?_) (fun hc=>?_))
 ·refine Rt.pure (congrArg iD ?_)
  exact (ae7 hy ‹_› hno).symm
 ·exact ⟨q+1,rfl,rfl,⟨by omega,fun i z hi hz=>by
   by_cases e:i=q
   ·subst e;rw [show ((i:Int)).toNat=i from rfl,hz] at hy;cases hy;assumption
   ·exact hno i z (by omega) hz⟩,by omega⟩
 ·refine Rt.pure (congrArg iD ?_)
  exact (al9 fun i y hy=>hno i y (by have:=(List.getElem?_eq_some_iff.1 hy).1;omega) hy).symm
theorem aR6 (x:Sch) (i j:Int):APure Tryz.prog 79 [schD x,iD i,iD j] (bD (hasB x i j)):=by
 refine eP7 Tryz.func79 Tryz.ntmps79 fun BB=>?_
 repeat' first|refine sk2 ?_|(intro b;conv=>whnf)|refine IxM.mk fun y hy=>?_|(with_reducible refine Br.d (fun hc=>?_) (fun hc=>?_))|(with_reducible refine Br.b (fun hc=>?_) (fun hc=>?_))
 ·refine Rt.pure (congrArg bD ?_)
  simp [hasB,aj3 (x:=x) (i:=i) (j:=j) (by omega)]
 ·refine Rt.pure (congrArg bD ?_)
  simp [hasB,aj3 (x:=x) (i:=i) (j:=j) (by omega)]
 ·refine Rt.pure (congrArg bD ?_)
  simp [hasB,aj3 (x:=x) (i:=i) (j:=j) (by omega)]
 ·refine Rt.pure (congrArg bD ?_)
  rw [hasB,ah2 (by omega) (by omega) hy]
  by_cases hlt:j<y.fields.length
  ·rw [List.getElem?_eq_getElem (by omega)];simpa using hlt
  ·rw [List.getElem?_eq_none (by omega)];simpa using hlt
theorem ah3 {x:Sch} {i j:Int} {f:Fld} (h:fieldAt x i j=some f):0≤i∧0≤j∧∃ k,x.kinds[i.toNat]?=some k∧k.fields[j.toNat]?=some f:=by
 unfold fieldAt af3 at h
 by_cases hi:0≤i
 ·rw [if_pos hi] at h
  cases hk:x.kinds[i.toNat]? with
  | none=>simp [hk] at h
  | some k=>
   simp only [hk] at h
   by_cases hj:0≤j
   ·rw [if_pos hj] at h;exact ⟨hi,hj,k,rfl,h⟩
   ·rw [if_neg hj] at h;cases h
 ·rw [if_neg hi] at h;cases h
theorem br3 {x:Sch} {i j:Int} {f:Fld} {k:Knd} (hfa:fieldAt x i j=some f) (hka:af3 x i=some k):upIx x i j=if f.kind=7∨f.kind=8 then aB0 x i (aO1 (ac2 k f.up) j (fieldAt x i (ac2 k f.up))) else if f.kind=1 then au3 x i f else -1:=by
 simp only [upIx,hfa,bc6,hka]
theorem ap7 (k:Knd) (nm:ByteArray):ac2 k nm<k.fields.length:=aO6 _ _
theorem aK8 (x:Sch) (nm:ByteArray):ab6 x nm<x.kinds.length:=aO6 _ _
theorem sk3 {A B:Prop} (k:B) (h:Hd7 B→A:=by intro hk7q;(first|refine sb0 ?_|refine sb1 ?_|((with_reducible refine' Cp.by ?hc ?_);(case hc=>first|exact aR6 _ _ _|exact aj9 _ _ (by assumption)|exact ah5 _ _ (by assumption)))|((with_reducible refine' CE.pure ?hc ?_);(case hc=>first|exact aR6 _ _ _|exact aj9 _ _ (by assumption)|exact ah5 _ _ (by assumption))));exact hk7q.run):A:=h ⟨k⟩
theorem aJ5 (x:Sch) (i j:Int) (hl:x.kinds.length≤1000000) (hf:∀ k∈x.kinds,k.fields.length≤1000000):APure Tryz.prog 36 [schD x,iD i,iD j] (iD (upIx x i j)):=by
 refine eP7 Tryz.func36 Tryz.ntmps36 fun BB=>?_
 cases hfa:fieldAt x i j with
 | none=>
  have hh:hasB x i j=false:=by simp [hasB,hfa]
  repeat' first|refine sk3 ?_|(intro b;conv=>whnf)
  refine Rt.pure (congrArg iD ?_);simp [upIx,hfa]
 | some f=>
  have hh:hasB x i j=true:=by simp [hasB,hfa]
  obtain ⟨h0,h1,k,hk,hkf⟩:=ah3 hfa
  have hfk:=hf k (List.mem_of_getElem? hk)
  have hka:af3 x i=some k:=by simp [af3,h0,hk]
  have hlt:=ap7 k f.up
  have hU:=br3 hfa hka
  cases hg:fieldAt x i (ac2 k f.up) with
  | none=>
   have hneg:ac2 k f.up<0:=by
    refine Int.not_le.1 fun h=>?_
    rw [ah2 h0 h hk,List.getElem?_eq_getElem (by omega)] at hg;cases hg
   simp only [hg,aO1,aB0] at hU
   repeat' first|refine sk3 ?_|(intro b;conv=>whnf)|(with_reducible refine Br.d (fun hc=>?_) (fun hc=>?_))|(with_reducible refine Br.b (fun hc=>?_) (fun hc=>?_))
   all_goals (refine Rt.pure (congrArg iD ?_);rw [hU];unfold au3;(repeat' split) <;> first|rfl|omega)
  | some g=>
   obtain ⟨_,hpos,k',hk',hg0⟩:=ah3 hg
   obtain rfl:k=k':=by rw [hk] at hk';exact Option.some.inj hk'
   simp only [hg,aO1] at hU
   repeat' first|refine sk3 ?_|(intro b;conv=>whnf)|(with_reducible refine Br.d (fun hc=>?_) (fun hc=>?_))|(with_reducible refine Br.b (fun hc=>?_) (fun hc=>?_))
   all_goals (refine Rt.pure (congrArg iD ?_);rw [hU];unfold au3;(repeat' split) <;> first|rfl|omega|(unfold aB0;simp only;unfold au3;(repeat' split) <;> first|rfl|omega))
end
section
open Go
abbrev Wd:=List (List (List Int))
structure Rf where
 kind:Nat
 field:Nat
 up:Int
 least:Int
def refF (x:Sch) (k:Nat) (kd:Knd) (i:Nat):List Rf:=match kd.fields[i]? with
 | some f=>if f.kind=1 then [⟨k,i,upIx x k i,f.lo⟩] else []
 | none=>[]
def refK (x:Sch) (k:Nat):List Rf:=match x.kinds[k]? with
 | some kd=>upTo kd.fields.length (refF x k kd)
 | none=>[]
def ab8 (x:Sch):List Rf:=upTo x.kinds.length (refK x)
theorem bj2 (x:Sch) (k:Nat) (kd:Knd) (i:Nat):(refF x k kd i).length≤1:=by unfold refF;split <;> (try split) <;> simp
theorem bj1 (x:Sch) (k:Nat) (h:∀ k∈x.kinds,k.fields.length≤1000):(refK x k).length≤1000:=by
 unfold refK
 split
 ·rename_i kd hk
  have h1:=ad9 (bj2 x k kd) kd.fields.length
  have h2:=h kd (List.mem_of_getElem? hk)
  omega
 ·simp
theorem aT2 {α:Type} {q:Nat} {g:Nat→List α} {a:α}:a∈upTo q g↔∃ i,i<q∧a∈g i:=by
 unfold upTo;rw [List.mem_flatMap];constructor
 ·rintro ⟨i,hi,ha⟩;exact ⟨i,List.mem_range.1 hi,ha⟩
 ·rintro ⟨i,hi,ha⟩;exact ⟨i,List.mem_range.2 hi,ha⟩
theorem aT3 {x:Sch} {r:Rf} (h:r∈ab8 x):∃ kd f,x.kinds[r.kind]?=some kd∧kd.fields[r.field]?=some f∧f.kind=1∧r.up=upIx x r.kind r.field∧r.least=f.lo:=by
 obtain ⟨k,hk,h⟩:=aT2.1 h
 unfold refK at h
 split at h
 ·rename_i kd hkd
  obtain ⟨i,hi,h⟩:=aT2.1 h
  unfold refF at h
  split at h
  ·rename_i f hf
   split at h
   ·rename_i h1
    rw [List.mem_singleton] at h
    subst h
    exact ⟨kd,f,hkd,hf,h1,rfl,rfl⟩
   ·cases h
  ·cases h
 ·cases h
def aG0 (w:Wd) (r:Rf) (l:List Int):Bool:=!(decide (l.getD r.field 0<0) || decide ((w.getD r.up.toNat []).length≤l.getD r.field 0))
def bV0 (x:Sch) (k:Nat) (l:List Int):Bool:=decide (l.length=(match x.kinds[k]? with|some kd=>kd.fields.length|none=>0))
/-! ### Laws -/
theorem ae8 {α:Type} {l:List α} {i:Nat} {a:α} (h:l[i]?=some a) (d:α):l.getD i d=a:=by simp [List.getD_eq_getElem?_getD,h]
end
section
open Go
def rfC (r:Rf):List D:=[iD r.kind,iD r.field,iD r.up,iD r.least]
def slW1 (l:List (List Int)):D:=.sl 1 (l.map fun r=>[slI r])
def slW (w:Wd):D:=.sl 1 (w.map fun l=>[slW1 l])
def atC (k i:Int):List D:=[iD k,iD i]
end
section
open Go Go.RowKit Go.Shelf
structure cb2 (P:Program) (gf:FuncId) (caps:List D) (its:List (List D)):Prop where
 ent:Enters P gf
 run:∀ (O:Nat→Prop) (W:World) (lb:List Value),RdL W O caps lb→∃ vsl:List (List Value),vsl.length=its.length∧(∀ (k:Nat) x vs,its[k]?=some x→vsl[k]?=some vs→RdL W O x vs) ∧
  ∀ (l:Nat) (J Jx:Nat→World→Prop),(∀ k A B,J k A→Ex A B→J k B)→(∀ k A B,Jx k A→Ex A B→Jx k B) →
   (∀ (k:Nat) vs W1,vsl[k]?=some vs→J k W1→YieldAt Fence.wide 7 P l vs.toArray W1 fun e W'=>
    (e = .returned (.bool true)∧J (k+1) W'∧W1.heap.size≤W'.heap.size∧∀ b,b<W.heap.size→¬ O b→W'.heap[b]?=W1.heap[b]?)∨(e = .returned (.bool false)∧Jx (k+1) W')) →
   J 0 W→CallsIn Fence.wide 8 P gf (#[.func (.yield l) #[] #[]] ++ lb.toArray) W fun e W'=>∃ v,e = .returned v∧(J its.length W'∨∃ k,Jx k W')
section
variable {P:Program} {r:Option Nat} {n:Nat} {df:Nat} {Q:Pst} {a:List D} {σ σ':aa1} {w w':World} {X:Nat→Prop}
theorem St.mv {fr:Act} (h:St w X df a σ fr) (hm:Mv w σ w' σ') (hs:StOK w' X σ'):St w' X df a σ' fr:=by
 have hO:∀ b,b<w.heap.size→¬ Own σ X b→¬ Own σ' X b:=fun b hb hn ho=>by
  rcases ho with ho|ho
  ·exact hn (.inl ho)
  ·rcases hm.new b ho with h1|h1
   ·exact hn (.inr h1)
   ·omega
 have hS:∀ b,b<w.heap.size→¬ Own σ X b→w'.heap[b]?=w.heap[b]?:=fun b hb hn=>hm.keep.block b hb (fun hk=>hn (.inr hk))
 exact ⟨h.fr.keep hm.keep.size hO hS,hs,h.df.keep hm.keep.size hO hS⟩
theorem St.turn {fr:Act} (h:St w X df a σ fr) {D:Nat} {o o':Obj} (h5:8≤D) (hO:¬ Own σ X D) (hD:w.heap[D]?=some o) (ho:o.isCells=false) (hm:∀ es c,o ≠ .map es c) (hd:∀ d,o ≠ .deferred d):St (w.putObj D o') X df a σ fr:=by
 refine ⟨h.fr.of_cells (Nat.le_of_eq (ak2 _ _).symm) (aD2 hD ho),h.st.turn h5 hO hD ho hm,?_⟩
 obtain ⟨h0,bs,h1,h2,h3⟩:=h.df
 refine ⟨by rw [ak2];exact h0,bs,h1,h2,fun b hb=>?_⟩
 obtain ⟨k1,k2,k3⟩:=h3 b hb
 exact ⟨k1,k2,(World.putObj_heap_other (fun e=>by subst e;rw [hD] at k3;cases k3;exact hd _ rfl)).trans k3⟩
theorem Mv.turn (h:Mv w σ w' σ') {l:Nat} (hl:w.heap.size≤l) (o:Obj):Mv w σ (w'.putObj l o) σ':=
 ⟨⟨h.keep.os,h.keep.tape,h.keep.output,by rw [ak2];exact h.keep.size,fun b hb hn=>(World.putObj_heap_other (fun e=>by omega)).trans (h.keep.block b hb hn)⟩,h.new⟩
def aM7 (a:List D) (ps:List Tmp) (x:List D):List D:=(ps.zip x).foldl (fun a p=>a.set p.1 p.2) a
theorem cj6 {O:Nat→Prop} {t:Array Value} (h:FR w O a t) {d:D} {u:Value} (hd:Rd w O d u) (i:Nat):FR w O (a.set i d) (t.setIfInBounds i u):=by
 have:=FR.put (fr:=⟨t,[]⟩) h hd (some i)
 exact this
theorem bk9 {O:Nat→Prop}:∀ (ps:List Tmp) {x:List D} {vs:List Value} {a:List D} {t:Array Value},FR w O a t→RdL w O x vs→FR w O (aM7 a ps x) ((ps.zip vs).foldl (fun t (p,v)=>t.setIfInBounds p v) t)
 | [],x,vs,a,t,h,_=>by simpa [aM7] using h
 | p :: ps,[],vs,a,t,h,hr=>by
  have:vs=[]:=by have:=hr.len;simpa using this
  subst this
  simpa [aM7] using h
 | p :: ps,d :: x,[],a,t,h,hr=>by have:=hr.len;simp at this
 | p :: ps,d :: x,v :: vs,a,t,h,hr=>by
  have htl:RdL w O x vs:=⟨by have:=hr.len;simpa using this,fun j d u h1 h2=>hr.at_ (j+1) d u (by simpa using h1) (by simpa using h2)⟩
  have:=bk9 ps (cj6 h (hr.at_ 0 d v rfl rfl) p) htl
  simpa [aM7] using this
def bM9 (Q:Pst) (a:List D) {γ:Type} (S:γ→aa1) (I:γ→Prop):Pst
 | .normal,_,σ'=>∃ g,(S g).Sublist σ'∧I g
 | .ret,_,σ'=>Q .ret a σ'
 | .exit id,_,σ'=>Q (.exit id) a σ'
 | _,_,_=>False
theorem bu7 (hm:Mv w σ w' σ') {b:Nat} (hb:b<w.heap.size) (hn:¬ Own σ X b):¬ Own σ' X b:=fun ho=>by
 rcases ho with ho|ho
 ·exact hn (.inl ho)
 ·rcases hm.new b ho with h1|h1
  ·exact hn (.inr h1)
  ·omega
theorem bA8 {g:Operand} {ps:Array Tmp} {assign body:Code} {gf:FuncId} {caps:List D} {its:List (List D)} (hit:cb2 P gf caps its) (hg:evD a g = .clo gf caps) (hps:∀ x∈its,x.length=ps.size)
  {γ:Type} (S:Nat→γ→aa1) (I:Nat→γ→Prop) (g₀:γ) (hσ:(S 0 g₀).Sublist σ) (h0:I 0 g₀)
  (round:∀ (l:Nat) (k:Nat) gk x,its[k]?=some x→I k gk→AWP P (some l) 7 0 assign (bR2 (AWP P (some l) 7 0 body (bM9 Q a (S (k+1)) (I (k+1)))) (fun _ _ _=>False)) (aM7 a ps.toList x) (S k gk))
  (done:∀ gk,I its.length gk→Q .normal a (S its.length gk)):AWP P none 9 df (.rangeFunc g ps assign body) Q a σ:=by
 refine ⟨fun w X fr hs=>?_⟩
 have hv:=hs.fr.eval g
 rw [hg] at hv
 obtain ⟨lb,hgv,hlb⟩:=hv.clo_inv
 refine wpIn_rangeFunc ?_
 intro fn hfn
 rw [show (FW none).round=none from rfl]
 obtain ⟨rec,hrec⟩:∃ rec:LoopState→Option Code→Loop,rec=fun st pe=>{ state:=st,pending:=pe,fn,tmps:=fr.tmps,params:=ps,assign,body,defers:=w.heap.size }:=⟨_,rfl⟩
 obtain ⟨W1,hW1⟩:∃ W1,(w.alloc (.deferred (some []))).alloc (.loop (rec .ready none))=W1:=⟨_,rfl⟩
 have hL1:W1.heap[w.heap.size+1]?=some (.loop (rec .ready none)):=by
  rw [← hW1];have:=World.alloc_heap_new (w.alloc (.deferred (some []))) (.loop (rec .ready none));rwa [World.size_alloc] at this
 have hx1:Ex w W1:=by rw [← hW1];exact ((Ex.refl w).alloc).alloc
 have hK1:W1.heap[w.heap.size]?=some (.deferred (some [])):=by
  rw [← hW1];exact (Below.heap_alloc _ _ _ (by simp)).trans (World.alloc_heap_new w _)
 have hz1:W1.heap.size=w.heap.size+2:=by rw [← hW1];simp
 have h5:8≤w.heap.size:=hs.st.gok.sz
 obtain ⟨fr',hfr'⟩:∃ fr':Act,fr'={ fr with defers:=mrk w.heap.size :: fr.defers }:=⟨_,rfl⟩
 have hnD:¬ Own σ X w.heap.size:=aD8 hs.st (Nat.le_refl _)
 have hnl:¬ Own σ X (w.heap.size+1):=aD8 hs.st (Nat.le_succ _)
 have hs1:St W1 X df a σ fr':=by
  have:=hs.ex hx1
  refine ⟨by rw [hfr'];exact this.fr,this.st,?_⟩
  obtain ⟨k0,bs,k1,k2,k3⟩:=this.df
  have k0':=hs.df.1
  refine ⟨k0,w.heap.size :: bs,by rw [hfr',k1];rfl,List.nodup_cons.2 ⟨fun hm=>?_,k2⟩,fun b hb=>?_⟩
  ·obtain ⟨_,bs0,q1,_,q3⟩:=hs.df
   have e:bs0.map mrk=bs.map mrk:=q1.symm.trans k1
   have hinj:bs0=bs:=by
    have:=congrArg (List.map (fun d:Deferred=>match d.target with | .collected b=>b | _=>0)) e
    simpa [mrk,List.map_map,Function.comp_def] using this
   rw [← hinj] at hm
   have:=(Array.getElem?_eq_some_iff.1 (q3 _ hm).2.2).1
   omega
  ·rcases List.mem_cons.1 hb with rfl|hb
   ·exact ⟨k0',hnD,hK1⟩
   ·exact k3 b hb
 refine ⟨w.heap.size+1,[{ target:=.collected w.heap.size,args:=#[] }],W1,{ target:=.fn (.func gf) lb.toArray,args:=#[.func (.yield (w.heap.size+1)) #[] #[]] },W1,gf,
  #[.func (.yield (w.heap.size+1)) #[] #[]] ++ lb.toArray,W1,?_,?_,?_,?_,(fun hd=>by simp [FW,Fence.wide] at hd),?_⟩
 ·rw [← hW1,hrec];exact run_enterLoop_outer _ _ _ _ _
 ·simp only [resolve,hgv]
  simp [go_sem]
 ·intro f' hf';simp [Target.leads] at hf';trivial
 ·simp only [invoke];exact hit.ent _ _
 ·obtain ⟨O,hO⟩:∃ O:Nat→Prop,O=fun b=>Own σ X b∨b=w.heap.size∨b=w.heap.size+1:=⟨_,rfl⟩
  have hnO:∀ {b:Nat},¬ O b→¬ Own σ X b∧b≠w.heap.size∧b≠w.heap.size+1:=fun {b} h=>by
   rw [hO] at h;exact ⟨fun h1=>h (.inl h1),fun h1=>h (.inr (.inl h1)),fun h1=>h (.inr (.inr h1))⟩
  obtain ⟨vsl,hvl,hvr,hrun⟩:=hit.run O W1 lb (hlb.keep hx1.size (fun b hb hn=>by
   rw [hO];rintro (h|h|h)
   ·exact hn h
   ·omega
   ·omega) (fun b hb _=>hx1.block b hb))
  have hcall:=hrun (w.heap.size+1)
   (fun k W=>∃ gk,I k gk∧St W X df a (S k gk) fr'∧Mv w σ W (S k gk)∧W1.heap.size≤W.heap.size∧W.heap[w.heap.size+1]?=some (.loop (rec .ready none))∧¬ Own (S k gk) X (w.heap.size+1))
   (fun _ W=>∃ τ e c,(e = .ret∧c = .ret∨∃ id,e = .exit id∧c = .exit id)∧Q e a τ∧St W X df a τ fr'∧Mv w σ W τ∧W.heap[w.heap.size+1]?=some (.loop (rec .done (some c)))∧¬ Own τ X (w.heap.size+1))
   (fun k A B ⟨gk,q1,q2,q3,q4,q5,q6⟩ hx=>⟨gk,q1,q2.ex hx,q3.trans (Mv.of_ex hx),Nat.le_trans q4 hx.size,(hx.block _ (Array.getElem?_eq_some_iff.1 q5).1).trans q5,q6⟩)
   (fun k A B ⟨τ,e,c,q1,q2,q3,q4,q5,q6⟩ hx=>⟨τ,e,c,q1,q2,q3.ex hx,q4.trans (Mv.of_ex hx),(hx.block _ (Array.getElem?_eq_some_iff.1 q5).1).trans q5,q6⟩)
   ?_ ⟨g₀,h0,⟨hs1.fr.keep (Nat.le_refl _) (fun x _ hn=>ak3 hσ x hn) (fun _ _ _=>rfl),hs1.st.sub hσ,hs1.df.keep (Nat.le_refl _) (fun x _ hn=>ak3 hσ x hn) (fun _ _ _=>rfl)⟩,
    (Mv.of_ex hx1).fewer (fun b hb=>(hσ.map Prod.fst).subset hb),Nat.le_refl _,hL1,ak3 hσ _ hnl⟩
  ·refine hcall.mono ?_
   rintro e W2 ⟨v,rfl,(⟨gk,q1,q2,q3,q4,q5,q6⟩|⟨_,τ,e,c,q1,q2,q3,q4,q5,q6⟩)⟩
   ·refine ⟨none,_,by have:=run_endLoop (P:=P) q5 (by rw [hrec];simp);rw [hrec] at this;exact this,?_⟩
    refine ⟨a,S its.length gk,done gk q1,?_,q3.turn (Nat.le_succ _) _⟩
    have:=q2.turn (o':=.loop { rec .ready none with state:=.exhausted }) (by omega) q6 q5 rfl (fun _ _ h=>by cases h) (fun _ h=>by cases h)
    rw [hfr',hrec] at this
    exact this
   ·refine ⟨some c,_,by have:=run_endLoop (P:=P) q5 (by rw [hrec];simp);rw [hrec] at this;exact this,?_⟩
    have hst:=q3.turn (o':=.loop { rec .done (some c) with state:=.exhausted }) (by omega) q6 q5 rfl (fun _ _ h=>by cases h) (fun _ h=>by cases h)
    rw [hfr',hrec] at hst
    have hmv:=q4.turn (Nat.le_succ _) (.loop { rec .done (some c) with state:=.exhausted })
    rw [hrec] at hmv
    rcases q1 with ⟨rfl,rfl⟩|⟨id,rfl,rfl⟩
    ·exact wpIn_ret ⟨a,τ,q2,hst,hmv⟩
    ·exact wpIn_exit ⟨a,τ,q2,hst,hmv⟩
  ·-- one round
   rintro k vs Wc hvk ⟨gk,q1,q2,q3,q4,q5,q6⟩
   have hkl:k<its.length:=by rw [← hvl];exact (List.getElem?_eq_some_iff.1 hvk).1
   obtain ⟨x,hx⟩:∃ x,its[k]?=some x:=⟨_,List.getElem?_eq_getElem hkl⟩
   have hlc:w.heap.size+1<Wc.heap.size:=(Array.getElem?_eq_some_iff.1 q5).1
   have hkeep1:∀ b,b<W1.heap.size→¬ O b→¬ Own (S k gk) X b∧Wc.heap[b]?=W1.heap[b]?:=fun b hb hn=>by
    obtain ⟨n1,n2,n3⟩:=hnO hn
    have hbw:b<w.heap.size:=by omega
    exact ⟨bu7 q3 hbw n1,(q3.keep.block b hbw (fun h=>n1 (.inr h))).trans (hx1.block b hbw).symm⟩
   have hxv:RdL Wc (Own (S k gk) X) x vs:=(hvr k x vs hx hvk).keep q4 (fun b hb hn=>(hkeep1 b hb hn).1) (fun b hb hn=>(hkeep1 b hb hn).2)
   have hsz:vs.toArray.size=ps.size:=by simp [hxv.len,hps x (List.mem_of_getElem? hx)]
   have hy:=run_yield (P:=P) (args:=vs.toArray) q5 (by rw [hrec];exact hsz)
   rw [hrec] at hy
   refine ⟨fn,_,assign,body,hy,?_⟩
   have hzip:((ps.zip vs.toArray).foldl (fun t (p:Tmp × Value)=>t.setIfInBounds p.1 p.2) fr.tmps)=((ps.toList.zip vs).foldl (fun t (p:Tmp × Value)=>t.setIfInBounds p.1 p.2) fr.tmps):=by
    rw [← Array.foldl_toList];simp
   have hfr0:FR Wc (Own (S k gk) X) a fr.tmps:=by have:=q2.fr;rw [hfr'] at this;exact this
   have hst0:St Wc X 0 (aM7 a ps.toList x) (S k gk) { tmps:=(ps.zip vs.toArray).foldl (fun t (p:Tmp × Value)=>t.setIfInBounds p.1 p.2) fr.tmps,defers:=[] }:=
    ⟨by rw [hzip];exact bk9 ps.toList hfr0 hxv,q2.st,Mks.nil (Nat.zero_le _)⟩
   refine roundIn_of_wpIn hfn (wpIn_mono ((round (w.heap.size+1) k gk x hx q1).run Wc X _ hst0) ?_)
   rintro e a1 w1 ⟨a1',σ1,hA,hst1,hmv1⟩
   cases e with
   | normal=>
    have hl1:w1.heap[w.heap.size+1]?=some (.loop (rec .ready none)):=(hmv1.keep.block _ hlc (fun h=>q6 (.inr h))).trans q5
    have hn1:¬ Own σ1 X (w.heap.size+1):=bu7 hmv1 hlc q6
    refine ⟨_,run_beginRound hl1 (by rw [hrec]),?_⟩
    have hl1s:=(Array.getElem?_eq_some_iff.1 hl1).1
    have hl2:(w1.putObj (w.heap.size+1) (.loop { rec .ready none with state:=.busy })).heap[w.heap.size+1]?=some (.loop { rec .ready none with state:=.busy }):=World.putObj_heap_same hl1s
    have hst2:=hst1.turn (o':=.loop { rec .ready none with state:=.busy }) (by omega) hn1 hl1 rfl (fun _ _ h=>by cases h) (fun _ h=>by cases h)
    have hout1:St w1 X df a σ1 fr':=q2.mv hmv1 hst1.st
    have hout2:=hout1.turn (o':=.loop { rec .ready none with state:=.busy }) (by omega) hn1 hl1 rfl (fun _ _ h=>by cases h) (fun _ h=>by cases h)
    have hmv2:Mv w σ (w1.putObj (w.heap.size+1) (.loop { rec .ready none with state:=.busy })) σ1:=(q3.trans hmv1).turn (Nat.le_succ _) _
    have hA:AWP P (some (w.heap.size+1)) 7 0 body (bM9 Q a (S (k+1)) (I (k+1))) a1' σ1:=hA
    refine wpIn_mono (hA.run _ X a1 hst2) ?_
    rintro e3 a3 W3 ⟨a3',σ3,hQ3,hst3,hmv3⟩
    have hl2s:w.heap.size+1<(w1.putObj (w.heap.size+1) (.loop { rec .ready none with state:=.busy })).heap.size:=by rw [ak2];exact hl1s
    have hl3:W3.heap[w.heap.size+1]?=some (.loop { rec .ready none with state:=.busy }):=(hmv3.keep.block _ hl2s (fun h=>hn1 (.inr h))).trans hl2
    have hn3:¬ Own σ3 X (w.heap.size+1):=bu7 hmv3 hl2s hn1
    have hl3s:=(Array.getElem?_eq_some_iff.1 hl3).1
    have hout3:St W3 X df a σ3 fr':=hout2.mv hmv3 hst3.st
    have hmv3':Mv w σ W3 σ3:=hmv2.trans hmv3
    have fin:∀ (jump:Option Code),(Instr.endRound (w.heap.size+1) jump).run P W3 = .ok (.bool jump.isNone) (W3.putObj (w.heap.size+1) (.loop (rec (if jump.isNone then .ready else .done) jump))) ∧
      (W3.putObj (w.heap.size+1) (.loop (rec (if jump.isNone then .ready else .done) jump))).heap[w.heap.size+1]?=some (.loop (rec (if jump.isNone then .ready else .done) jump)) ∧
      St (W3.putObj (w.heap.size+1) (.loop (rec (if jump.isNone then .ready else .done) jump))) X df a σ3 fr':=fun jump=>by
     have:=run_endRound (P:=P) jump hl3
     refine ⟨by rw [hrec] at this ⊢;exact this,World.putObj_heap_same hl3s,hout3.turn (by omega) hn3 hl3 rfl (fun _ _ h=>by cases h) (fun _ h=>by cases h)⟩
    have hkp:∀ (o:Obj) (b:Nat),b<W1.heap.size→¬ O b→(W3.putObj (w.heap.size+1) o).heap[b]?=Wc.heap[b]?:=fun o b hb hn=>by
     obtain ⟨n1,n2,n3⟩:=hnO hn
     have hbw:b<w.heap.size:=by omega
     have h1:=hmv3'.keep.block b hbw (fun h=>n1 (.inr h))
     have h2:=q3.keep.block b hbw (fun h=>n1 (.inr h))
     exact (World.putObj_heap_other n3).trans (h1.trans h2.symm)
    have hzz:∀ o:Obj,Wc.heap.size≤(W3.putObj (w.heap.size+1) o).heap.size:=fun o=>by
     have h1:=hmv1.keep.size
     have h2:=hmv3.keep.size
     rw [ak2] at h2 ⊢
     omega
    have pend:∀ (e0:Exit) (c:Code),(e0 = .ret∧c = .ret∨∃ id,e0 = .exit id∧c = .exit id)→Q e0 a σ3→∃ v w',(Instr.endRound (w.heap.size+1) (some c)).run P W3 = .ok v w' ∧
      ((Ending.returned v = .returned (.bool true)∧(∃ gk,I (k+1) gk∧St w' X df a (S (k+1) gk) fr'∧Mv w σ w' (S (k+1) gk)∧W1.heap.size≤w'.heap.size∧w'.heap[w.heap.size+1]?=some (.loop (rec .ready none))∧¬ Own (S (k+1) gk) X (w.heap.size+1))∧Wc.heap.size≤w'.heap.size∧∀ b,b<W1.heap.size→¬ O b→w'.heap[b]?=Wc.heap[b]?) ∨
       (Ending.returned v = .returned (.bool false)∧∃ τ e c,(e = .ret∧c = .ret∨∃ id,e = .exit id∧c = .exit id)∧Q e a τ∧St w' X df a τ fr'∧Mv w σ w' τ∧w'.heap[w.heap.size+1]?=some (.loop (rec .done (some c)))∧¬ Own τ X (w.heap.size+1))):=fun e0 c hec hq=>by
     obtain ⟨f1,f2,f3⟩:=fin (some c)
     exact ⟨_,_,f1,.inr ⟨rfl,σ3,e0,c,hec,hq,f3,hmv3'.turn (Nat.le_succ _) _,f2,hn3⟩⟩
    cases e3 with
    | normal=>
     obtain ⟨g',hsub,hI'⟩:=hQ3
     obtain ⟨f1,f2,f3⟩:=fin none
     refine ⟨_,_,f1,.inl ⟨rfl,⟨g',hI',?_,?_,Nat.le_trans q4 (hzz _),f2,ak3 hsub _ hn3⟩,hzz _,hkp _⟩⟩
     ·exact ⟨f3.fr.keep (Nat.le_refl _) (fun x _ hn=>ak3 hsub x hn) (fun _ _ _=>rfl),f3.st.sub hsub,f3.df.keep (Nat.le_refl _) (fun x _ hn=>ak3 hsub x hn) (fun _ _ _=>rfl)⟩
     ·exact (hmv3'.turn (Nat.le_succ _) _).fewer (fun b hb=>(hsub.map Prod.fst).subset hb)
    | ret=>exact pend .ret .ret (.inl ⟨rfl,rfl⟩) hQ3
    | exit id=>exact pend (.exit id) (.exit id) (.inr ⟨id,rfl,rfl⟩) hQ3
    | goto t=>exact hQ3.elim
    | panic c=>exact hQ3.elim
    | outgrown=>exact hQ3.elim
   | exit id=>exact hA.elim
   | goto t=>exact hA.elim
   | ret=>exact hA.elim
   | panic c=>exact hA.elim
   | outgrown=>exact hA.elim
end
/-! ### .. by the executor -/
section
variable {P:Program} {df:Nat} {N:Nat} {σ:aa1} {a:List D} {f:Frm} {T:TypeId→Option TI} {Q:Fst}
def ce6 (Q:Fst) (f:Frm) {γ:Type} (S:γ→aa1) (I:γ→Prop):Fst
 | .normal,_,σ'=>∃ g,(S g).Sublist σ'∧I g
 | .ret,_,σ'=>Q .ret f σ'
 | .exit id,_,σ'=>Q (.exit id) f σ'
 | _,_,_=>False
def zipF:List Tmp→List D→Frm→Frm
 | p :: ps,d :: x,f=>zipF ps x ((p,d) :: f)
 | _,_,f=>f
theorem bp3:∀ {ps:List Tmp} {x:List D} {a:List D} {f:Frm},(ps.all fun p=>Nat.blt p N)=true→Sp N a f→Sp N (aM7 a ps x) (zipF ps x f)
 | [],x,a,f,_,h=>by simpa [aM7,zipF] using h
 | p :: ps,[],a,f,_,h=>by simpa [aM7,zipF] using h
 | p :: ps,d :: x,a,f,hp,h=>by
  simp only [List.all_cons,Bool.and_eq_true,Nat.blt_eq] at hp
  have:=bp3 (x:=x) hp.2 (h.set (d:=d) hp.1)
  simpa [aM7,zipF] using this
theorem bG8 (hm:P.follows .mixedOrders=true) (hT:∀ t i,T t=some i→tiOf P t=some i) {g:Operand} {ps:Array Tmp} {assign body:Code} {gf:FuncId} {caps:List D} {its:List (List D)} (hg:evF f g = .clo gf caps) (hit:cb2 P gf caps its) (hps:∀ x∈its,x.length=ps.size) (hpN:(ps.toList.all fun p=>Nat.blt p N)=true)
  {γ:Type} (S:Nat→γ→aa1) (I:Nat→γ→Prop) (g₀:γ) (hσ:(S 0 g₀).Sublist σ) (h0:I 0 g₀)
  (round:∀ (l k:Nat) gk x,its[k]?=some x→I k gk→W (am1 P T (some l) 7 0 N assign (bs7 (am1 P T (some l) 7 0 N body (ce6 Q f (S (k+1)) (I (k+1)))) (fun _ _ _=>False)) (zipF ps.toList x f) (S k gk)))
  (done:∀ gk,I its.length gk→W (Q .normal f (S its.length gk))):Lp P none 9 df N (.rangeFunc g ps assign body) Q f σ:=by
 refine ⟨fun a hs=>?_⟩
 refine bA8 hit (hs.eq hg (fun h=>by cases h)) hps S I g₀ hσ h0 (fun l k gk x hx hI=>?_) (fun gk hI=>⟨f,hs,(done gk hI).h⟩)
 refine ap6 (am0 hm hT (round l k gk x hx hI).h (bp3 hpN hs)) ?_
 rintro e a1 σ1 ⟨f1,hs1,h1⟩
 cases e with
 | normal=>
  refine ap6 (am0 hm hT h1 hs1) ?_
  rintro e a2 σ2 ⟨f2,hs2,h2⟩
  cases e with
  | normal=>exact h2
  | ret=>exact ⟨f,hs,h2⟩
  | exit id=>exact ⟨f,hs,h2⟩
  | goto t=>exact h2.elim
  | panic c=>exact h2.elim
  | outgrown=>exact h2.elim
 | exit id=>exact h1.elim
 | goto t=>exact h1.elim
 | ret=>exact h1.elim
 | panic c=>exact h1.elim
 | outgrown=>exact h1.elim
end
end
section
open Go Go.RowKit Go.Shelf
section
variable {P:Program} {r:Option Nat} {n:Nat} {df:Nat} {N:Nat} {Q:Pst} {a:List D} {σ:aa1} {w:World} {X:Nat→Prop} {ρ:Operand→D} {f:Frm} {L:List Oper} {T:TypeId→Option TI}
theorem yd_bne {o:Oper} {t t':TypeId} {x y:Operand} {p q:Bool} (ho:o.op = .binOp .neq t x y t') (hx:ρ x = .v (.bool p)) (hy:ρ y = .v (.bool q)) (ht:P.underlying t=some .bool):Yd P o ρ σ (.v (.bool (!(p == q)))):=by
 intro w X η hη hst
 obtain ⟨dst,op,ty,pos,aft,g⟩:=o
 simp only at ho
 subst ho
 have h1:=(hη x (by simp [Op.operands])).val hx
 have h2:=(hη y (by simp [Op.operands])).val hy
 refine ac8 (s:=do eqGuard .neq t x y (η x) (η y);binOp .neq t (η x) (η y)) (u:=.bool (!(p == q))) ?_ (Ex.refl w) (.v _)
 rw [h1,h2]
 show (do eqGuard .neq t x y (.bool p) (.bool q);(do pure (Value.bool (!(← Op.equal t (.bool p) (.bool q)))))).run P w=_
 have hg0:(eqGuard .neq t x y (.bool p) (.bool q)).run P w = .ok () w:=rfl
 simp only [Sem.run_bind,hg0,Result.andThen,run_equal_bool w t p q ht,Sem.run_pure]
theorem aq8 (hT:∀ t i,T t=some i→tiOf P t=some i) {o:Oper} {t:TypeId} {x:Operand} {lo hi:Option Operand} {b off m c:Nat} {l h:Nat} {i:TI} {p:Nat × Bool × Nat × Nat} (ho:o.op = .slice t x lo hi none) (hx:ρ x = .v (.slice (some ⟨b,off,none⟩) m c)) (ht:T t=some i) (hs:i.sl=some p)
  (hlo:(lo=none∧l=0)∨∃ y kk,lo=some y∧ρ y = .v (.int kk (l:Int))) (hhi:(hi=none∧h=m)∨∃ y kk,hi=some y∧ρ y = .v (.int kk (h:Int))) (h1:l≤h) (h2:h≤c) (h3:l<c):Yd P o ρ σ (.v (.slice (some ⟨b,off+l*p.2.2.1,none⟩) (h - l) (c - l))):=by
 intro w X η hη hst
 obtain ⟨dst,op,ty,pos,aft,g⟩:=o
 simp only at ho
 subst ho
 obtain ⟨e,ag,k',by_⟩:=p
 obtain ⟨hu,hsz,_⟩:=ag3 (hT t i ht) hs
 have hz:=(ai7 hsz w).2
 have hxv:=(hη x (by simp [Op.operands])).val hx
 refine ac8 (s:=Instr.sliceAt t (η x) (lo.map η) (hi.map η) ((none:Option Operand).map η)) (u:=.slice (some ⟨b,off+l*k',none⟩) (h - l) (c - l)) ?_ (Ex.refl w) (.v _)
 rw [hxv]
 have hne:c≠l:=by omega
 have hb:(Instr.sliceBounds true m c (lo.map η) (hi.map η) none).run P w = .ok (l,h,c) w:=by
  have hh:((h:Int)).toNat=h:=rfl
  have hl:((l:Int)).toNat=l:=rfl
  rcases hlo with ⟨rfl,rfl⟩|⟨yl,kl,rfl,hyl⟩ <;> rcases hhi with ⟨rfl,rfl⟩|⟨yh,kh,rfl,hyh⟩
  ·simp [Instr.sliceBounds,Result.andThen]
  ·have:=(hη yh (by simp [Op.operands])).val hyh
   simp [Instr.sliceBounds,Instr.sliceBound,Result.andThen,this,asIntOf,h2]
  ·have:=(hη yl (by simp [Op.operands])).val hyl
   simp [Instr.sliceBounds,Instr.sliceBound,Result.andThen,this,asIntOf,h1]
  ·have q1:=(hη yl (by simp [Op.operands])).val hyl
   have q2:=(hη yh (by simp [Op.operands])).val hyh
   simp [Instr.sliceBounds,Instr.sliceBound,Result.andThen,q1,q2,asIntOf,h1,h2]
 simp only [Instr.sliceAt,Sem.run_bind,run_underlying hu,Result.andThen,Instr.slice,Option.map_none,hb,hz,Sem.run_pure,if_neg hne,Option.map_some,ah4]
theorem OtE.copy (hT:∀ t i,T t=some i→tiOf P t=some i) {o:Oper} {p x:Operand} {t t2 e:TypeId} {i j:TI} {ag:Bool} {by_ b off dl dc jj:Nat} {tb:TypeId} {cs new:List D} {K:Frm→aa1→Prop}
  (ho:o.op = .call { callee:=.builtin .copy,args:=#[p,x],argTypes:=#[t,t2] }) (hp:evF f p = .v (.slice (some ⟨b,off,none⟩) dl dc)) (ht:T t=some i) (hs:i.sl=some (e,ag,1,by_)) (hj:T e=some j) (hjs:j.size=1)
  (hb:σ[jj]?=some (b,.cells tb cs)) (hfit:off+new.length≤cs.length) (hone:new.all oneD=true) (hne:new≠[])
  (hsrc:(∃ ys:List (List D),evF f x = .sl 1 ys∧new=(ys.take (Nat.min ys.length dl)).flatten∧new.length=Nat.min ys.length dl)∨(∃ (o2 sl sc:Nat),evF f x = .v (.slice (some ⟨b,o2,none⟩) sl sc)∧new=(cs.drop o2).take (Nat.min sl dl)∧new.length=Nat.min sl dl))
  (kk:W (putK N o.dst (.v (.int .i64 new.length)) f (fun f'=>K f' (σ.set jj (b,.cells tb (spl cs off new)))))):OtE P r n df L N o f σ K:=by
 refine ⟨fun rest Q a hsp hw hk=>?_⟩
 refine ad7 hw (by rw [ho];rfl) fun w X fr hst=>?_
 have hpv:=hsp.le p _ _ _ (hst.fr.eval p)
 rw [hp] at hpv
 have hpv:=hpv.val rfl
 have hxv:=hsp.le x _ _ _ (hst.fr.eval x)
 obtain ⟨hu,hsz,_⟩:=ag3 (hT t i ht) hs
 have hsz1:(P.info? e).map (·.size)=some 1:=by
  obtain ⟨inf,u,q1,_,_,q4,_⟩:=ao9 (hT e j hj)
  rw [q1];simp [← q4,hjs]
 obtain ⟨_,ob,hob,vs,rfl,hvs⟩:=hst.st.at_ b _ (List.mem_of_getElem? hb)
 obtain ⟨nv,ad,sl,sc,hxe,hnr,hnl,hcell⟩:∃ (nv:List Value) (ad:Addr) (sl sc:Nat),fr.eval x = .slice (some ad) sl sc∧RdL w (Own σ X) new nv∧nv.length=Nat.min sl dl∧∀ (j:Nat) v,nv[j]?=some v→w.cell? (ad.add j)=some v:=by
  rcases hsrc with ⟨ys,h1,h2,h3⟩|⟨o2,sl,sc,h1,h2,h3⟩
  ·rw [h1] at hxv
   obtain ⟨a0,c,news,hxe,hrd,hnl,hcl⟩:=bi7 hxv (by omega)
   have hys:ys≠[]:=fun h=>by subst h;simp at h2;exact hne h2
   obtain ⟨ad,rfl,hcell⟩:=hcl hys
   have hysk:∀ y∈ys,y.length=1:=(hxv.sl_inv.choose_spec.choose_spec.choose_spec).2.2.1
   have hfl:(ys.take (Nat.min ys.length dl)).flatten=ys.flatten.take (Nat.min ys.length dl):=by
    have h4:(ys.take (Nat.min ys.length dl)).flatten.length=Nat.min ys.length dl:=by rw [← h2];exact h3
    have h5:ys.flatten=(ys.take (Nat.min ys.length dl)).flatten ++ (ys.drop (Nat.min ys.length dl)).flatten:=by rw [← List.flatten_append,List.take_append_drop]
    rw [h5,List.take_left' h4]
   refine ⟨news.take (Nat.min ys.length dl),ad,ys.length,c,hxe,by rw [h2,hfl];exact hrd.take _,?_,fun j v hv=>?_⟩
   ·rw [List.length_take,hnl]
    have:=Nat.min_le_left ys.length dl
    simp only [Nat.mul_one];exact Nat.min_eq_left this
   ·rw [List.getElem?_take] at hv
    split at hv
    ·exact hcell j v hv
    ·cases hv
  ·rw [h1] at hxv
   have hxe:=hxv.val rfl
   have hr2:=(hvs.drop o2).take (Nat.min sl dl)
   refine ⟨(vs.drop o2).take (Nat.min sl dl),⟨b,o2,none⟩,sl,sc,hxe,by rw [h2];exact hr2,by rw [hr2.len,← h2,h3],fun j v hv=>?_⟩
   rw [List.getElem?_take] at hv
   split at hv
   ·rw [List.getElem?_drop] at hv
    have hlt:=(List.getElem?_eq_some_iff.1 hv).1
    rw [ah4]
    simp [World.cell?,hob,hv]
   ·cases hv
 have hnn:nv.length=new.length:=hnr.len
 have hrun:=run_copy_row (P:=P) w t t2 o.type e b off dl dc ad sl sc vs.toArray tb nv hu hsz1 hob hnl hcell (by simp [hvs.len];omega) (aR2 hnr hone)
 have ee:(execOp fr.eval o).run P w = .ok (.value (goInt nv.length)) (w.setRow b (vs.take off ++ nv ++ vs.drop (off+nv.length)).toArray):=by
  simp only [execOp,ho,resolve,invoke,builtin,Sem.run_bind,Sem.run_pure,Result.andThen,List.map_toArray,List.map_cons,List.map_nil,hpv,hxe,hrun]
 rw [ee]
 obtain ⟨q1,q2⟩:=av1 (cur':=(vs.take off ++ nv ++ vs.drop (off+nv.length)).toArray) hob
 have hnew:RdL w (Own σ X) (spl cs off new) (vs.take off ++ nv ++ vs.drop (off+nv.length)):=by
  unfold spl
  rw [hnn]
  exact ((hvs.take off).append hnr).append (hvs.drop _)
 obtain ⟨g1,g2,g3,g4⟩:=hst.st.upd hb (k':=.cells tb (spl cs off new)) q2 q1 ⟨_,rfl,hnew⟩
 obtain ⟨f',hs',h4⟩:=ac7 kk.h hsp
 refine ⟨.v (.int .i64 new.length),_,g2,?_,hk _ _ _ h4 hs'⟩
 rw [← hnn]
 exact (⟨hst.fr.keep q2.size g3 g4,g1,hst.df.keep q2.size g3 g4⟩:St _ X df a _ fr).put (.v _) o.dst
theorem Rs.c1 (hT:∀ t i,T t=some i→tiOf P t=some i) {fn:Func} {j b:Nat} {t tb:TypeId} {d:D} {ti:TI} {K:D→Prop} (h:fn.results = #[.cell j t]) (hj:evF f (.tmp j) = .v (.pointer (some ⟨b,0,none⟩))) (hb:(b,Blk.cells tb [d])∈σ) (ht:T t=some ti) (hag:ti.agg=false)
  (k:W (K d)):Rs P N fn f σ K:=by
 refine ⟨_,fun a ha=>?_,k.h⟩
 intro w X tm hf hst
 obtain ⟨_,ob,hob,vs,rfl,hvs⟩:=hst.at_ b _ hb
 obtain ⟨g1,g2⟩:=aE6 (hT t ti ht) w
 rw [hag] at g1
 have hp:=(ai9 hf j).val (ha.eq hj (fun h=>by cases h))
 obtain ⟨u,k1,k2⟩:=hvs.get (j:=0) rfl
 have hcell:w.cell? ⟨b,0,none⟩=some u:=by simp [World.cell?,hob,k1]
 have hl:(loadVar t ⟨b,0,none⟩).run P w = .ok u w:=by
  have:=an8 (P:=P) (t:=t) g1 hcell
  simp only [Instr.loadAt,Instr.sureAddr,Sem.run_bind,Sem.run_pure,Result.andThen] at this
  exact this
 exact ⟨u,by simp [results,h,hp,asAddr,hl,Result.andThen,-Array.getD_eq_getD_getElem?],k2⟩
theorem Ld.cellm {o:Oper} {b off:Nat} {K:D→Prop} {tb:TypeId} {cs:List D} {d:D} (h1:(b,Blk.cells tb cs)∈σ) (h2:cs[off]?=some d) (h:W (K d)):Ld P o ρ σ b off false 1 K:=by
 obtain ⟨j,hj⟩:=List.getElem?_of_mem h1
 exact Ld.cell j hj h2 h
theorem Sv.cellm {b off:Nat} {d:D} {K:aa1→Prop} {tb:TypeId} {cs cs':List D} {τ:aa1} (h1:σ.Perm ((b,.cells tb cs) :: τ)) (h2:off<cs.length) (h3:oneD d=true) (h4:cs.set off d=cs') (h:W (K ((b,.cells tb cs') :: τ))):Sv σ b off [d] 1 K:=by
 refine Sv.perm h1 rfl h2 (by simp [h3]) ?_ h
 subst h4
 unfold spl
 rw [List.set_eq_take_append_cons_drop,if_pos h2]
 simp
end
end
section
open Go Go.RowKit Go.Shelf
abbrev ORep (α:Type):=α→Value→aa1→Prop
inductive All3 {α:Type} (R:ORep α):List α→List Value→List aa1→Prop
 | nil:All3 R [] [] []
 | cons {x:α} {u:Value} {t:aa1} {xs:List α} {vs:List Value} {ts:List aa1} (h:R x u t) (k:All3 R xs vs ts):All3 R (x :: xs) (u :: vs) (t :: ts)
section
variable {α:Type} {R:ORep α}
theorem All3.len {xs:List α} {vs:List Value} {ts:List aa1} (h:All3 R xs vs ts):vs.length=xs.length∧ts.length=xs.length:=by
 induction h with
 | nil=>exact ⟨rfl,rfl⟩
 | cons h k ih=>simp [ih.1,ih.2]
theorem All3.at {xs:List α} {vs:List Value} {ts:List aa1} (h:All3 R xs vs ts):∀ {i:Nat} {x:α},xs[i]?=some x→∃ u t τ,vs[i]?=some u∧R x u t∧ts.flatten.Perm (t ++ τ) ∧
  ∀ x' u' t',R x' u' t'→∃ ts',All3 R (xs.set i x') (vs.set i u') ts'∧ts'.flatten.Perm (t' ++ τ):=by
 induction h with
 | nil=>intro i x hx;simp at hx
 | @cons y u t xs vs ts h k ih=>
  intro i x hx
  cases i with
  | zero=>
   simp at hx
   subst hx
   exact ⟨u,t,ts.flatten,rfl,h,by simp,fun x' u' t' h'=>⟨t' :: ts,.cons h' k,by simp⟩⟩
  | succ i=>
   simp at hx
   obtain ⟨u2,t2,τ,h1,h2,h3,h4⟩:=ih hx
   refine ⟨u2,t2,t ++ τ,by simpa using h1,h2,?_,fun x' u' t' h'=>?_⟩
   ·rw [List.flatten_cons]
    refine (List.Perm.append_left t h3).trans ?_
    rw [← List.append_assoc,← List.append_assoc]
    exact List.perm_append_comm.append_right _
   ·obtain ⟨ts',k1,k2⟩:=h4 x' u' t' h'
    refine ⟨t :: ts',by simpa using All3.cons h k1,?_⟩
    rw [List.flatten_cons]
    refine (List.Perm.append_left t k2).trans ?_
    rw [← List.append_assoc,← List.append_assoc]
    exact List.perm_append_comm.append_right _
theorem All3.append {xs ys:List α} {vs us:List Value} {ts ss:List aa1} (h:All3 R xs vs ts) (k:All3 R ys us ss):All3 R (xs ++ ys) (vs ++ us) (ts ++ ss):=by
 induction h with
 | nil=>exact k
 | cons h _ ih=>exact .cons h ih
theorem All3.rep {x:α} {u:Value} {t:aa1} (h:R x u t):∀ n,All3 R (List.replicate n x) (List.replicate n u) (List.replicate n t)
 | 0=>.nil
 | n+1=>by rw [List.replicate_succ,List.replicate_succ,List.replicate_succ];exact .cons h (All3.rep h n)
structure RowsOf (e:TypeId) (R:ORep α) (xs:List α) (v:Value) (s:aa1):Prop where
 ex:∃ (vs:List Value) (s0:aa1) (ts:List aa1),RowIs e 1 (vs.map fun u=>[D.v u]) v s0∧All3 R xs vs ts∧s.Perm (s0 ++ ts.flatten)
theorem RowsOf.perm {e:TypeId} {xs:List α} {v:Value} {s s':aa1} (h:RowsOf e R xs v s) (hp:s'.Perm s):RowsOf e R xs v s':=by
 obtain ⟨vs,s0,ts,h1,h2,h3⟩:=h.ex
 exact ⟨vs,s0,ts,h1,h2,hp.trans h3⟩
theorem RowsOf.slice {e:TypeId} {xs:List α} {v:Value} {s:aa1} (h:RowsOf e R xs v s):∃ a c,v = .slice a xs.length c:=by
 obtain ⟨vs,s0,ts,h1,h2,h3⟩:=h.ex
 obtain ⟨a,c,e⟩:=h1.slice
 rw [List.length_map,h2.len.1] at e
 exact ⟨a,c,e⟩
theorem bW9 (vs:List Value):(vs.map fun u=>[D.v u]).flatten=vs.map D.v:=by
 induction vs with
 | nil=>rfl
 | cons v vs ih=>simp [ih]
theorem RowIs.block {e:TypeId} {k:Nat} {xs:List (List D)} {v:Value} {s:aa1} (h:RowIs e k xs v s) (hne:xs≠[]):∃ b cap junk,v = .slice (some ⟨b,0,none⟩) xs.length cap∧s=[(b,.cells e (xs.flatten ++ junk))]∧xs.length≤cap∧cap≤maxLen∧xs.length*k+junk.length=cap*k∧∀ d∈junk,d=D.any:=by
 rcases h.is with ⟨_,h,_⟩|h
 ·exact absurd h hne
 ·exact h
theorem RowsOf.at {e:TypeId} {xs:List α} {v:Value} {s:aa1} (h:RowsOf e R xs v s) {i:Nat} {x:α} (hx:xs[i]?=some x) :
  ∃ b cap cs u t τ,v = .slice (some ⟨b,0,none⟩) xs.length cap∧s.Perm ((b,.cells e cs) :: (t ++ τ))∧cs[i]?=some (.v u)∧R x u t ∧
   ∀ x' u' t' s',R x' u' t'→s'.Perm ((b,.cells e (cs.set i (.v u'))) :: (t' ++ τ))→RowsOf e R (xs.set i x') v s':=by
 obtain ⟨vs,s0,ts,h1,h2,h3⟩:=h.ex
 obtain ⟨u,t,τ,g1,g2,g3,g4⟩:=h2.at hx
 have hil:=(List.getElem?_eq_some_iff.1 g1).1
 obtain ⟨b,cap,junk,rfl,rfl,q3,q4,q5,q6⟩:=h1.block (fun h=>by
  have:=congrArg List.length h;simp at this;subst this;simp at hil)
 rw [bW9] at h3
 refine ⟨b,cap,vs.map D.v ++ junk,u,t,τ,by rw [List.length_map,h2.len.1],?_,?_,g2,fun x' u' t' s' h' hp=>?_⟩
 ·exact h3.trans (List.Perm.cons _ g3)
 ·rw [List.getElem?_append_left (by simpa using hil),List.getElem?_map,g1];rfl
 ·obtain ⟨ts',k1,k2⟩:=g4 x' u' t' h'
  refine ⟨vs.set i u',[(b,.cells e ((vs.set i u').map D.v ++ junk))],ts',⟨fun y hy=>by obtain ⟨z,_,rfl⟩:=List.mem_map.1 hy;rfl,.inr ⟨b,cap,junk,by simp [h2.len.1],by rw [bW9],by simpa using q3,q4,by simpa using q5,q6⟩⟩,k1,?_⟩
  refine hp.trans ?_
  rw [List.set_append_left _ _ (by simpa using hil),List.map_set]
  exact List.Perm.cons _ k2.symm
def Frz (R:ORep α) (den:α→D):Prop:=∀ x u t τ w X,R x u t→StOK w X (t ++ τ)→Rd w (Own τ X) (den x) u
theorem by3 {β:Type} (e:TypeId) (k:Nat) (g:β→List D):Frz (fun (l:List β) v s=>RowIs e k (l.map g) v s) (fun l=>.sl k (l.map g)):=fun _ _ _ _ _ _ h hs=>ay3 h hs
theorem ak9 {w:World} {X:Nat→Prop} {s t:aa1} {d:D} {u:Value} (h:Rd w (Own s X) d u) (hs:∀ b,b∈ab4 t→b∈ab4 s):Rd w (Own t X) d u:=
 h.keep (Nat.le_refl _) (fun b _ hn ho=>hn (ho.imp id (hs b))) (fun _ _ _=>rfl)
theorem aU0 {e:TypeId} {den:α→D} (hf:Frz R den):Frz (RowsOf e R) (fun xs=>.sl 1 (xs.map fun x=>[den x])):=by
 intro xs v s τ w X h hs
 obtain ⟨vs,s0,ts,h1,h2,h3⟩:=h.ex
 have hp:(s ++ τ).Perm (s0 ++ (ts.flatten ++ τ)):=by rw [← List.append_assoc];exact h3.append_right _
 have hs':=hs.perm hp
 have hrow:=ay3 h1 hs'
 obtain ⟨a,cap,f,e1,hcap,hk,hc,hr⟩:=hrow.sl_inv
 have hsub:∀ b,b∈ab4 τ→b∈ab4 (ts.flatten ++ τ):=fun b hb=>by rw [aa4];exact List.mem_append_right _ hb
 have hlen:vs.length=xs.length:=h2.len.1
 rw [e1,List.length_map,hlen,show xs.length=(xs.map fun x=>[den x]).length by simp]
 refine .sl 1 _ a cap f (by simpa [hlen] using hcap) (fun y hy=>by obtain ⟨z,_,rfl⟩:=List.mem_map.1 hy;rfl) (fun i y hy=>?_) (fun i y hy j d hd=>?_)
 ·have hi:i<vs.length:=by have:=(List.getElem?_eq_some_iff.1 hy).1;simpa [hlen] using this
  obtain ⟨b,off,q1,q2,q3,q4⟩:=hc i [.v vs[i]] (by rw [List.getElem?_map,List.getElem?_eq_getElem hi];rfl)
  exact ⟨b,off,q1,fun ho=>q2 (ho.imp id (hsub b)),q3,q4⟩
 ·rw [List.getElem?_map,Option.map_eq_some_iff] at hy
  obtain ⟨x,hx,rfl⟩:=hy
  cases j with
  | succ j=>simp at hd
  | zero=>
   simp at hd
   subst hd
   obtain ⟨u,t,τ',g1,g2,g3,g4⟩:=h2.at hx
   have hv:=(hr i [.v u] (by rw [List.getElem?_map,g1];rfl) 0 _ rfl).val rfl
   rw [hv]
   have hp2:(s ++ τ).Perm (t ++ (s0 ++ τ' ++ τ)):=by
    refine hp.trans ?_
    refine (List.Perm.append_left s0 (g3.append_right τ)).trans ?_
    simp only [List.append_assoc]
    rw [← List.append_assoc s0 t,← List.append_assoc t s0]
    exact List.perm_append_comm.append_right _
   have:=hf x u t (s0 ++ τ' ++ τ) w X g2 (hs.perm hp2)
   exact ak9 this (fun b hb=>by rw [aa4];exact List.mem_append_right _ hb)
theorem Vs.frz {den:α→D} (hf:Frz R den) {x:α} {v:Value} {s σ τ:aa1} (h:R x v s) (hp:σ.Perm (s ++ τ)):Vs σ (.v v) τ (den x):=
 ⟨fun w X u hs hr=>by
  have:=hr.val rfl
  subst this
  exact ⟨(hs.perm hp).sub (List.sublist_append_right _ _),hf x _ s τ w X h (hs.perm hp)⟩,fun b hb=>ag6 hp b (by rw [aa4];exact List.mem_append_right _ hb)⟩
theorem RowsOf.made {e:TypeId} {x0:α} (h0:R x0 (.slice none 0 0) []) (m b:Nat) (hm:m≤maxLen):RowsOf e R (List.replicate m x0) (.slice (some ⟨b,0,none⟩) m m) [(b,.cells e (List.replicate m (.v (.slice none 0 0))))]:=by
 refine ⟨List.replicate m (.slice none 0 0),[(b,.cells e (List.replicate m (.v (.slice none 0 0))))],List.replicate m [],⟨fun y hy=>by obtain ⟨z,_,rfl⟩:=List.mem_map.1 hy;rfl,.inr ⟨b,m,[],by simp,by rw [bW9];simp,by simp,hm,by simp,fun d hd=>by cases hd⟩⟩,All3.rep h0 m,by simp⟩
theorem RowsOf.nil (e:TypeId) (R:ORep α):RowsOf e R [] (.slice none 0 0) []:=⟨[],[],[],RowIs.nil _ _,.nil,by simp⟩
theorem RowIs.put {e:TypeId} {k:Nat} {xs:List (List D)} {b n cap:Nat} {cs:List D} (h:RowIs e k xs (.slice (some ⟨b,0,none⟩) n cap) [(b,.cells e cs)]) {i:Nat} {x':List D} (hi:i<xs.length) (hx:x'.length=k):RowIs e k (xs.set i x') (.slice (some ⟨b,0,none⟩) n cap) [(b,.cells e (spl cs (i*k) x'))]:=by
 have hne:xs≠[]:=fun e=>by subst e;simp at hi
 obtain ⟨b',cap',junk,e1,e2,q3,q4,q5,q6⟩:=h.block hne
 cases e1
 have e3:cs=xs.flatten ++ junk:=by simpa using e2
 refine ⟨fun y hy=>?_,.inr ⟨b,cap,junk,by simp,?_,by simpa using q3,q4,by simpa using q5,q6⟩⟩
 ·rcases List.mem_or_eq_of_mem_set hy with h1|rfl
  ·exact h.len y h1
  ·exact hx
 ·have hfl:=aj2 h.len
  have key:spl cs (i*k) x'=(xs.set i x').flatten ++ junk:=by
   rw [e3]
   have e4:xs=xs.take i ++ xs[i] :: xs.drop (i+1):=by rw [List.getElem_cons_drop,List.take_append_drop]
   have e5:xs.set i x'=xs.take i ++ x' :: xs.drop (i+1):=by rw [List.set_eq_take_append_cons_drop,if_pos hi]
   have ht:(xs.take i).flatten.length=i*k:=by
    rw [aj2 (k:=k) (fun y hy=>h.len y (List.mem_of_mem_take hy)),List.length_take,Nat.min_eq_left (by omega)]
   have hxi:xs[i].length=k:=h.len _ (List.getElem_mem hi)
   rw [e5]
   conv=>lhs;rw [e4]
   unfold spl
   simp only [List.flatten_append,List.flatten_cons,List.append_assoc]
   rw [← ht,List.take_left',List.drop_append,List.drop_of_length_le (by omega)]
   ·simp only [List.nil_append,List.append_assoc]
    congr 2
    rw [show (xs.take i).flatten.length+x'.length - (xs.take i).flatten.length=x'.length by omega,hx,← hxi,List.drop_left']
    rfl
   ·rfl
  rw [key]
theorem RowIs.get {e:TypeId} {k:Nat} {xs:List (List D)} {v:Value} {s:aa1} (h:RowIs e k xs v s) {i:Nat} {x:List D} (hx:xs[i]?=some x):∃ b cap cs,v = .slice (some ⟨b,0,none⟩) xs.length cap∧s=[(b,.cells e cs)]∧∀ j,j<k→cs[i*k+j]?=x[j]?:=by
 have hne:xs≠[]:=fun e=>by subst e;simp at hx
 obtain ⟨b,cap,junk,e1,e2,q3,q4,q5,q6⟩:=h.block hne
 refine ⟨b,cap,_,e1,e2,fun j hj=>?_⟩
 have:=aH5 h.len hx hj
 have hjx:j<x.length:=by rw [h.len x (List.mem_of_getElem? hx)];exact hj
 rw [List.getElem?_append_left,this]
 exact (List.getElem?_eq_some_iff.1 (this.trans (List.getElem?_eq_getElem hjx))).1
end
/-! ### What is made new may stand beside what was only looked at -/
def flA:D→Bool
 | .v _=>true
 | .any=>true
 | _=>false
def Blk.flat:Blk→Prop
 | .cells _ cs=>∀ d∈cs,flA d=true
 | .obj _=>True
 | .mp _ _ _=>False
def FlS (s:aa1):Prop:=∀ p∈s,Blk.flat p.2
theorem by5 {w w':World} {O O':Nat→Prop} {d:D} {u:Value} (h:Rd w O d u) (hd:flA d=true):Rd w' O' d u:=by
 cases d <;> first|(have:=h.val rfl;subst this;exact .v _)|exact .any u|cases hd
theorem FlS.append {s t:aa1} (h:FlS s) (k:FlS t):FlS (s ++ t):=fun p hp=>(List.mem_append.1 hp).elim (h p) (k p)
theorem FlS.perm {s t:aa1} (h:FlS s) (hp:t.Perm s):FlS t:=fun p hq=>h p (hp.mem_iff.1 hq)
theorem FlS.row {e:TypeId} {k:Nat} {xs:List (List D)} {v:Value} {s:aa1} (h:RowIs e k xs v s) (hf:∀ x∈xs,∀ d∈x,flA d=true):FlS s:=by
 rcases h.is with ⟨_,_,rfl⟩|⟨b,cap,junk,_,rfl,_,_,_,hj⟩
 ·exact fun p hp=>by cases hp
 ·intro p hp
  rw [List.mem_singleton] at hp
  subst hp
  intro d hd
  rcases List.mem_append.1 hd with h1|h1
  ·obtain ⟨x,hx,hdx⟩:=List.mem_flatten.1 h1
   exact hf x hx d hdx
  ·rw [hj d h1];rfl
theorem FlS.rows {α:Type} {R:ORep α} (hR:∀ x u t,R x u t→FlS t) {e:TypeId} {xs:List α} {v:Value} {s:aa1} (h:RowsOf e R xs v s):FlS s:=by
 obtain ⟨vs,s0,ts,h1,h2,h3⟩:=h.ex
 refine FlS.perm (FlS.append (FlS.row h1 fun x hx d hd=>?_) ?_) h3
 ·obtain ⟨u,_,rfl⟩:=List.mem_map.1 hx
  rw [List.mem_singleton] at hd
  subst hd;rfl
 ·clear h3 h1 h
  induction h2 with
  | nil=>exact fun p hp=>by cases hp
  | cons h k ih=>rw [List.flatten_cons];exact (hR _ _ _ h).append ih
theorem ACall.peek {P:Program} {f:FuncId} {ds ds':List D} {σ:aa1} {R:D→aa1→Prop} (hp:PkL σ ds ds') (hc:ACall P f ds' [] R) (hfl:∀ d s,R d s→bI1 d=true∧FlS s) :
  ACall P f ds σ (fun d σ'=>∃ s,σ'=s ++ σ∧R d s):=by
 refine ⟨hc.ent,fun w X vs hv hs=>?_⟩
 have hv':=hp.rd hs hv
 have hst0:StOK w (fun _=>False) []:=⟨List.nodup_nil,fun b k hm=>(by cases hm),fun b hb=>hb.elim,hs.gok.mono (fun b hb=>by rcases hb with hb|hb;exact hb.elim;cases hb)⟩
 refine (hc.run w (fun _=>False) vs ⟨hv'.len,fun j d u g1 g2=>(hv'.at_ j d u g1 g2).keep (Nat.le_refl _) (fun b _ _ ho=>by rcases ho with ho|ho;exact ho.elim;cases ho) (fun _ _ _=>rfl)⟩ hst0).mono ?_
 rintro e w' ⟨u,d,s,g1,g2,g3,g4,g5⟩
 obtain ⟨f1,f2⟩:=hfl d s g2
 have hx:Ex w w':=⟨g5.keep.os,g5.keep.tape,g5.keep.output,g5.keep.size,fun b hb _=>g5.keep.block b hb (fun hk=>by cases hk)⟩
 have hnew:∀ b,b∈ab4 s→w.heap.size≤b:=fun b hb=>by
  rcases g5.new b hb with h|h
  ·cases h
  ·exact h
 have hO:∀ b,b<w.heap.size→¬ Own σ X b→¬ Own (s ++ σ) X b:=fun b hb hn ho=>by
  rcases ho with ho|ho
  ·exact hn (.inl ho)
  ·rw [aa4,List.mem_append] at ho
   rcases ho with ho|ho
   ·have:=hnew b ho;omega
   ·exact hn (.inr ho)
 refine ⟨u,d,s ++ σ,g1,⟨s,rfl,g2⟩,bf4 g3 f1,⟨?_,fun b k hbk=>?_,fun b hb=>Nat.lt_of_lt_of_le (hs.xlt b hb) hx.size,?_⟩,⟨⟨hx.os,hx.tape,hx.output,hx.size,fun b hb _=>hx.block b hb⟩,fun b hb=>?_⟩⟩
 ·rw [aa4,List.nodup_append]
  exact ⟨g4.nodup,hs.nodup,fun b h1 c h2 e=>by subst e;have:=hnew b h1;have:=hs.lt h2;omega⟩
 ·rcases List.mem_append.1 hbk with h|h
  ·obtain ⟨_,o,h2,h3⟩:=g4.at_ b k h
   refine ⟨fun hX=>by have:=hnew b (au8 h);have:=hs.xlt b hX;omega,o,h2,?_⟩
   have hfk:=f2 _ h
   cases k with
   | cells t cs=>
    obtain ⟨vs,q1,q2⟩:=h3
    exact ⟨vs,q1,q2.len,fun j d u r1 r2=>by5 (q2.at_ j d u r1 r2) (hfk d (List.mem_of_getElem? r1))⟩
   | obj ok=>exact h3
   | mp P k G=>exact hfk.elim
  ·obtain ⟨h1,o,h2,h3⟩:=hs.at_ b k h
   have hlt:=(Array.getElem?_eq_some_iff.1 h2).1
   exact ⟨h1,o,(hx.block b hlt).trans h2,Blk.ok_keep hx.size hO (fun b hb _=>hx.block b hb) h3⟩
 ·refine hs.gok.keep hx.size hO (fun b hb _=>hx.block b hb) (fun b hb=>?_)
  rcases hb with hb|hb
  ·exact Nat.lt_of_lt_of_le (hs.xlt b hb) hx.size
  ·rw [aa4,List.mem_append] at hb
   rcases hb with hb|hb
   ·exact g4.lt hb
   ·exact Nat.lt_of_lt_of_le (hs.lt hb) hx.size
 ·rw [aa4,List.mem_append] at hb
  rcases hb with hb|hb
  ·exact .inr (hnew b hb)
  ·exact .inl hb
theorem Pk.frz {α:Type} {R:ORep α} {den:α→D} (hf:Frz R den) {x:α} {v:Value} {s σ τ:aa1} (h:R x v s) (hp:σ.Perm (s ++ τ)):Pk σ (.v v) (den x):=
 ⟨fun w X u hs hr=>by have:=hr.val rfl;subst this;exact (hf x _ s τ w X h (hs.perm hp)).stable⟩
end
section
open Go Go.RowKit Go.Shelf
section
variable {β:Type} {g:β→D}
abbrev RowR (e1:TypeId) (g:β→D):ORep (List β):=fun l v s=>RowIs e1 1 (l.map fun b=>[g b]) v s
theorem bR5 {cs:List D} {off:Nat} (h:off<cs.length) (d:D):spl cs off [d]=cs.set off d:=by
 unfold spl
 rw [List.set_eq_take_append_cons_drop,if_pos h]
 simp
theorem bi8 {e1:TypeId} {l:List β} {u:Value} {s:aa1} (h:RowR e1 g l u s) {i:Nat} {b:β} (hb:l[i]?=some b) :
  ∃ b1 cap1 cs1,u = .slice (some ⟨b1,0,none⟩) l.length cap1∧s=[(b1,.cells e1 cs1)]∧cs1[i]?=some (g b)∧∀ b',RowR e1 g (l.set i b') u [(b1,.cells e1 (cs1.set i (g b')))]:=by
 have hi:=(List.getElem?_eq_some_iff.1 hb).1
 obtain ⟨b1,cap1,cs1,e2,e3,e4⟩:=RowIs.get h (show (l.map fun b=>[g b])[i]?=some [g b] by rw [List.getElem?_map,hb];rfl)
 have h4:=e4 0 (by omega)
 simp only [Nat.mul_one,Nat.add_zero] at h4
 have h5:cs1[i]?=some (g b):=by rw [h4];rfl
 rw [List.length_map] at e2
 subst e2 e3
 refine ⟨b1,cap1,cs1,rfl,rfl,h5,fun b'=>?_⟩
 have:=RowIs.put h (i:=i) (x':=[g b']) (by simpa using hi) rfl
 rw [Nat.mul_one,bR5 (List.getElem?_eq_some_iff.1 h5).1] at this
 show RowIs e1 1 ((l.set i b').map fun b=>[g b]) _ _
 rw [List.map_set]
 exact this
end
theorem ix1 (j:Nat):0+((j:Nat):Int).toNat*1=j:=by simp
end
section
open Go Go.RowKit Go.Shelf Go.Maps Go.MapKept
open Go.ChangeMaps (setBlock modify_eq_set heap_setBlock_same heap_setBlock_other)
/-! ### Permutations by counting -/
section
open Classical in
noncomputable local instance:DecidableEq (Nat × Blk):=fun _ _=>propDecidable _
noncomputable def ct (a:Nat × Blk) (l:aa1):Nat:=l.count a
noncomputable def ct1 (a x:Nat × Blk):Nat:=[x].count a
theorem af6 (a:Nat × Blk):ct a []=0:=by simp [ct]
theorem ad1 (a x:Nat × Blk) (l:aa1):ct a (x :: l)=ct1 a x+ct a l:=by
 unfold ct ct1
 rw [show x :: l=[x] ++ l from rfl,List.count_append]
theorem af7 (a:Nat × Blk) (l m:aa1):ct a (l ++ m)=ct a l+ct a m:=by simp [ct]
theorem ai0 {l m:aa1} (h:l.Perm m) (a:Nat × Blk):ct a l=ct a m:=by unfold ct;exact h.count_eq a
theorem ac9 {l m:aa1} (h:∀ a,ct a l=ct a m):l.Perm m:=List.perm_iff_count.2 h
end
def MapO (P:Program) (k:TypeId) (f:Value→Option Value) (o:Obj):Prop:=∃ es clock n,o = .map es clock∧Ents P k es clock n f
def MapS (P:Program) (k:TypeId) (f:Value→Option Value) (key stamp:Value) (o:Obj):Prop:=∃ es clock n,o = .map es clock∧Ents P k es clock n f∧∃ e∈es.toList,e.key=key∧stamp=goInt e.born
theorem MapS.is {P:Program} {k:TypeId} {f:Value→Option Value} {key stamp:Value} {o:Obj} (h:MapS P k f key stamp o):MapO P k f o:=by
 obtain ⟨es,c,n,h1,h2,_⟩:=h;exact ⟨es,c,n,h1,h2⟩
def KeyD (d:D) (kv:Value):Prop:=∀ (w:World) (O:Nat→Prop) (u:Value),Rd w O d u→u=kv
theorem KeyD.v (x:Value):KeyD (.v x) x:=fun _ _ _ h=>h.val rfl
section
variable {P:Program} {r:Option Nat} {n:Nat} {df:Nat} {N:Nat} {σ τ:aa1} {ρ:Operand→D} {f:Frm} {L:List Oper} {k t e:TypeId} {F:Value→Option Value} {b:Nat} {kv z:Value} {kl:Lit}
theorem bu6 {w:World} {X:Nat→Prop} {ok:Obj→Prop} (hs:StOK w X σ) (hb:(b,Blk.obj ok)∈σ):∃ o,w.heap[b]?=some o∧ok o:=by
 obtain ⟨_,o,h1,h2⟩:=hs.at_ b _ hb
 exact ⟨o,h1,h2⟩
theorem bp5 {o:Oper} {m key:Operand} {ok:Obj→Prop} (ho:o.op = .lookup t m key false) (hm:ρ m = .v (.map (some b))) (hd:KeyD (ρ key) kv) (hb:(b,Blk.obj ok)∈σ) (hok:∀ o,ok o→MapO P k F o)
  (K:Keyed P k) (ht:P.underlying t=some (.map k e)) (hz:∀ w,(zeroValue e).run P w = .ok z w) (hkey:keyOf P k kv=some kl):Yd P o ρ σ (.v ((F kv).getD z)):=by
 intro w X η hη hst
 obtain ⟨dst,op,ty,pos,aft,g⟩:=o
 simp only at ho
 subst ho
 have h1:=(hη m (by simp [Op.operands])).val hm
 have h2:=hd _ _ _ (hη key (by simp [Op.operands]))
 obtain ⟨ob,q1,q2⟩:=bu6 hst hb
 obtain ⟨es,c,nn,rfl,q3⟩:=hok _ q2
 exact ac8 (s:=Instr.lookup t (η m) (η key) false) (by rw [h1,h2];exact MapIs.look (n:=nn) ⟨es,c,q1,q3⟩ K ht (hz w) hkey) (Ex.refl w) (.v _)
theorem OtE.makeMap {o:Oper} {K:Frm→aa1→Prop} (ho:o.op = .makeMap t none) (kk:∀ b,W (putK N o.dst (.v (.map (some b))) f (fun f'=>K f' ((b,.obj (MapO P k fun _=>none)) :: σ)))):OtE P r n df L N o f σ K:=by
 refine ⟨fun rest Q a hsp hw hk=>?_⟩
 refine ad7 hw (by rw [ho];rfl) fun w X fr hst=>?_
 have e0:(execOp fr.eval o).run P w = .ok (.value (.map (some w.heap.size))) (w.alloc (.map #[] 0)):=by
  simp only [execOp,ho]
  rfl
 rw [e0]
 have hz:MapO P k (fun _=>none) (.map #[] 0):=⟨#[],0,0,rfl,⟨by simp,stamped_empty 0,by simp,by simp,by simp⟩⟩
 obtain ⟨g1,g2,g3⟩:=hst.st.new (.map #[] 0) (.obj (MapO P k fun _=>none)) hz
 obtain ⟨f',hs',h4⟩:=ac7 (kk w.heap.size).h hsp
 exact ⟨_,_,g2,(hst.mv g2 g1).put (.v _) o.dst,hk _ _ _ h4 hs'⟩
theorem be3 {w w':World} {s:aa1} (hp:σ.Perm τ) (h:Mv w τ w' s):Mv w σ w' s:=h.wider (fun b hb=>(ag6 hp b hb))
theorem OtE.obj {o:Oper} {K:Frm→aa1→Prop} {ok:Obj→Prop} (hn:ag7 o.op=true) (hb:σ.Perm ((b,Blk.obj ok) :: τ))
  (h:∀ (w:World) (fr:Act) (X:Nat→Prop) (ob:Obj),(∀ x,Rd w (Own σ X) (evF f x) (fr.eval x))→w.heap[b]?=some ob→ok ob →
   ∃ (d:D) (u:Value) (ok':Obj→Prop) (w':World) (ob':Obj),((execOp fr.eval o).run P w = .ok (.value u) w'∨((execOp fr.eval o).run P w = .ok .skip w'∧u=undef∧d = .v undef))∧(∀ w O,Rd w O d u)∧Keep (fun x=>x=b) w w'∧w'.heap[b]?=some ob'∧ok' ob'∧putK N o.dst d f (fun f'=>K f' ((b,.obj ok') :: τ))):OtE P r n df L N o f σ K:=by
 refine ⟨fun rest Q a hsp hw hk=>?_⟩
 refine ad7 hw hn fun w X fr hst=>?_
 have hst':=hst.perm hb
 obtain ⟨ob,q1,q2⟩:=bu6 hst'.st (List.mem_cons_self)
 obtain ⟨d,u,ok',w',ob',h1,h2,h3,h5,h6,h7⟩:=h w fr X ob (fun x=>hsp.le x _ _ _ (hst.fr.eval x)) q1 q2
 obtain ⟨g1,g2,g3,g4⟩:=hst'.st.upd (i:=0) (k':=.obj ok') rfl h3 h5 h6
 obtain ⟨f',hs',h8⟩:=ac7 h7 hsp
 have hst2:=(hst'.mv g2 g1).put (h2 w' _) o.dst
 rcases h1 with h1|⟨h1,rfl,rfl⟩
 ·rw [h1]
  exact ⟨d,_,be3 hb g2,hst2,hk _ _ _ h8 hs'⟩
 ·rw [h1]
  exact ⟨_,be3 hb g2,hst2,hk _ _ _ h8 hs'⟩
theorem OtE.mapUpdate {o:Oper} {m key x:Operand} {xv:Value} {K:Frm→aa1→Prop} (ho:o.op = .mapUpdate t m key x) (hm:evF f m = .v (.map (some b))) (hd:KeyD (evF f key) kv) (hx:evF f x = .v xv) (hb:σ.Perm ((b,Blk.obj (MapO P k F)) :: τ))
  (KK:Keyed P k) (ht:P.underlying t=some (.map k e)) (hkey:keyOf P k kv=some kl) (kk:W (putK N o.dst (.v undef) f (fun f'=>K f' ((b,.obj (MapO P k (updF F kv xv))) :: τ)))):OtE P r n df L N o f σ K:=by
 refine OtE.obj (by rw [ho];rfl) hb fun w fr X ob hη hob hok=>?_
 obtain ⟨es,c,nn,rfl,q3⟩:=hok
 obtain ⟨w',h1,⟨es',c',h2,h3⟩,h4⟩:=MapIs.update (v:=xv) (n:=nn) ⟨es,c,hob,q3⟩ KK ht hkey
 refine ⟨.v undef,undef,MapO P k (updF F kv xv),w',_,.inr ⟨?_,rfl,rfl⟩,fun _ _=>.v _,h4,h2,⟨es',c',_,rfl,h3⟩,kk.h⟩
 have p1:=(hη m).val hm
 have p2:=hd _ _ _ (hη key)
 have p3:=(hη x).val hx
 simp only [execOp,ho,p1,p2,p3]
 show (do let _ ← Instr.mapUpdate t (.map (some b)) kv xv;pure Next.skip).run P w=_
 simp only [Sem.run_bind,h1,Result.andThen,Sem.run_pure]
theorem OtE.mapEntry {o:Oper} {m key:Operand} {K:Frm→aa1→Prop} {ok:Obj→Prop} (ho:o.op = .mapEntry t m key) (hm:evF f m = .v (.map (some b))) (hd:KeyD (evF f key) kv) (hb:σ.Perm ((b,Blk.obj ok) :: τ)) (hok:∀ o,ok o→MapO P k F o)
  (KK:Keyed P k) (ht:P.underlying t=some (.map k e)) (hz:∀ w,(zeroValue e).run P w = .ok z w) (hkey:keyOf P k kv=some kl) (kk:∀ st,W (putK N o.dst (.tup [.v ((F kv).getD z),.v st]) f (fun f'=>K f' ((b,.obj (MapS P k (updF F kv ((F kv).getD z)) kv st)) :: τ)))):OtE P r n df L N o f σ K:=by
 refine OtE.obj (by rw [ho];rfl) hb fun w fr X ob hη hob hok'=>?_
 obtain ⟨es,c,nn,rfl,E⟩:=hok _ hok'
 have p1:=(hη m).val hm
 have p2:=hd _ _ _ (hη key)
 have tup:∀ (x y:Value) w O,Rd w O (.tup [.v x,.v y]) (.tuple #[x,y]):=fun x y w O=>by
  have h5:=RdL.cons (w:=w) (O:=O) (Rd.v x) (RdL.cons (Rd.v y) RdL.nil)
  exact Rd.tup [.v x,.v y] _ h5.len h5.at_
 rcases E.look KK hkey w with ⟨h1,h0,h2⟩|⟨j,e0,h1,h2,h3,h0⟩
 ·refine ⟨.tup [.v z,.v (goInt c)],.tuple #[z,goInt c],MapS P k (updF F kv z) kv (goInt c),setBlock w b (.map (es.push ⟨kv,z,c⟩) (c+1)),_,.inl ?_,fun w O=>tup _ _ w O,Keep.setBlock hob,heap_setBlock_same hob _,⟨_,_,nn+1,rfl,E.push hkey h2,⟨kv,z,c⟩,by simp,rfl,rfl⟩,?_⟩
  ·simp only [execOp,ho,p1,p2]
   show (do let v ← Instr.mapEntry t (.map (some b)) kv;pure (Next.value v)).run P w=_
   simp [Instr.mapEntry,run_underlying ht,MapKept.run_getObj_map hob,KK.check w false hkey,h1,hz,MapKept.run_setObj_map _ hob,Result.andThen,setBlock]
  ·have:=(kk (goInt c)).h
   rw [h0] at this
   exact this
 ·have hj:es[j]?=some e0:=by simpa using h2
  have E':=E.modify (v:=e0.val) hkey h2 h3 (fun e=>{ e with key:=kv }) (fun _=>rfl) rfl rfl
  refine ⟨.tup [.v e0.val,.v (goInt e0.born)],.tuple #[e0.val,goInt e0.born],MapS P k (updF F kv e0.val) kv (goInt e0.born),setBlock w b (.map (es.modify j fun e=>{ e with key:=kv }) c),_,.inl ?_,fun w O=>tup _ _ w O,Keep.setBlock hob,heap_setBlock_same hob _,⟨_,_,nn,rfl,E',{ e0 with key:=kv },?_,rfl,rfl⟩,?_⟩
  ·simp only [execOp,ho,p1,p2]
   show (do let v ← Instr.mapEntry t (.map (some b)) kv;pure (Next.value v)).run P w=_
   simp [Instr.mapEntry,run_underlying ht,MapKept.run_getObj_map hob,KK.check w false hkey,h1,hj,h3,KK.stays w hkey,MapKept.run_setObj_map _ hob,Result.andThen,setBlock]
  ·rw [Array.toList_modify,modify_eq_set _ _ _ _ h2]
   exact List.mem_set (List.getElem?_eq_some_iff.1 h2).1 _
  ·have:=(kk (goInt e0.born)).h
   rw [h0] at this
   exact this
theorem bJ5 {es:Array MapEntry} {c nn:Nat} (E:Ents P k es c nn F) {e0:MapEntry} {j:Nat} (h:es.toList[j]?=some e0):es.findIdx? (fun e=>((e.born:Nat):Int) == ((e0.born:Nat):Int))=some j:=by
 rw [WideElems.findIdx_arr]
 exact WideElems.findIdx_born ((stamped_iff es c).1 E.stamped).2.1 h
theorem OtE.entryStore {o:Oper} {m st x:Operand} {xv sv:Value} {K:Frm→aa1→Prop} (ho:o.op = .entryStore t m st x) (hm:evF f m = .v (.map (some b))) (hs:evF f st = .v sv) (hx:evF f x = .v xv) (hb:σ.Perm ((b,Blk.obj (MapS P k F kv sv)) :: τ))
  (hkey:keyOf P k kv=some kl) (kk:W (putK N o.dst (.v undef) f (fun f'=>K f' ((b,.obj (MapO P k (updF F kv xv))) :: τ)))):OtE P r n df L N o f σ K:=by
 refine OtE.obj (by rw [ho];rfl) hb fun w fr X ob hη hob hok=>?_
 obtain ⟨es,c,nn,rfl,E,e0,he0,h3,rfl⟩:=hok
 obtain ⟨j,h2⟩:=List.getElem?_of_mem he0
 have E':=E.modify (v:=xv) hkey h2 h3 (fun e=>{ e with val:=xv }) (fun _=>rfl) h3 rfl
 refine ⟨.v undef,undef,MapO P k (updF F kv xv),setBlock w b (.map (es.modify j fun e=>{ e with val:=xv }) c),_,.inr ⟨?_,rfl,rfl⟩,fun _ _=>.v _,Keep.setBlock hob,heap_setBlock_same hob _,⟨_,_,nn,rfl,E'⟩,kk.h⟩
 have p1:=(hη m).val hm
 have p2:=(hη st).val hs
 have p3:=(hη x).val hx
 simp only [execOp,ho,p1,p2,p3]
 show (do let _ ← Instr.entryStore t (.map (some b)) (goInt e0.born) xv;pure Next.skip).run P w=_
 simp [Instr.entryStore,MapKept.run_getObj_map hob,asInt,asIntOf,goInt,bJ5 E h2,MapKept.run_setObj_map _ hob,Result.andThen,setBlock]
end
end
section
open Go Go.RowKit Go.Shelf
section
variable {P:Program} {r:Option Nat} {n:Nat} {df:Nat} {N:Nat} {σ:aa1} {f:Frm} {L:List Oper} {T:TypeId→Option TI} {Q:Fst}
theorem aN3 {ρ:Operand→D} {k t e:TypeId} {F:Value→Option Value} {b:Nat} {kv z u:Value} {kl:Lit} {o:Oper} {m key:Operand} {ok:Obj→Prop} (ho:o.op = .lookup t m key false) (hm:ρ m = .v (.map (some b))) (hd:KeyD (ρ key) kv) (hb:(b,Blk.obj ok)∈σ) (hok:∀ o,ok o→MapO P k F o)
  (K:Maps.Keyed P k) (ht:P.underlying t=some (.map k e)) (hz:∀ w,(zeroValue e).run P w = .ok z w) (hkey:keyOf P k kv=some kl) (hv:(F kv).getD z=u):Yd P o ρ σ (.v u):=by
 subst hv;exact bp5 ho hm hd hb hok K ht hz hkey
def loE (hs:List Nat) (i:Nat):Bool:=!hs.any (Nat.beq i)
theorem ao4 {ops:Array Oper} {E:Nat→Bool} {L L':List D→aa1→Prop} (h:∀ a σ,L a σ→L' a σ):∀ {t:Ord} {a:List D} {σ:aa1},gOrd P r n df ops E L t a σ→gOrd P r n df ops E L' t a σ
 | .done,_,_,hh=>h _ _ hh
 | .one _ _,_,_,hh=>ac4 (fun _ _=>ao4 h) hh
 | .two _ _ _ _,_,_,hh=>⟨ac4 (fun _ _=>ao4 h) hh.1,ac4 (fun _ _=>ao4 h) hh.2⟩
 | .three _ _ _ _ _ _,_,_,hh=>⟨ac4 (fun _ _=>ao4 h) hh.1,ac4 (fun _ _=>ao4 h) hh.2.1,ac4 (fun _ _=>ao4 h) hh.2.2⟩
theorem aB5 (hm:P.follows .mixedOrders=true) (hT:∀ t i,T t=some i→tiOf P t=some i) {id:Nat} {O:Array Oper} (hO:O=L.toArray) (hs:List Nat) (fu:Nat) (t:Ord) {γ:Type} (ps:γ→Frm) (S:γ→aa1) (I:γ→Prop)
  (hB:(Nat.beq (hs.length+fu) L.length && bn6 .any L.toArray (loE hs) fu t hs (Array.replicate L.length false) && av4 (loE hs) t)=true)
  (h:W (exHs P T N L (loE hs) σ hs (fun f1=>aU4 P T r n df N L (fun f' σ'=>∃ g,chkF f' (aq3 (.region id O true) f (ps g))∧S g=σ'∧I g) t f1 σ) f))
  (kk:∀ g,I g→W (aC1 (aq3 (.region id O true) f (ps g)) fun F=>Q .normal F (S g))):Lp P r n df N (.region id O true) Q f σ:=by
 subst hO
 simp only [Bool.and_eq_true] at hB
 refine ⟨fun a hs'=>?_⟩
 refine ap6 (aF8 (Q:=fun e a' σ'=>e = .normal∧∃ f',Sp N a' f'∧∃ g,chkF f' (aq3 (.region id L.toArray true) f (ps g))∧S g=σ'∧I g) (loE hs) hs fu t hm (Nat.eq_of_beq_eq_true hB.1.1) hB.1.2 (aw9 (fun a' σ' h'=>?_) (az4 hT h.h hs'))) ?_
 ·obtain ⟨rfl,f',h1,h2⟩:=h'
  have:=as1 hT hB.2 h2 h1
  exact ao4 (fun a σ h=>⟨rfl,h⟩) this
 ·rintro e a' σ' ⟨rfl,f',h1,g,h2,rfl,h3⟩
  exact ⟨_,h1.sub h2,ao5 (kk g h3).h⟩
end
end
section
open Go Go.RowKit Go.Shelf
section
variable {P:Program} {r:Option Nat} {n:Nat} {df:Nat} {N:Nat} {σ:aa1} {f:Frm} {L:List Oper} {T:TypeId→Option TI} {Q:Fst}
theorem bU6 (hm:P.follows .mixedOrders=true) (hT:∀ t i,T t=some i→tiOf P t=some i) {c:Code} (h:W (am1 P T r n df N c Q f σ)):Lp P r n df N c Q f σ:=⟨fun a hs=>am0 hm hT h.h hs⟩
theorem bw0 {c:Code} {τ:aa1} (hp:σ.Perm τ) (k:Lp P r n df N c Q f τ):Lp P r n df N c Q f σ:=⟨fun a hs=>aH8 (fun w X fr h=>h.perm hp) (fun x hx=>ag6 hp x hx) (k.run a hs)⟩
theorem aB6 {c:Code} {τ:aa1} {i:Nat} {d d':D} (hl:am5 f i=some d) (hd:d ≠ .any) (h:Vs σ d τ d') (k:Lp P r n df N c Q ((i,d') :: f) τ):Lp P r n df N c Q f σ:=by
 refine ⟨fun a hs=>?_⟩
 have hai:a[i]?=some d:=by
  rcases hs.at_ i d hl with h1|h1
  ·exact absurd h1 hd
  ·exact h1
 have hil:=(List.getElem?_eq_some_iff.1 hai).1
 refine aH8 (b:=a.set i d') (τ:=τ) (fun w X fr hst=>?_) h.sub (k.run (a.set i d') ⟨by rw [List.length_set];exact hs.len,fun j e hj=>?_⟩)
 ·obtain ⟨u,hu,hr⟩:=hst.fr.at_ i d hai
  obtain ⟨g1,g2⟩:=h.run w X u hst.st hr
  refine ⟨⟨by rw [List.length_set];exact hst.fr.size,fun j e hj=>?_⟩,g1,hst.df.keep (Nat.le_refl _) (fun x _ hn ho=>hn (ho.imp id (h.sub x))) (fun _ _ _=>rfl)⟩
  by_cases e1:i=j
  ·subst e1
   rw [List.getElem?_set_self hil] at hj
   cases hj
   exact ⟨u,hu,g2⟩
  ·rw [List.getElem?_set_ne e1] at hj
   obtain ⟨v,k1,k2⟩:=hst.fr.at_ j e hj
   exact ⟨v,k1,ak9 k2 h.sub⟩
 ·simp only [am5] at hj
  cases he:Nat.beq i j with
  | true=>
   rw [he] at hj
   have:=Nat.eq_of_beq_eq_true he
   subst this
   simp only [cond_true,Option.some.injEq] at hj
   subst hj
   exact .inr (List.getElem?_set_self hil)
  | false=>
   rw [he] at hj
   have hne:i≠j:=fun e=>by subst e;simp at he
   rcases hs.at_ j e hj with h1|h1
   ·exact .inl h1
   ·exact .inr (by rw [List.getElem?_set_ne hne];exact h1)
theorem OtE.box {o:Oper} {t:TypeId} {x:Operand} {cs:List D} {K:Frm→aa1→Prop} (ho:o.op = .box t x) (hx:evF f x = .agg cs) (kk:∀ b,W (putK N o.dst (.v (.pointer (some ⟨b,0,none⟩))) f (fun f'=>K f' ((b,.cells t cs) :: σ)))):OtE P r n df L N o f σ K:=by
 refine ⟨fun rest Q a hsp hw hk=>?_⟩
 refine ad7 hw (by rw [ho];rfl) fun w X fr hst=>?_
 have h1:=hsp.le x _ _ _ (hst.fr.eval x)
 rw [hx] at h1
 obtain ⟨vs,hv,hvs⟩:=h1.agg_inv
 have e0:(execOp fr.eval o).run P w = .ok (.value (.pointer (some ⟨w.heap.size,0,none⟩))) (w.alloc (.cells vs.toArray t)):=by
  simp only [execOp,ho,hv]
  rfl
 rw [e0]
 obtain ⟨g1,g2,g3⟩:=hst.st.new (.cells vs.toArray t) (.cells t cs) ⟨vs,rfl,hvs⟩
 obtain ⟨f',hs',h4⟩:=ac7 (kk w.heap.size).h hsp
 exact ⟨_,_,g2,(hst.mv g2 g1).put (.v _) o.dst,hk _ _ _ h4 hs'⟩
/-! ### What lies in a new slice is written no more -/
def Vd (σ τ:aa1) (d d':D):Prop:=∀ (w:World) (X:Nat→Prop) (u:Value),StOK w X σ→Rd w (Own σ X) d u→Rd w (Own τ X) d' u
theorem Vd.same {σ τ:aa1} (hs:∀ b,b∈ab4 τ→b∈ab4 σ) (d:D):Vd σ τ d d:=fun _ _ _ _ h=>ak9 h hs
theorem Vd.vs {σ τ:aa1} {d d':D} (h:Vs σ d τ d'):Vd σ τ d d':=fun w X u hs hr=>(h.run w X u hs hr).2
inductive Vd2 (σ τ:aa1):List D→List D→Prop
 | nil:Vd2 σ τ [] []
 | cons {d d':D} {l l':List D} (h:Vd σ τ d d') (k:Vd2 σ τ l l'):Vd2 σ τ (d :: l) (d' :: l')
inductive Vd3 (σ τ:aa1):List (List D)→List (List D)→Prop
 | nil:Vd3 σ τ [] []
 | cons {d d':List D} {l l':List (List D)} (h:Vd2 σ τ d d') (k:Vd3 σ τ l l'):Vd3 σ τ (d :: l) (d' :: l')
theorem Vd2.len {σ τ:aa1} {l l':List D} (h:Vd2 σ τ l l'):l'.length=l.length:=by induction h with|nil=>rfl|cons _ _ ih=>simp [ih]
theorem Vd3.len {σ τ:aa1} {l l':List (List D)} (h:Vd3 σ τ l l'):l'.length=l.length:=by induction h with|nil=>rfl|cons _ _ ih=>simp [ih]
theorem Vd2.same {σ τ:aa1} (hs:∀ b,b∈ab4 τ→b∈ab4 σ):∀ l:List D,Vd2 σ τ l l
 | []=>.nil
 | d :: l=>.cons (Vd.same hs d) (Vd2.same hs l)
theorem Vd3.same {σ τ:aa1} (hs:∀ b,b∈ab4 τ→b∈ab4 σ):∀ l:List (List D),Vd3 σ τ l l
 | []=>.nil
 | d :: l=>.cons (Vd2.same hs d) (Vd3.same hs l)
theorem Vd2.at_ {σ τ:aa1} {l l':List D} (h:Vd2 σ τ l l'):∀ {j:Nat} {d':D},l'[j]?=some d'→∃ d,l[j]?=some d∧Vd σ τ d d':=by
 induction h with
 | nil=>intro j d' h;simp at h
 | cons h k ih=>
  intro j d' hj
  cases j with
  | zero=>simp at hj;subst hj;exact ⟨_,rfl,h⟩
  | succ j=>simp at hj;obtain ⟨d,h1,h2⟩:=ih hj;exact ⟨d,by simpa using h1,h2⟩
theorem Vd3.at_ {σ τ:aa1} {l l':List (List D)} (h:Vd3 σ τ l l'):∀ {j:Nat} {d':List D},l'[j]?=some d'→∃ d,l[j]?=some d∧Vd2 σ τ d d':=by
 induction h with
 | nil=>intro j d' h;simp at h
 | cons h k ih=>
  intro j d' hj
  cases j with
  | zero=>simp at hj;subst hj;exact ⟨_,rfl,h⟩
  | succ j=>simp at hj;obtain ⟨d,h1,h2⟩:=ih hj;exact ⟨d,by simpa using h1,h2⟩
theorem Vd.sl {σ τ:aa1} (hs:∀ b,b∈ab4 τ→b∈ab4 σ) {k:Nat} {xs xs':List (List D)} (h:Vd3 σ τ xs xs'):Vd σ τ (.sl k xs) (.sl k xs'):=by
 intro w X u hst hr
 obtain ⟨a,cap,f,e1,hcap,hk,hc,hrr⟩:=hr.sl_inv
 rw [e1,← h.len]
 refine .sl k _ a cap f (by rw [h.len];exact hcap) (fun y hy=>?_) (fun i y hy=>?_) (fun i y hy j d hd=>?_)
 ·obtain ⟨i,hi⟩:=List.getElem?_of_mem hy
  obtain ⟨z,h1,h2⟩:=h.at_ hi
  rw [h2.len];exact hk z (List.mem_of_getElem? h1)
 ·obtain ⟨z,h1,h2⟩:=h.at_ hy
  obtain ⟨b,off,q1,q2,q3,q4⟩:=hc i z h1
  exact ⟨b,off,q1,fun ho=>q2 (ho.imp id (hs b)),q3,q4⟩
 ·obtain ⟨z,h1,h2⟩:=h.at_ hy
  obtain ⟨d0,h3,h4⟩:=h2.at_ hd
  exact h4 w X _ hst (hrr i z h1 j d0 h3)
theorem Vd.agg {σ τ:aa1} {l l':List D} (h:Vd2 σ τ l l'):Vd σ τ (.agg l) (.agg l'):=by
 intro w X u hst hr
 obtain ⟨vs,rfl,hv⟩:=hr.agg_inv
 refine .agg _ _ (by rw [h.len];exact hv.len) (fun j d u hd hu=>?_)
 obtain ⟨d0,h1,h2⟩:=h.at_ hd
 exact h2 w X u hst (hv.at_ j d0 u h1 hu)
theorem Vd.tup {σ τ:aa1} {l l':List D} (h:Vd2 σ τ l l'):Vd σ τ (.tup l) (.tup l'):=by
 intro w X u hst hr
 obtain ⟨vs,rfl,hv⟩:=hr.tup_inv
 refine .tup _ _ (by rw [h.len];exact hv.len) (fun j d u hd hu=>?_)
 obtain ⟨d0,h1,h2⟩:=h.at_ hd
 exact h2 w X u hst (hv.at_ j d0 u h1 hu)
theorem Vs.vd {σ τ:aa1} {d d':D} (hp:∃ ρ,σ.Perm (ρ ++ τ)) (h:Vd σ τ d d'):Vs σ d τ d':=by
 obtain ⟨ρ,hp⟩:=hp
 exact ⟨fun w X u hs hr=>⟨(hs.perm hp).sub (List.sublist_append_right _ _),h w X u hs hr⟩,fun b hb=>ag6 hp b (by rw [aa4];exact List.mem_append_right _ hb)⟩
end
end
section
open Go
def I64n (n:Int):Prop:=-9223372036854775808≤n∧n≤9223372036854775807
def posN (a:Int):Int:=if a<0 then -(a+1) else a
def arE (a n:Int):Int:=if n<1 then 0 else (posN a).tmod n
def atE (xs:List Int) (i n:Int):Int:=if i<0∨xs.length≤i then 0 else arE (xs.getD i.toNat 0) n
theorem aC6 (a n:Int):0≤arE a n∧(1≤n→arE a n<n)∧(n<1→arE a n=0):=by
 unfold arE
 have hp:0≤posN a:=by unfold posN;split <;> omega
 split
 ·exact ⟨by omega,fun h=>by omega,fun _=>rfl⟩
 ·refine ⟨Int.tmod_nonneg _ hp,fun h=>Int.tmod_lt_of_pos _ (by omega),fun h=>by omega⟩
theorem ae2 (xs:List Int) (i n:Int):0≤atE xs i n∧(1≤n→atE xs i n<n):=by
 unfold atE
 split
 ·exact ⟨by omega,fun h=>by omega⟩
 ·have:=aC6 (xs.getD i.toNat 0) n
  exact ⟨this.1,this.2.1⟩
theorem aj0 (a n:Int) (ha:I64n a):APure Tryz.prog 17 [iD a,iD n] (iD (arE a n)):=by
 obtain ⟨h1,h2⟩:=ha
 refine eP7 Tryz.func17 Tryz.ntmps17 fun BB=>?_
 repeat' first|refine sk2 ?_|(intro b;conv=>whnf)|(with_reducible refine Br.d (fun hc=>?_) (fun hc=>?_))|(with_reducible refine Br.b (fun hc=>?_) (fun hc=>?_))
 all_goals
  refine Rt.pure (congrArg iD ?_)
  unfold arE posN
  simp [*]
def I64s (xs:List Int):Prop:=(∀ x∈xs,I64n x)∧xs.length≤140737488355328
theorem sk4 {A B:Prop} (k:B) (h:Hd7 B→A:=by intro hk7q;(first|refine sb0 ?_|refine sb1 ?_|((with_reducible refine' Cp.by ?hc ?_);(case hc=>exact HA))|((with_reducible refine' CE.pure ?hc ?_);(case hc=>exact HA)));exact hk7q.run):A:=h ⟨k⟩
theorem bN0 (xs:List Int) (hx:I64s xs) (i n:Int):APure Tryz.prog 35 [slI xs,iD i,iD n] (iD (atE xs i n)):=by
 have hxl:=hx.2
 by_cases h0:i<0
 ·have HA:=True.intro
  refine eP7 Tryz.func35 Tryz.ntmps35 fun BB=>?_
  repeat' first|refine sk4 ?_|(intro b;conv=>whnf)
  refine Rt.pure (congrArg iD ?_)
  unfold atE;rw [if_pos (.inl h0)]
 ·by_cases h1:i.toNat<xs.length
  ·obtain ⟨a,ha⟩:∃ a,xs[i.toNat]?=some a:=⟨_,List.getElem?_eq_getElem h1⟩
   have HA:=aj0 a n (hx.1 a (List.mem_of_getElem? ha))
   refine eP7 Tryz.func35 Tryz.ntmps35 fun BB=>?_
   repeat' first|refine sk4 ?_|(intro b;conv=>whnf)
   refine Rt.pure (congrArg iD ?_)
   unfold atE;rw [if_neg (by omega)]
   simp [List.getD_eq_getElem?_getD,ha]
  ·have HA:=True.intro
   refine eP7 Tryz.func35 Tryz.ntmps35 fun BB=>?_
   repeat' first|refine sk4 ?_|(intro b;conv=>whnf)
   refine Rt.pure (congrArg iD ?_)
   unfold atE;rw [if_pos (by omega)]
abbrev mkB (b:Nat) (xs:List Int) (pos:Int):Nat × Blk:=(b,.cells 81 [slI xs,iD pos])
abbrev ptr (b:Nat):D:=.v (.pointer (some ⟨b,0,none⟩))
theorem ACall.imp {P:Program} {f:FuncId} {args:List D} {σ:aa1} {R R':D→aa1→Prop} (h:ACall P f args σ R) (k:∀ d s,R d s→R' d s):ACall P f args σ R':=
 ⟨h.ent,fun w X vs hv hs=>(h.run w X vs hv hs).mono fun e w' ⟨u,d,s,g1,g2,g3⟩=>⟨u,d,s,g1,k d s g2,g3⟩⟩
theorem aa6 (xs:List Int) (hx:I64s xs) (bm:Nat) (pos n:Int) (hp:0≤pos∧pos≤1000000000):ACall Tryz.prog 32 [ptr bm,iD n] [mkB bm xs pos] (fun d σ=>d=iD (atE xs pos n)∧σ=[mkB bm xs (pos+1)]):=by
 have HA:=bN0 xs hx (pos+1 - 1) n
 refine eC7 Tryz.func32 Tryz.ntmps32 fun BB=>?_
 repeat' first|refine sk4 ?_|(intro b;conv=>whnf)
 refine Rt.same ⟨?_,rfl⟩
 rw [show pos+1 - 1=pos by omega]
theorem al5 (xs:List Int) (hx:I64s xs) (bm:Nat) (pos n:Int) (hp:0≤pos∧pos≤1000000000):ACall Tryz.prog 32 [ptr bm,iD n] [mkB bm xs pos] (fun d σ=>∃ r,d=iD r∧(0≤r∧(1≤n→r<n))∧σ=[mkB bm xs (pos+1)]):=
 (aa6 xs hx bm pos n hp).imp fun d s ⟨h1,h2⟩=>⟨_,h1,ae2 xs pos n,h2⟩
end
section
open Go
def slN (l:List Int):List (List D):=l.map fun n=>[iD n]
theorem aE8 {x:Sch} {i:Int} {f:Fld} (h:f.kind≠6∨ab6 x f.of≤i):aA2 x i f=true:=by
 simp only [aA2];rcases h with h|h <;> simp [h]
theorem aE9 {x:Sch} {i:Int} {f:Fld} (h:f.kind=6) (h':i<ab6 x f.of):aA2 x i f=false:=by
 simp only [aA2,h];simp;omega
theorem aJ1 (x:Sch) (i:Int) (f:Fld) (o:Nat) (ko:Knd) (ho:ab6 x f.of=o) (hko:x.kinds[o]?=some ko):aG6 x i f=ai1 x o i f ko.fields ko.fields.length:=by
 rw [← ho];exact bd2 x i f ko (by rw [ho];simp [af3,hko])
theorem bh3 (σ:aa1) (k:Nat):Vs σ (.v (.slice none 0 0)) σ (.sl k []):=Vs.le (ae1 k)
theorem sk5 {A B:Prop} (k:B) (h:Hd7 B→A:=by intro hk7q;(first|refine sb0 ?_|refine sb1 ?_|((with_reducible refine' Cp.by ?hc ?_);(case hc=>first|exact aR6 _ _ _|exact aj9 _ _ (by assumption)|exact ah5 _ _ (by assumption)|exact aJ5 _ _ _ (by assumption) (by assumption)))|((with_reducible refine' CE.pure ?hc ?_);(case hc=>first|exact aR6 _ _ _|exact aj9 _ _ (by assumption)|exact ah5 _ _ (by assumption)|exact aJ5 _ _ _ (by assumption) (by assumption))));exact hk7q.run):A:=h ⟨k⟩
theorem bj7 (x:Sch) (i j:Int) (f:Fld) (hl:x.kinds.length≤1000000) (hf:∀ k∈x.kinds,k.fields.length≤1000000) (hfa:fieldAt x i j=some f):APure Tryz.prog 178 [schD x,iD i,iD j] (.tup [iD (as5 x i f).1,slI (as5 x i f).2]):=by
 refine eP7 Tryz.func178 Tryz.ntmps178 fun BB=>?_
 obtain ⟨h0,h1,k,hk,hkf⟩:=ah3 hfa
 have hkl:=aK8 x f.of
 have hno:f.kind≠6∨ab6 x f.of≤i→as5 x i f=(-1,[]):=fun h=>by unfold as5;rw [aE8 h];rfl
 repeat' first|refine sk5 ?_|(intro b;conv=>whnf)|refine IxM.mk fun y hy=>?_|(with_reducible refine Br.d (fun hc=>?_) (fun hc=>?_))|(with_reducible refine Br.b (fun hc=>?_) (fun hc=>?_))
 ·rw [hno (by omega)]
  exact Rt.vs (Vs.tup (VsL.cons (Vs.refl _ _) (VsL.cons (bh3 _ _) (VsL.nil _))))
 ·obtain ⟨ko,rfl⟩:∃ ko,ko=y:=⟨_,rfl⟩
  have hko:=hy
  clear hy
  have h6:f.kind=6:=by omega
  have hno':=aE9 (x:=x) (i:=i) h6 (by omega)
  obtain ⟨o,ho⟩:=Int.eq_ofNat_of_zero_le (show 0≤ab6 x f.of by omega)
  rw [ho] at hko
  have hko:x.kinds[o]?=some ko:=hko
  have hS:as5 x i f=((o:Int),ai1 x o i f ko.fields ko.fields.length):=by
   unfold as5;rw [hno',aJ1 x i f o ko ho hko,ho];rfl
  have hfk:=hf ko (List.mem_of_getElem? hko)
  rw [ho]
  refine ad5 mixed aa0 (γ:=Nat × Value × aa1) (fun g=>[(10,.v g.2.1),(12,iD g.1)]) (fun g=>(b,.cells 97 (fldC f)) :: g.2.2) (fun g=>g.1≤ko.fields.length∧RowIs 3 1 (slN (ai1 x o i f ko.fields g.1)) g.2.1 g.2.2) (fun g=>ko.fields.length - g.1) (0,.slice none 0 0,[]) rfl rfl ⟨Nat.zero_le _,RowIs.nil _ _⟩ ?_
  rintro ⟨q,v,s⟩ ⟨hq,hrow⟩
  simp only at hq hrow ⊢
  repeat' first|refine sk5 ?_|(intro b;conv=>whnf)|refine IxM.mk fun y hy=>?_|(with_reducible refine Br.d (fun hc=>?_) (fun hc=>?_))|(with_reducible refine Br.b (fun hc=>?_) (fun hc=>?_))
  ·have hsh:aq2 x o i f y q=true:=by simp [aq2,seq, *]
   have Hs:=ap4 x o i f ko.fields q y hy
   rw [hsh,if_pos rfl] at Hs
   have hlen:=aE7 x o i f ko.fields (q+1)
   refine Ap.go rfl rfl rfl rfl hrow (bd9 _ _) rfl (zs:=slN (ai1 x o i f ko.fields (q+1))) (by rw [Hs];simp only [slN,List.map_append];rfl) (by simp [slN];omega) (by simp [slN];omega) (fun s'=>_ :: s') (aO2 _) (fun a c s' hr=>?_)
   repeat' first|refine sk5 ?_|(intro b;conv=>whnf)|refine IxM.mk fun y hy=>?_
   exact ⟨(q+1,_,s'),rfl,rfl,⟨by simp only;omega,hr⟩,by simp only;omega⟩
  iterate 3
   have hsh:aq2 x o i f y q=false:=by simp [aq2,seq, *]
   have Hs:=ap4 x o i f ko.fields q y hy
   rw [hsh,if_neg (by simp),List.append_nil] at Hs
   exact ⟨(q+1,v,s),rfl,rfl,⟨by simp only;omega,by simp only;rw [Hs];exact hrow⟩,by simp only;omega⟩
  ·obtain rfl:q=ko.fields.length:=by omega
   rw [hS]
   exact Rt.vs (Vs.tup (VsL.cons (Vs.refl _ _) (VsL.cons (Vs.row hrow (bd9 _ _)) (VsL.nil _))))
 ·rw [hno (by omega)]
  exact Rt.vs (Vs.tup (VsL.cons (Vs.refl _ _) (VsL.cons (bh3 _ _) (VsL.nil _))))
def cf0 (o:Int):List Int→Int × Int
 | [n]=>(o,n)
 | _=>(-1,-1)
def aD3 (x:Sch) (i j:Int):Int × Int:=match fieldAt x i j with
 | none=>(-1,-1)
 | some f=>cf0 (as5 x i f).1 (as5 x i f).2
end
section
open Go Go.Maps Go.MapKept
abbrev RI:ORep (List Int):=fun l v s=>RowIs 3 1 (l.map fun n=>[iD n]) v s
abbrev RW1:ORep (List (List Int)):=RowsOf 22 RI
abbrev RW:ORep Wd:=RowsOf 62 RW1
theorem co7:Frz RI slI:=by3 _ _ _
theorem cj4:Frz RW1 slW1:=aU0 co7
theorem az1:Frz RW slW:=aU0 cj4
theorem cn6 (l:List Int):((l.map fun b=>[iD b]).all fun y=>y.all oneD)=true:=by rw [List.all_eq_true];intro y hy;obtain ⟨b,_,rfl⟩:=List.mem_map.1 hy;rfl
structure Snd (x:Sch):Prop where
 no:aA9 x=[]
 vld:Vld x
 up:∀ r∈ab8 x,0≤r.up∧r.up<r.kind∧r.kind<x.kinds.length
theorem bh6 (x:Sch) (k i:Int) (h:0≤upIx x k i):upIx x k i<k:=by
 unfold upIx at h ⊢
 have key:∀ f,0≤au3 x k f→au3 x k f<k:=fun f h=>by
  unfold au3 at h ⊢
  split
  ·assumption
  ·rename_i hn;rw [if_neg hn] at h;omega
 split
 ·rename_i e;rw [e] at h;simp at h
 ·rename_i f e
  rw [e] at h
  simp only at h
  split
  ·rename_i h1
   rw [if_pos h1] at h
   cases hu:bc6 x k i f with
   | none=>rw [hu] at h;simp [aB0] at h
   | some g=>rw [hu] at h;exact key g h
  ·rename_i h1
   rw [if_neg h1] at h
   split
   ·rename_i h2;rw [if_pos h2] at h;exact key f h
   ·rename_i h2;rw [if_neg h2] at h;omega
theorem bT7 {k f r e:Int} (h:one k f r e=[]):e=0:=by
 unfold one at h;split at h
 ·assumption
 ·cases h
theorem bh5 {α:Type} {q:Nat} {g:Nat→List α} (h:upTo q g=[]) (i:Nat) (hi:i<q):g i=[]:=by
 unfold upTo at h
 rw [List.flatMap_eq_nil_iff] at h
 exact h i (List.mem_range.2 hi)
theorem bt2 {x:Sch} (h:aA9 x=[]) {k:Nat} {kd:Knd} {i:Nat} {f:Fld} (hk:x.kinds[k]?=some kd) (hf:kd.fields[i]?=some f):¬ ac2 kd f.name<i∧af1 x k i f=0:=by
 unfold aA9 at h
 split at h
 ·simp only [List.append_eq_nil_iff] at h
  have h1:=bh5 h.1.2 k (List.getElem?_eq_some_iff.1 hk).1
  simp only [al3,hk,List.append_eq_nil_iff] at h1
  have h2:=bh5 h1.2 i (List.getElem?_eq_some_iff.1 hf).1
  simp only [ag8,hf] at h2
  have h3:=bT7 h2
  unfold aL3 at h3
  split at h3
  ·omega
  ·exact ⟨by assumption,h3⟩
 ·cases h
theorem bt1 {x:Sch} (h:aA9 x=[]):ak7 x=0:=by
 unfold aA9 at h
 split at h
 ·assumption
 ·cases h
theorem bM4 {x:Sch} (h:aA9 x=[]):Snd x:=by
 refine ⟨h,bq8 (bt1 h),fun r hr=>?_⟩
 obtain ⟨kd,f,h1,h2,h3,h4,_⟩:=aT3 hr
 have h5:=(bt2 h h1 h2).2
 have h6:0≤upIx x r.kind r.field:=by
  unfold af1 at h5
  rw [if_neg (by omega),if_neg (by omega),if_pos h3] at h5
  split at h5
  ·cases h5
  ·omega
 rw [h4]
 exact ⟨h6,bh6 x _ _ h6,(List.getElem?_eq_some_iff.1 h1).1⟩
structure Ws (w:Wd):Prop where
 nk:w.length≤1000
 nr:∀ l∈w,l.length≤1000
 nf:∀ l∈w,∀ r∈l,r.length≤1000
theorem bi9 {x:Sch} (hV:Vld x):(ab8 x).length≤6000:=by
 have h1:=ad9 (fun k=>bj1 x k (fun k hk=>by have:=hV.nf k hk;omega)) x.kinds.length
 have:=hV.nk
 unfold ab8;omega
theorem bH4:laidOutB Tryz.prog=true:=by kernel_rfl
theorem bo6:Tryz.prog.cellsOf 3=1:=by kernel_rfl
theorem aT8 (n:Nat) {a:Int} (ha:(Lit.int .i64 a).wf=true):Tryz.prog.keyLits (n+1) 3 [.int .i64 a]=some [.int .i64 a]:=by
 simp only [Program.keyLits,Tryz.underlying3,ha]
 simp
theorem aO5:Keyed Tryz.prog 3:=int_keyed Tryz.underlying3
theorem bx7 {a:Int} (ha:(Lit.int .i64 a).wf=true):keyOf Tryz.prog 3 (.int .i64 a)=some (.int .i64 a):=keyOf_int_mk Tryz.underlying3 ha
theorem wf64 {a:Int} (h1:-9223372036854775808≤a) (h2:a≤9223372036854775807):(Lit.int .i64 a).wf=true:=by
 have e1:IntKind.i64.min = -9223372036854775808:=rfl
 have e2:IntKind.i64.max=9223372036854775807:=rfl
 simp [Lit.wf,e1,e2,h1,h2]
def part {α:Type} (x0:α) (xs:List α) (j:Nat):List α:=xs.take j ++ List.replicate (xs.length - j) x0
theorem Mk.go {T:TypeId→Option TI} {σ:aa1} {t e:TypeId} {i j:TI} {ag:Bool} {by_ m':Nat} {z:ZV} {K:D→aa1→Prop} (m:Nat) (h1:T t=some i) (h2:i.sl=some (e,ag,1,by_)) (h3:T e=some j) (h4:j.zero=[z]) (h5:j.size=1) (hm:m'=m) (hb:by_*m≤281474976710656) (hl:m≤1000000000)
  (k:∀ b,W (K (.v (.slice (some ⟨b,0,none⟩) m m)) ((b,.cells e (List.replicate m (.v (zv z)))) :: σ))):Mk T σ t (.v (.int .i64 m')) (.v (.int .i64 m')) K:=by
 subst hm
 exact ⟨e,i,j,ag,by_,m',z,h1,h2,h3,h4,h5,rfl,rfl,hb,hl,fun b=>(k b).h⟩
/-! ### Keys of three numbers -/
theorem bk3:Keyed Tryz.prog 147:=Keyed.of_law (deep_law_laid bH4 (m:=3) (by omega) (of_decide_eq_true (by kernel_rfl)) (by kernel_rfl) (by rw [Tryz.underlying147]))
theorem bG9:Tryz.prog.keyType 147=true:=by kernel_rfl
def lkV (a b c:Int):Value:=.agg #[.int .i64 a,.int .i64 b,.int .i64 c]
theorem bk4:Tryz.prog.cellsOf 147=3:=by kernel_rfl
theorem bw2 (a b c:Int):(lkV a b c).formed Tryz.prog 147=true:=by
 simp [lkV,Value.formed,Tryz.underlying147,bk4]
theorem bN4 {a b c:Int} (ha:(Lit.int .i64 a).wf=true) (hb:(Lit.int .i64 b).wf=true) (hc:(Lit.int .i64 c).wf=true):∃ l,keyOf Tryz.prog 147 (lkV a b c)=some l:=by
 unfold keyOf
 rw [Tryz.underlying147]
 simp only [bG9,bw2,Bool.and_self,if_true]
 have:∃ n,Tryz.prog.types.size=n+1:=⟨Tryz.prog.types.size - 1,by have:0<Tryz.prog.types.size:=of_decide_eq_true (by kernel_rfl);omega⟩
 obtain ⟨n,hn⟩:=this
 rw [hn]
 have:Tryz.prog.keyLits (n+1+1) 147 (lkV a b c).cells.toList=some [.int .i64 a,.int .i64 b,.int .i64 c]:=by
  unfold Program.keyLits
  simp [lkV,Value.cells,Tryz.underlying147,bk4,bo6,aT8 n ha,aT8 n hb,aT8 n hc]
 rw [this]
 exact ⟨_,rfl⟩
theorem bU7 {a b c d e f:Int} (h:lkV a b c=lkV d e f):a=d∧b=e∧c=f:=by
 simp only [lkV,Value.agg.injEq] at h
 have:=congrArg Array.toList h
 simp at this
 exact this
theorem KeyD.agg3 (x y z:Value):KeyD (.agg [.v x,.v y,.v z]) (.agg #[x,y,z]):=fun w O u h=>by
 obtain ⟨vs,rfl,h1⟩:=h.agg_inv
 have hl:=h1.len
 match vs,hl with
 | [a,b,c],_=>
  have q1:=(h1.at_ 0 _ _ rfl rfl).val rfl
  have q2:=(h1.at_ 1 _ _ rfl rfl).val rfl
  have q3:=(h1.at_ 2 _ _ rfl rfl).val rfl
  rw [q1,q2,q3]
end
end Go.Proofs.YtlcfiilejnnlnaaGreatDoor
