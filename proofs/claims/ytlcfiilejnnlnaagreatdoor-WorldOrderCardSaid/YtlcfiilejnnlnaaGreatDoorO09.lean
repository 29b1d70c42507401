/- A part of the proof: Zb Zc Ra Rb Rc Re Sx Rf Rs Rt. -/
import Derived.Test.YtlcfiilejnnlnaaGreatDoorO08
set_option maxRecDepth 100000
set_option maxHeartbeats 20000000
set_option linter.unusedVariables false
set_option linter.unusedSimpArgs false
namespace Go.Proofs.YtlcfiilejnnlnaaGreatDoor
section
open Go
section
variable {P:Program} {t:TypeId} {p q:Operand} {w:World}
theorem cy0 {n:Nat} (h0:0<n) (h:n<32):(do eqGuard .and t p q (.int .u64 ((18446744073709551616 - n:Nat):Int)) (.int .u64 31);binOp .and t (.int .u64 ((18446744073709551616 - n:Nat):Int)) (.int .u64 31)).run P w = .ok (.int .u64 ((32 - n:Nat):Int)) w:=by
 have h1:=aT9 (P:=P) (t:=t) (p:=p) (q:=q) (w:=w) .u64 .and (fun x y=>x &&& y) (.inr (.inr ⟨rfl,rfl⟩)) rfl (18446744073709551616 - n) 31 (by show _<18446744073709551616;omega) (by show 31<18446744073709551616;omega)
 have e:(18446744073709551616 - n) &&& 31=32 - n:=by
  rw [show 31=2 ^ 5 - 1 from rfl,Nat.and_two_pow_sub_one_eq_mod]
  omega
 simp only [e] at h1
 exact h1
theorem cv9 {n:Nat} (h:n≤32):(do eqGuard .sub t p q (.int .u64 32) (.int .u64 (n:Int));binOp .sub t (.int .u64 32) (.int .u64 (n:Int))).run P w = .ok (.int .u64 ((32 - n:Nat):Int)) w:=by
 show Result.ok (Value.int .u64 (IntKind.u64.wrap _)) w=_
 have e:IntKind.u64.wrap (32 - (n:Int))=((32 - n:Nat):Int):=by rw [IntKind.wrap_u64];omega
 rw [e]
end
theorem as6 (x:W32) (n:Nat) (h0:0<n) (h:n<32):APure Tryz.prog 222 [wD x,iD (-(n:Int))] (wD (rotR x n)):=by
 refine eP7 Tryz.func222 Tryz.ntmps222 fun BB=>?_
 repeat' first|refine sk2 ?_|(intro b;conv=>whnf)
 refine Ot.yd (ah9 (m:=((18446744073709551616 - n:Nat):Int)) rfl rfl Tryz.underlying3 Tryz.underlying180 (by rw [IntKind.wrap_u64];omega)) ?_
 repeat' first|refine sk2 ?_|(intro b;conv=>whnf)
 refine Ot.yd (af9 (r:=.int .u64 ((32 - n:Nat):Int)) rfl rfl rfl (fun w=>cy0 h0 h)) ?_
 repeat' first|refine sk2 ?_|(intro b;conv=>whnf)
 refine Ot.yd (af9 (r:=wV (x <<< (32 - n))) rfl rfl rfl (fun w=>ck9 x .u64 (32 - n) (by omega))) ?_
 repeat' first|refine sk2 ?_|(intro b;conv=>whnf)
 refine Ot.yd (af9 (r:=.int .u64 ((32 - (32 - n):Nat):Int)) rfl rfl rfl (fun w=>cv9 (by omega))) ?_
 repeat' first|refine sk2 ?_|(intro b;conv=>whnf)
 refine Ot.yd (af9 (r:=wV (x >>> (32 - (32 - n)))) rfl rfl rfl (fun w=>ck8 x .u64 (32 - (32 - n)) (by omega))) ?_
 repeat' first|refine sk2 ?_|(intro b;conv=>whnf)
 refine Ot.yd (af9 (r:=wV (x <<< (32 - n) ||| x >>> (32 - (32 - n)))) rfl rfl rfl (fun w=>cw0 _ _)) ?_
 repeat' first|refine sk2 ?_|(intro b;conv=>whnf)
 refine Rt.pure ?_
 rw [show 32 - (32 - n)=n by omega,BitVec.or_comm]
 rfl
theorem sk47 {A B:Prop} (k:B) (h:Hd7 B→A:=by intro hk7q;(first|refine sb0 ?_|refine sb1 ?_|((with_reducible refine' Cp.by ?hc ?_);(case hc=>first|exact as6 _ _ h0 h1|exact as6 _ _ h2 h3|exact as6 _ _ h4 h5))|((with_reducible refine' CE.pure ?hc ?_);(case hc=>first|exact as6 _ _ h0 h1|exact as6 _ _ h2 h3|exact as6 _ _ h4 h5)));exact hk7q.run):A:=h ⟨k⟩
end
section
open Go
def wc (l:List W32):List D:=l.map wD ++ List.replicate (64 - l.length) (wD 0)
theorem cv2 {P:Program} {σ:aa1} {ρ:Operand→D} {T:TypeId→Option TI} (hT:∀ t i,T t=some i→tiOf P t=some i) {o:Oper} {t:TypeId} {x ix:Operand} {b off n m q:Nat} {kk:IntKind} {j:Int} {ag:Bool} {i:TI} (ho:o.op = .indexAddr t x ix) (hx:ρ x = .v (.pointer (some ⟨b,off,none⟩))) (hi:ρ ix = .v (.int kk j)) (ht:T t=some i) (ha:i.arr=some (n,ag,1)) (hj:j=(m:Int)) (hm:m<n) (hq:off+m=q):Yd P o ρ σ (.v (.pointer (some ⟨b,q,none⟩))):=by
 subst hq
 have:=bX8 (σ:=σ) hT ho hx hi ht ha hj hm
 rwa [Nat.mul_one] at this
theorem sb48 {A B:Prop} (k:B) (h:Hd7 B→A:=by intro hk7q;(first|((with_reducible refine W.mk ?_);(conv=>whnf))|(with_reducible refine Br.tt ?_)|(with_reducible refine Br.ff ?_)|(with_reducible refine Br.n ?_)|((with_reducible refine' Br.eq ?h ?_);(case h=>(simp only [List.length_map,List.length_take,List.length_append,List.length_cons,List.length_nil,List.length_replicate,Nat.reduceAdd];exact rfl)))|((with_reducible refine Sd.go ?qs7 ?_);(case qs7=>first|trivial|(constructor <;> omega)|omega|assumption|((try simp only [List.length_map,List.length_take,List.length_append,List.length_cons,List.length_nil,List.length_replicate,Nat.reduceAdd] at *);first|(constructor <;> omega)|omega)))|((with_reducible refine Ck.go ?qs7 ?_);(case qs7=>kernel_rfl))|((with_reducible refine' Ix.mapAt ?hy ?h0 ?_);(case hy=>assumption);(case h0=>omega))|((with_reducible refine' Ix.at ?hy ?h0 ?_);(case hy=>exact rfl);(case h0=>omega))|((with_reducible refine Ix.mapM ?h0 ?_);(case h0=>first|omega|(simp only [List.length_map,List.length_take,List.length_append,List.length_cons,List.length_nil,List.length_replicate,Nat.reduceAdd] at *;omega)))|fail|fail|((with_reducible refine' Ot.yd ?hyd ?_);(case hyd=>first|(refine' aS1 aa0 rfl rfl rfl rfl rfl ?hc ?h0;(case hc=>assumption);(case h0=>omega))|(refine aS0 aa0 rfl rfl rfl rfl rfl ?_;first|omega|(simp only [List.length_map,List.length_take,List.length_append,List.length_cons,List.length_nil,List.length_replicate,Nat.reduceAdd];omega))|(refine aH4 aa0 rfl rfl rfl rfl rfl ?_;omega)|exact bj4 rfl rfl rfl Tryz.underlying4|exact bj2 rfl rfl rfl|exact bj3 rfl rfl rfl))|((with_reducible refine' Rs.tc aa0 (m:=0) ?h ?hi ?hj ?hb ?ht ?hag ?hs ?_);(case h=>exact rfl);(case hi=>exact rfl);(case hj=>exact rfl);(case hb=>exact rfl);(case ht=>exact rfl);(case hag=>exact rfl);(case hs=>exact rfl))|((with_reducible refine' Rs.ct aa0 (m:=0) ?h ?hi ?hj ?hb ?ht ?hag ?hs ?_);(case h=>exact rfl);(case hi=>exact rfl);(case hj=>exact rfl);(case hb=>exact rfl);(case ht=>exact rfl);(case hag=>exact rfl);(case hs=>exact rfl))|((with_reducible refine' Rs.c aa0 (m:=0) ?h ?hj ?hb ?ht ?hag ?hs ?_);(case h=>exact rfl);(case hj=>exact rfl);(case hb=>exact rfl);(case ht=>exact rfl);(case hag=>exact rfl);(case hs=>exact rfl))|((with_reducible refine Br.dt ?h ?_);(case h=>omega))|((with_reducible refine Br.df ?h ?_);(case h=>omega))|((with_reducible refine Br.t ?h ?_);(case h=>assumption))|((with_reducible refine Br.f ?h ?_);(case h=>assumption))|((with_reducible refine Br.t ?h ?_);(case h=>(refine decide_eq_true ?_;omega)))|((with_reducible refine Br.f ?h ?_);(case h=>(refine decide_eq_false ?_;omega))));exact hk7q.run):A:=h ⟨k⟩
theorem sk49 {A B:Prop} (k:B) (h:Hd7 B→A:=by intro hk7q;(first|refine sb48 ?_|refine sb1 ?_|((with_reducible refine' Cp.by ?hc ?_);(case hc=>first|exact as6 _ 7 (by decide) (by decide)|exact as6 _ 18 (by decide) (by decide)|exact as6 _ 17 (by decide) (by decide)|exact as6 _ 19 (by decide) (by decide)))|((with_reducible refine' CE.pure ?hc ?_);(case hc=>first|exact as6 _ 7 (by decide) (by decide)|exact as6 _ 18 (by decide) (by decide)|exact as6 _ 17 (by decide) (by decide)|exact as6 _ 19 (by decide) (by decide))));exact hk7q.run):A:=h ⟨k⟩
end
section
open Go Go.Maps Go.MapKept
theorem bW0 {f:FuncId} {c1:List D} (l:List (Int × Int)) (p:Int × Int→Bool) (hl:l.length≤1000000) (hp:∀ y∈l,APure Tryz.prog f [.agg (movC y),.ro c1] (bD (p y))):APure Tryz.prog 241 [.sl 2 (l.map movC),.clo f [.ro c1]] (iD (idx p l)):=by
 refine eP7 Tryz.func241 Tryz.ntmps241 fun BB=>?_
 repeat' first|refine sk5 ?_|(intro b;conv=>whnf)
 refine ae2 mixed aa0 (γ:=Nat) (fun k=>[(8,iD k)]) (fun _=>[]) (fun k=>k≤l.length∧∀ i y,i<k→l[i]?=some y→p y=false) (fun k=>l.length - k) 0 rfl rfl ⟨by omega,by omega⟩ ?_
 rintro k ⟨hk,hno⟩
 by_cases hlt:k<l.length
 ·obtain ⟨y,hy⟩:∃ y,l[(k:Int).toNat]?=some y:=⟨_,List.getElem?_eq_getElem hlt⟩
  repeat' first|refine sk5 ?_|(intro b;conv=>whnf)|(with_reducible refine Br.d (fun hc=>?_) (fun hc=>?_))|(with_reducible refine Br.b (fun hc=>?_) (fun hc=>?_))
  ·refine Rt.pure (congrArg iD ?_)
   exact (ac5 hy ‹_› hno).symm
  ·exact ⟨k+1,rfl,rfl,⟨by omega,fun i z hi hz=>by
    by_cases e:i=k
    ·subst e;rw [show ((i:Int)).toNat=i from rfl,hz] at hy;cases hy;assumption
    ·exact hno i z (by omega) hz⟩,by omega⟩
 ·repeat' first|refine sk5 ?_|(intro b;conv=>whnf)
  refine Rt.pure (congrArg iD ?_)
  exact (ag5 fun i y hy=>hno i y (by have:=(List.getElem?_eq_some_iff.1 hy).1;omega) hy).symm
theorem sk50 {A B:Prop} (k:B) (h:Hd7 B→A:=by intro hk7q;(first|refine sb0 ?_|refine sb1 ?_|((with_reducible refine' Cp.by ?hc ?_);(case hc=>exact bW0 l p hl hp))|((with_reducible refine' CE.pure ?hc ?_);(case hc=>exact bW0 l p hl hp)));exact hk7q.run):A:=h ⟨k⟩
theorem ch1 {f:FuncId} {c1:List D} (l:List (Int × Int)) (p:Int × Int→Bool) (hl:l.length≤1000000) (hp:∀ y∈l,APure Tryz.prog f [.agg (movC y),.ro c1] (bD (p y))):APure Tryz.prog 207 [.sl 2 (l.map movC),.clo f [.ro c1]] (bD (l.any p)):=by
 refine eP7 Tryz.func207 Tryz.ntmps207 fun BB=>?_
 repeat' first|refine sk50 ?_|(intro b;conv=>whnf)
 refine Rt.pure (congrArg bD ?_)
 exact ai2 p l
theorem bR5 {α:Type} (l:List α) (p:α→Bool):(l.any fun a=>!p a)=!l.all p:=by rw [List.all_eq_not_any_not,Bool.not_not]
theorem bC1 (n:Nat) (m:Int × Int):APure Tryz.prog 208 [.agg (movC m),.ro [iD n]] (bD (!moveB n m)):=by
 refine eP7 Tryz.func208 Tryz.ntmps208 fun BB=>?_
 repeat' first|refine sk2 ?_|(intro b;conv=>whnf)|(with_reducible refine Br.d (fun hc=>?_) (fun hc=>?_))|(with_reducible refine Br.b (fun hc=>?_) (fun hc=>?_))
 ·refine Rt.pure (congrArg bD ?_)
  unfold moveB aa7
  simp only [Bool.true_eq,Bool.not_eq_true',Bool.and_eq_false_iff,decide_eq_false_iff_not]
  split at hc <;> omega
 ·refine Rt.pure (congrArg bD ?_)
  unfold moveB aa7
  rw [Bool.eq_iff_iff]
  simp only [decide_eq_true_eq,Bool.not_eq_true',Bool.and_eq_false_iff,decide_eq_false_iff_not]
  split at hc <;> split <;> omega
def lvE (l:Lif):Int:=if 12<l.states.length∨32<l.moves.length then 4 else if l.states.length=0∨l.moves.all (moveB l.states.length)=false then 1 else 0
theorem cq1 (l:Lif):decide (lvE l=0)=aM2 l:=by
 unfold lvE aM2
 split
 ·rename_i h
  rw [decide_eq_false (by decide)]
  rcases h with h|h
  ·rw [decide_eq_false (show ¬ l.states.length≤12 by omega)];rfl
  ·rw [decide_eq_false (show ¬ l.moves.length≤32 by omega)];simp
 ·rename_i h
  split
  ·rename_i h2
   rw [decide_eq_false (by decide)]
   rcases h2 with h2|h2
   ·rw [h2];simp
   ·rw [h2];simp
  ·rename_i h2
   have h3:l.moves.all (moveB l.states.length)=true:=by
    cases e:l.moves.all (moveB l.states.length) with
    | true=>rfl
    | false=>exact absurd (.inr e) h2
   rw [h3,decide_eq_true (show l.states.length≤12 by omega),decide_eq_true (show l.moves.length≤32 by omega),decide_eq_true (show l.states.length≠0 by omega)];rfl
theorem bN4 (l:Lif) (h1:l.states.length≤1000000) (h2:l.moves.length≤1000000):APure Tryz.prog 167 [lifD l] (iD (lvE l)):=by
 have HK:APure Tryz.prog 207 [.sl 2 (l.moves.map movC),.clo 208 [.ro [iD ((l.states.map fun (x:ByteArray)=>[sD x]).length:Nat)]]] (bD (!l.moves.all (moveB l.states.length))):=by
  rw [List.length_map]
  exact bR5 l.moves (moveB l.states.length) ▸ ch1 _ _ (by omega) fun y _=>bC1 _ y
 refine eP7 Tryz.func167 Tryz.ntmps167 fun BB=>?_
 unfold lvE
 by_cases h3:12<l.states.length∨32<l.moves.length
 ·rw [if_pos h3]
  repeat' first|refine sk2 ?_|(intro b;conv=>whnf)|(with_reducible refine Br.d (fun hc=>?_) (fun hc=>?_))|(with_reducible refine Br.b (fun hc=>?_) (fun hc=>?_))
  all_goals first|exact Rt.pure rfl|(exfalso;omega)
 ·rw [if_neg h3]
  by_cases h4:l.states.length=0
  ·rw [if_pos (.inl h4)]
   repeat' first|refine sk2 ?_|(intro b;conv=>whnf)
   exact Rt.pure rfl
  ·cases h5:l.moves.all (moveB l.states.length) with
   | false=>
    rw [h5] at HK
    rw [if_pos (.inr rfl)]
    repeat' first|refine sk2 ?_|(intro b;conv=>whnf)
    (refine CE.pk (APk.peek (.cons (Pk.same _) (.cons (Pk.clo (.cons (Pk.ptr (j:=0) rfl (PkL.refl _)) .nil)) .nil)) HK rfl) ?_)
    repeat' first|refine sk2 ?_|(intro b;conv=>whnf)
    exact Rt.pure rfl
   | true=>
    rw [h5] at HK
    rw [if_neg (by simpa using h4)]
    repeat' first|refine sk2 ?_|(intro b;conv=>whnf)
    (refine CE.pk (APk.peek (.cons (Pk.same _) (.cons (Pk.clo (.cons (Pk.ptr (j:=0) rfl (PkL.refl _)) .nil)) .nil)) HK rfl) ?_)
    repeat' first|refine sk2 ?_|(intro b;conv=>whnf)
    exact Rt.pure rfl
end
section
open Go Go.Maps Go.MapKept
theorem aq6 {P:Program} {σ:aa1} {ρ:Operand→D} {T:TypeId→Option TI} (hT:∀ t i,T t=some i→tiOf P t=some i) {o:Oper} {t:TypeId} {x ix:Operand} {b off n:Nat} {kk:IntKind} {j:Int} {ag:Bool} {i:TI} (ho:o.op = .indexAddr t x ix) (hx:ρ x = .v (.pointer (some ⟨b,off,none⟩))) (hi:ρ ix = .v (.int kk j)) (ht:T t=some i) (ha:i.arr=some (n,ag,1)) (hj:0≤j) (hm:j.toNat<n):Yd P o ρ σ (.v (.pointer (some ⟨b,off+j.toNat,none⟩))):=
 cv2 hT ho hx hi ht ha (by omega) hm rfl
def bB1 (l:Lif) (s:Int):List Int:=(l.moves.filter fun m=>decide (m.1=s)).map fun m=>m.2
theorem br9 (l:Lif) (s:Nat):decide ((bB1 l s).length=0)=bt4 l s:=by
 unfold bB1 bt4
 rw [List.length_map]
 cases h:l.moves.any fun m=>decide (m.1=(s:Int)) with
 | false=>
  rw [List.any_eq_false] at h
  rw [List.filter_eq_nil_iff.2 fun m hm=>h m hm];rfl
 | true=>
  rw [List.any_eq_true] at h
  obtain ⟨m,hm,h⟩:=h
  have:0<(l.moves.filter fun m=>decide (m.1=(s:Int))).length:=List.length_pos_iff.2 (List.ne_nil_of_mem (List.mem_filter.2 ⟨hm,h⟩))
  rw [decide_eq_false (by omega)];rfl
theorem bN6 (l:Lif) (s:Int) (hl:l.moves.length≤1000):APure Tryz.prog 168 [lifD l,iD s] (slI (bB1 l s)):=by
 refine eP7 Tryz.func168 Tryz.ntmps168 fun BB=>?_
 repeat' first|refine sk2 ?_|(intro b;conv=>whnf)
 refine aa5 mixed aa0 (γ:=Nat × Value × aa1) (fun g=>[(5,.v g.2.1),(11,iD g.1)]) (fun g=>g.2.2) (fun g=>g.1≤l.moves.length∧RowR 3 iD (((l.moves.take g.1).filter fun m=>decide (m.1=s)).map fun m=>m.2) g.2.1 g.2.2) (fun g=>l.moves.length - g.1) (0,.slice none 0 0,[]) (aa2 cl3) (Sc.refl _) ⟨Nat.zero_le _,RowIs.nil _ _⟩ ?_
 rintro ⟨j,v,r⟩ ⟨hj,hrow⟩
 simp only at hj hrow ⊢
 by_cases hjl:j<l.moves.length
 ·obtain ⟨m,hm⟩:∃ m,l.moves[j]?=some m:=⟨_,List.getElem?_eq_getElem hjl⟩
  have hm':l.moves[((j:Nat):Int).toNat]?=some m:=hm
  have htk:=ac7 hm
  have hlen:((l.moves.take j).filter fun m=>decide (m.1=s)).length≤1000:=Nat.le_trans (List.length_filter_le ..) (by rw [List.length_take];omega)
  have hlen2:((l.moves.take (j+1)).filter fun m=>decide (m.1=s)).length≤1000:=Nat.le_trans (List.length_filter_le ..) (by rw [List.length_take];omega)
  by_cases h:m.1=s
  ·repeat' first|refine sk2 ?_|(intro b;conv=>whnf)|((with_reducible refine' Ot.yd ?hydn ?_);(case hydn=>(refine aq6 aa0 rfl rfl rfl rfl rfl ?_ ?_ <;> omega)))
   refine Ap.go rfl rfl rfl rfl hrow (ba7 _ _) rfl (zs:=(((l.moves.take (j+1)).filter fun m=>decide (m.1=s)).map fun m=>m.2).map fun b=>[iD b]) (by rw [htk,List.filter_append,List.map_append,List.map_append];simp [h]) (by simp;omega) (by simp;omega) (fun s'=>_ :: s') (aL4 _) (fun a3 c3 s3 h3=>?_)
   repeat' first|refine sk2 ?_|(intro b;conv=>whnf)|((with_reducible refine' Ot.yd ?hydn ?_);(case hydn=>(refine aq6 aa0 rfl rfl rfl rfl rfl ?_ ?_ <;> omega)))
   exact ⟨(j+1,_,s3),(aa2 cl3),Sc.sl (List.sublist_cons_self _ _),⟨by simp only;omega,h3⟩,by simp only;omega⟩
  ·repeat' first|refine sk2 ?_|(intro b;conv=>whnf)|((with_reducible refine' Ot.yd ?hydn ?_);(case hydn=>(refine aq6 aa0 rfl rfl rfl rfl rfl ?_ ?_ <;> omega)))
   exact ⟨(j+1,v,r),(aa2 cl3),Sc.sl (List.sublist_cons_self _ _),⟨by simp only;omega,by rw [htk,List.filter_append];simpa [h] using hrow⟩,by simp only;omega⟩
 ·obtain rfl:j=l.moves.length:=by omega
  rw [List.take_length] at hrow
  repeat' first|refine sk2 ?_|(intro b;conv=>whnf)
  exact Rt.vs (Vs.row hrow (by simp:r.Perm (r ++ [])))
/-! ### Sets of states -/
def af1 (N:Nat→Bool):List D:=(List.range 12).map fun i=>bD (N i)
theorem ax8 (N:Nat→Bool):(af1 N).length=12:=by simp [af1]
theorem ax9 (N:Nat→Bool) {j:Nat} (h:j<12):(af1 N)[j]?=some (bD (N j)):=by unfold af1;rw [List.getElem?_map,List.getElem?_range h];rfl
theorem be5 (N:Nat→Bool) {j:Nat} (h:j<12) (b:Bool):(af1 N).set j (bD b)=af1 fun i=>if i=j then b else N i:=by
 refine List.ext_getElem? fun i=>?_
 by_cases hi:i<12
 ·rw [ax9 _ hi]
  by_cases e:i=j
  ·subst e
   rw [List.getElem?_set_self (by rw [ax8];exact hi),if_pos rfl]
  ·rw [List.getElem?_set_ne (Ne.symm e),ax9 _ hi,if_neg e]
 ·rw [List.getElem?_eq_none_iff.2 (by rw [List.length_set,ax8];omega),List.getElem?_eq_none_iff.2 (by rw [ax8];omega)]
def mixN (n:Nat) (new old:Nat→Bool) (j:Nat):List Bool:=(List.range n).map fun i=>if i<j then new i else old i
theorem bB3 (n:Nat) (new old:Nat→Bool):mixN n new old 0=(List.range n).map old:=by unfold mixN;exact List.map_congr_left fun i _=>if_neg (Nat.not_lt_zero i)
theorem bB4 (n:Nat) (new old:Nat→Bool):mixN n new old n=(List.range n).map new:=by unfold mixN;exact List.map_congr_left fun i hi=>if_pos (List.mem_range.1 hi)
theorem bM8 {n j:Nat} (new old:Nat→Bool) (h:j<n):(mixN n new old j)[j]?=some (old j):=by unfold mixN;rw [List.getElem?_map,List.getElem?_range h];simp
theorem aW0 (n:Nat) (new old:Nat→Bool) (j:Nat):(mixN n new old j).length=n:=by simp [mixN]
theorem bM7 {n j:Nat} (new old:Nat→Bool) (h:j<n):(mixN n new old j).set j (new j)=mixN n new old (j+1):=by
 refine List.ext_getElem? fun i=>?_
 by_cases hi:i<n
 ·have e1:∀ q,(mixN n new old q)[i]?=some (if i<q then new i else old i):=fun q=>by unfold mixN;rw [List.getElem?_map,List.getElem?_range hi];rfl
  rw [e1]
  by_cases e:i=j
  ·subst e
   rw [List.getElem?_set_self (by rw [aW0];exact hi),if_pos (by omega)]
  ·rw [List.getElem?_set_ne (Ne.symm e),e1]
   by_cases h2:i<j
   ·rw [if_pos h2,if_pos (by omega)]
   ·rw [if_neg h2,if_neg (by omega)]
 ·rw [List.getElem?_eq_none_iff.2 (by rw [List.length_set,aW0];omega),List.getElem?_eq_none_iff.2 (by rw [aW0];omega)]
theorem cl9 {p:Prop} (h:p:=by (refine ad8 fun a=>?_;simp only [List.append_eq,List.nil_append,ad9,ah8,ah7,rfC,atC,iD,bD];omega)):p:=h
theorem ba6 (a b c d:Nat × Blk):[d,a,b,c].Perm [a,b,c,d]:=cl9
theorem aL3 (a b c d:Nat × Blk):[a,b,c,d].Perm [d,a,b,c]:=cl9
theorem cl10 {p:Prop} (h:p:=by rw [ix1];exact (List.getElem?_eq_some_iff.1 hc5).1):p:=h
theorem bC3 (m n:Nat) (hn:n≤12) (hm:m≤2000) (N E old:Nat→Bool) (lo:Int) (b9 b7:Nat) (v:Value) (s:aa1) (hr:RowR 4 bD ((List.range n).map old) v s) :
  ACall Tryz.prog 170 [iD m,.agg (af1 N),.v (.pointer (some ⟨b9,0,none⟩)),.ro [iD lo],.v (.pointer (some ⟨b7,0,none⟩))] ((b9,.cells 130 [.v v]) :: (b7,.cells 277 (af1 E)) :: s)
   (fun d σ'=>∃ s',d=bD true∧σ'=(b9,.cells 130 [.v v]) :: (b7,.cells 277 (af1 E)) :: s'∧RowR 4 bD ((List.range n).map fun i=>old i || (N i && (decide (lo≤(m:Int)) || E i))) v s'):=by
 obtain ⟨a,cap,rfl⟩:=RowIs.slice hr
 rw [List.length_map,List.length_map,List.length_range] at *
 obtain ⟨new,hnew⟩:∃ new:Nat→Bool,new=fun i=>old i || (N i && (decide (lo≤(m:Int)) || E i)):=⟨_,rfl⟩
 rw [← hnew]
 refine eC7 Tryz.func170 Tryz.ntmps170 fun BB=>?_
 repeat' first|refine sk46 ?_|(intro b;conv=>whnf)
 refine Bx.r ?_
 refine OtE.box (t:=277) rfl rfl (fun b6=>?_)
 repeat' first|refine sk2 ?_|(intro b;conv=>whnf)
 refine aa5 mixed aa0 (γ:=Nat × aa1) (fun g=>[(11,iD g.1)]) (fun g=>(b6,.cells 277 (af1 N)) :: (b9,.cells 130 [.v (.slice a n cap)]) :: (b7,.cells 277 (af1 E)) :: g.2) (fun g=>g.1≤n∧RowR 4 bD (mixN n new old g.1) (.slice a n cap) g.2) (fun g=>n - g.1) (0,s) (aa2 cl3) (Sc.refl _) ⟨Nat.zero_le _,by rw [bB3];exact hr⟩ ?_
 rintro ⟨j,s⟩ ⟨hj,h⟩
 simp only at hj h ⊢
 by_cases hjn:j<n
 ·have hset:=bM7 new old hjn
  have g1:=ax9 N (j:=j) (by omega)
  have g2:=ax9 E (j:=j) (by omega)
  obtain ⟨b5,cap5,cs5,e5,rfl,hc5,hw5⟩:=am4 h (bM8 new old hjn)
  obtain ⟨rfl,_,rfl⟩:=Value.slice.inj e5
  clear e5
  have hw:=hw5 (new j)
  rw [hset] at hw
  have hnj:new j=(old j || (N j && (decide (lo≤(m:Int)) || E j))):=by rw [hnew]
  generalize old j=o at *
  generalize N j=nj at *
  generalize E j=ej at *
  cases o with
  | true=>
   simp only [Bool.true_or,Bool.false_or,Bool.true_and,Bool.false_and,Bool.or_self,Bool.or_false,Bool.or_true] at hnj
   rw [hnj] at hw
   repeat' first|refine sk2 ?_|(intro b;conv=>whnf)|((with_reducible refine' Ot.yd ?hydn ?_);(case hydn=>(refine aq6 aa0 rfl rfl rfl rfl rfl ?_ ?_ <;> omega)))|((refine' Ld.cellm (tb:=4) (cs:=cs5) ?hq1 ?hq2 ?_);(case hq1=>(simp;done));(case hq2=>(rw [ix1];exact hc5)))|((refine' Ld.cellm (tb:=277) (cs:=af1 N) ?hq1 ?hq2 ?_);(case hq1=>(simp;done));(case hq2=>(rw [Nat.zero_add,Int.toNat_natCast];exact g1)))|((refine' Ld.cellm (tb:=277) (cs:=af1 E) ?hq1 ?hq2 ?_);(case hq1=>(simp;done));(case hq2=>(rw [Nat.zero_add,Int.toNat_natCast];exact g2)))|(refine Sv.cellm (tb:=4) (cs:=cs5) (τ:=[(b6,.cells 277 (af1 N)),(b9,.cells 130 [.v (.slice (some ⟨b5,0,none⟩) n cap)]),(b7,.cells 277 (af1 E))]) (aL3 _ _ _ _) cl10 rfl (by rw [ix1]) ?_)
   refine ⟨(j+1,_),(aa2 cl3),Sc.perm (ba6 _ _ _ _),⟨by simp only;omega,hw⟩,by simp only;omega⟩
  | false=>
   cases nj with
   | false=>
    simp only [Bool.true_or,Bool.false_or,Bool.true_and,Bool.false_and,Bool.or_self,Bool.or_false,Bool.or_true] at hnj
    rw [hnj] at hw
    repeat' first|refine sk2 ?_|(intro b;conv=>whnf)|((with_reducible refine' Ot.yd ?hydn ?_);(case hydn=>(refine aq6 aa0 rfl rfl rfl rfl rfl ?_ ?_ <;> omega)))|((refine' Ld.cellm (tb:=4) (cs:=cs5) ?hq1 ?hq2 ?_);(case hq1=>(simp;done));(case hq2=>(rw [ix1];exact hc5)))|((refine' Ld.cellm (tb:=277) (cs:=af1 N) ?hq1 ?hq2 ?_);(case hq1=>(simp;done));(case hq2=>(rw [Nat.zero_add,Int.toNat_natCast];exact g1)))|((refine' Ld.cellm (tb:=277) (cs:=af1 E) ?hq1 ?hq2 ?_);(case hq1=>(simp;done));(case hq2=>(rw [Nat.zero_add,Int.toNat_natCast];exact g2)))|(refine Sv.cellm (tb:=4) (cs:=cs5) (τ:=[(b6,.cells 277 (af1 N)),(b9,.cells 130 [.v (.slice (some ⟨b5,0,none⟩) n cap)]),(b7,.cells 277 (af1 E))]) (aL3 _ _ _ _) cl10 rfl (by rw [ix1]) ?_)
    refine ⟨(j+1,_),(aa2 cl3),Sc.perm (ba6 _ _ _ _),⟨by simp only;omega,hw⟩,by simp only;omega⟩
   | true=>
    by_cases hlo:lo≤(m:Int)
    ·rw [decide_eq_true hlo] at hnj
     simp only [Bool.true_or,Bool.false_or,Bool.true_and,Bool.false_and,Bool.or_self,Bool.or_false,Bool.or_true] at hnj
     rw [hnj] at hw
     repeat' first|refine sk2 ?_|(intro b;conv=>whnf)|((with_reducible refine' Ot.yd ?hydn ?_);(case hydn=>(refine aq6 aa0 rfl rfl rfl rfl rfl ?_ ?_ <;> omega)))|((refine' Ld.cellm (tb:=4) (cs:=cs5) ?hq1 ?hq2 ?_);(case hq1=>(simp;done));(case hq2=>(rw [ix1];exact hc5)))|((refine' Ld.cellm (tb:=277) (cs:=af1 N) ?hq1 ?hq2 ?_);(case hq1=>(simp;done));(case hq2=>(rw [Nat.zero_add,Int.toNat_natCast];exact g1)))|((refine' Ld.cellm (tb:=277) (cs:=af1 E) ?hq1 ?hq2 ?_);(case hq1=>(simp;done));(case hq2=>(rw [Nat.zero_add,Int.toNat_natCast];exact g2)))|(refine Sv.cellm (tb:=4) (cs:=cs5) (τ:=[(b6,.cells 277 (af1 N)),(b9,.cells 130 [.v (.slice (some ⟨b5,0,none⟩) n cap)]),(b7,.cells 277 (af1 E))]) (aL3 _ _ _ _) cl10 rfl (by rw [ix1]) ?_)
     refine ⟨(j+1,_),(aa2 cl3),Sc.perm (ba6 _ _ _ _),⟨by simp only;omega,hw⟩,by simp only;omega⟩
    ·rw [decide_eq_false hlo] at hnj
     cases ej with
     | false=>
      simp only [Bool.true_or,Bool.false_or,Bool.true_and,Bool.false_and,Bool.or_self,Bool.or_false,Bool.or_true] at hnj
      rw [hnj] at hw
      repeat' first|refine sk2 ?_|(intro b;conv=>whnf)|((with_reducible refine' Ot.yd ?hydn ?_);(case hydn=>(refine aq6 aa0 rfl rfl rfl rfl rfl ?_ ?_ <;> omega)))|((refine' Ld.cellm (tb:=4) (cs:=cs5) ?hq1 ?hq2 ?_);(case hq1=>(simp;done));(case hq2=>(rw [ix1];exact hc5)))|((refine' Ld.cellm (tb:=277) (cs:=af1 N) ?hq1 ?hq2 ?_);(case hq1=>(simp;done));(case hq2=>(rw [Nat.zero_add,Int.toNat_natCast];exact g1)))|((refine' Ld.cellm (tb:=277) (cs:=af1 E) ?hq1 ?hq2 ?_);(case hq1=>(simp;done));(case hq2=>(rw [Nat.zero_add,Int.toNat_natCast];exact g2)))|(refine Sv.cellm (tb:=4) (cs:=cs5) (τ:=[(b6,.cells 277 (af1 N)),(b9,.cells 130 [.v (.slice (some ⟨b5,0,none⟩) n cap)]),(b7,.cells 277 (af1 E))]) (aL3 _ _ _ _) cl10 rfl (by rw [ix1]) ?_)
      refine ⟨(j+1,_),(aa2 cl3),Sc.perm (ba6 _ _ _ _),⟨by simp only;omega,hw⟩,by simp only;omega⟩
     | true=>
      simp only [Bool.true_or,Bool.false_or,Bool.true_and,Bool.false_and,Bool.or_self,Bool.or_false,Bool.or_true] at hnj
      rw [hnj] at hw
      repeat' first|refine sk2 ?_|(intro b;conv=>whnf)|((with_reducible refine' Ot.yd ?hydn ?_);(case hydn=>(refine aq6 aa0 rfl rfl rfl rfl rfl ?_ ?_ <;> omega)))|((refine' Ld.cellm (tb:=4) (cs:=cs5) ?hq1 ?hq2 ?_);(case hq1=>(simp;done));(case hq2=>(rw [ix1];exact hc5)))|((refine' Ld.cellm (tb:=277) (cs:=af1 N) ?hq1 ?hq2 ?_);(case hq1=>(simp;done));(case hq2=>(rw [Nat.zero_add,Int.toNat_natCast];exact g1)))|((refine' Ld.cellm (tb:=277) (cs:=af1 E) ?hq1 ?hq2 ?_);(case hq1=>(simp;done));(case hq2=>(rw [Nat.zero_add,Int.toNat_natCast];exact g2)))|(refine Sv.cellm (tb:=4) (cs:=cs5) (τ:=[(b6,.cells 277 (af1 N)),(b9,.cells 130 [.v (.slice (some ⟨b5,0,none⟩) n cap)]),(b7,.cells 277 (af1 E))]) (aL3 _ _ _ _) cl10 rfl (by rw [ix1]) ?_)
      refine ⟨(j+1,_),(aa2 cl3),Sc.perm (ba6 _ _ _ _),⟨by simp only;omega,hw⟩,by simp only;omega⟩
 ·obtain rfl:j=n:=by omega
  rw [bB4] at h
  repeat' first|refine sk2 ?_|(intro b;conv=>whnf)
  exact Rt.by (Vs.drop (List.sublist_cons_self _ _)) ⟨s,rfl,rfl,h⟩
end
section
open Go Go.Maps Go.MapKept
def nowN (l:Lif) (m i:Nat):Bool:=(bA5 l m).getD i false
def stP (l:Lif) (m j:Nat):List Bool:=(l.moves.take j).foldl (fun nx q=>if (bA5 l m).getD q.1.toNat false then nx.set q.2.toNat true else nx) (List.replicate 12 false)
def aG7 (l:Lif) (m j i:Nat):Bool:=(stP l m j).getD i false
theorem bZ5 (l:Lif) (m j:Nat):(stP l m j).length=12:=by
 unfold stP
 generalize l.moves.take j=ms
 have:∀ (ms:List (Int × Int)) (x:List Bool),(ms.foldl (fun nx q=>if (bA5 l m).getD q.1.toNat false then nx.set q.2.toNat true else nx) x).length=x.length:=by
  intro ms
  induction ms with
  | nil=>intro x;rfl
  | cons q ms ih=>intro x;rw [List.foldl_cons,ih];split <;> simp
 rw [this];simp
theorem bl2 {l:Lif} {m j:Nat} {q:Int × Int} (h:l.moves[j]?=some q):stP l m (j+1)=if nowN l m q.1.toNat then (stP l m j).set q.2.toNat true else stP l m j:=by
 unfold stP nowN
 rw [ac7 h,List.foldl_append];rfl
theorem bx0 {l:Lif} {m j:Nat} {q:Int × Int} (h:l.moves[j]?=some q) (hn:nowN l m q.1.toNat=true) (hq:q.2.toNat<12):aG7 l m (j+1)=fun i=>if i=q.2.toNat then true else aG7 l m j i:=by
 funext i
 unfold aG7
 rw [bl2 h,if_pos hn,List.getD_eq_getElem?_getD,List.getD_eq_getElem?_getD]
 by_cases e:i=q.2.toNat
 ·rw [if_pos e,e,List.getElem?_set_self (by rw [bZ5];exact hq)];rfl
 ·rw [if_neg e,List.getElem?_set_ne (Ne.symm e)]
theorem bJ5 {l:Lif} {m j:Nat} {q:Int × Int} (h:l.moves[j]?=some q) (hn:nowN l m q.1.toNat=false):aG7 l m (j+1)=aG7 l m j:=by
 funext i
 unfold aG7
 rw [bl2 h,if_neg (by rw [hn];decide)]
theorem bx1 (l:Lif) (m:Nat):aG7 l m l.moves.length=nowN l (m+1):=by
 funext i
 unfold aG7 nowN stP
 rw [List.take_length];rfl
def outN (l:Lif) (lo:Int) (E:Nat→Bool) (m:Nat) (i:Nat):Bool:=(List.range m).any fun q=>nowN l q i && (decide (lo≤(q:Int)) || E i)
theorem bA3 (l:Lif) (lo:Int) (E:Nat→Bool) (m:Nat):(fun i=>outN l lo E m i || (nowN l m i && (decide (lo≤(m:Int)) || E i)))=outN l lo E (m+1):=by
 funext i
 unfold outN
 rw [List.range_succ,List.any_append]
 simp
theorem cn2 (a b c:Nat × Blk) (s:aa1):(a :: b :: c :: s).Perm ((b :: c :: s) ++ [a]):=cl9
theorem cn1 (z a b c:Nat × Blk) (s:aa1):(z :: ((b :: c :: s) ++ [a])).Perm (z :: a :: b :: c :: s):=cl9
theorem cm8 (a b:Nat × Blk) (s:aa1):(a :: b :: s).Perm (b :: a :: s):=List.Perm.swap _ _ _
theorem cm7 (a b:Nat × Blk) (s:aa1):(b :: a :: s).Perm ((b :: s) ++ [a]):=cl9
theorem bC2 (l:Lif) (hml:l.moves.length≤32) (hmv:∀ q∈l.moves,(0≤q.1∧q.1<12)∧(0≤q.2∧q.2<12)) (hi:Nat) (hh:hi≤1000) (n:Nat) (hn:n≤12) (E:Nat→Bool) (lo:Int) (b9 b7:Nat) (v:Value) (s:aa1) (hr:RowR 4 bD ((List.range n).map (outN l lo E 0)) v s) :
  ACall Tryz.prog 169 [lifD l,iD hi,.clo 170 [.v (.pointer (some ⟨b9,0,none⟩)),.ro [iD lo],.v (.pointer (some ⟨b7,0,none⟩))]] ((b9,.cells 130 [.v v]) :: (b7,.cells 277 (af1 E)) :: s)
   (fun d σ'=>∃ s',d = .v (.tuple #[])∧σ'=(b9,.cells 130 [.v v]) :: (b7,.cells 277 (af1 E)) :: s'∧RowR 4 bD ((List.range n).map (outN l lo E (hi+1))) v s'):=by
 refine eC7 Tryz.func169 Tryz.ntmps169 fun BB=>?_
 repeat' first|refine sk2 ?_|(intro b;conv=>whnf)
 obtain ⟨b6,rfl⟩:∃ b6,b6=b:=⟨_,rfl⟩
 refine aa5 mixed aa0 (γ:=Nat × aa1) (fun g=>[(7,iD g.1)]) (fun g=>(b6,.cells 277 (af1 (nowN l g.1))) :: (b9,.cells 130 [.v v]) :: (b7,.cells 277 (af1 E)) :: g.2) (fun g=>g.1≤hi+1∧RowR 4 bD ((List.range n).map (outN l lo E g.1)) v g.2) (fun g=>hi+1 - g.1) (0,s) (aa2 cl3) (Sc.refl _) ⟨Nat.zero_le _,hr⟩ ?_
 rintro ⟨m,s⟩ ⟨hm,h⟩
 simp only at hm h ⊢
 by_cases hmh:m≤hi
 ·have HR:=bC3 m n hn (by omega) (nowN l m) E (outN l lo E m) lo b9 b7 v s h
  rw [bA3] at HR
  repeat' first|refine sk2 ?_|(intro b;conv=>whnf)
  refine CE.own HR (cn2 _ _ _ _) (fun s'=>s' ++ [_]) (fun s'=>List.Perm.refl _) ?_
  rintro _ _ ⟨s2,rfl,rfl,h2⟩
  repeat' first|refine sk2 ?_|(intro b;conv=>whnf)
  obtain ⟨b8,rfl⟩:∃ b8,b8=b:=⟨_,rfl⟩
  refine aa5 mixed aa0 (γ:=Nat) (fun j=>[(26,iD j)]) (fun j=>(b8,.cells 277 (af1 (aG7 l m j))) :: (b6,.cells 277 (af1 (nowN l m))) :: (b9,.cells 130 [.v v]) :: (b7,.cells 277 (af1 E)) :: s2) (fun j=>j≤l.moves.length) (fun j=>l.moves.length - j) 0 (aa2 cl3) (Sc.perm (cn1 _ _ _ _ _)) (Nat.zero_le _) ?_
  intro j hj
  simp only at hj ⊢
  by_cases hjl:j<l.moves.length
  ·obtain ⟨q,hq⟩:∃ q,l.moves[j]?=some q:=⟨_,List.getElem?_eq_getElem hjl⟩
   have hq':l.moves[((j:Nat):Int).toNat]?=some q:=hq
   obtain ⟨⟨q1,q2⟩,q3,q4⟩:=hmv q (List.mem_of_getElem? hq)
   have g1:=ax9 (nowN l m) (j:=q.1.toNat) (by omega)
   cases hv:nowN l m q.1.toNat with
   | true=>
    have hs:=bx0 hq hv (by omega)
    have hset:=be5 (aG7 l m j) (j:=q.2.toNat) (by omega) true
    rw [← hs] at hset
    rw [hv] at g1
    repeat' first|refine sk2 ?_|(intro b;conv=>whnf)|((with_reducible refine' Ot.yd ?hydn ?_);(case hydn=>(refine aq6 aa0 rfl rfl rfl rfl rfl ?_ ?_ <;> omega)))|((refine' Ld.cellm (tb:=277) (cs:=af1 (nowN l m)) ?hq1 ?hq2 ?_);(case hq1=>(simp;done));(case hq2=>(rw [Nat.zero_add];exact g1)))
    refine Sv.cellm (tb:=277) (cs:=af1 (aG7 l m j)) (cs':=af1 (aG7 l m (j+1))) (cm8 _ _ _) (by rw [Nat.zero_add,ax8];omega) rfl (by rw [Nat.zero_add];exact hset) ?_
    repeat' first|refine sk2 ?_|(intro b;conv=>whnf)|((with_reducible refine' Ot.yd ?hydn ?_);(case hydn=>(refine aq6 aa0 rfl rfl rfl rfl rfl ?_ ?_ <;> omega)))|((refine' Ld.cellm (tb:=277) (cs:=af1 (nowN l m)) ?hq1 ?hq2 ?_);(case hq1=>(simp;done));(case hq2=>(rw [Nat.zero_add];exact g1)))
    exact ⟨j+1,(aa2 cl3),Sc.drop (cm7 _ _ _),by omega,by omega⟩
   | false=>
    have hs:=bJ5 hq hv
    rw [hv] at g1
    repeat' first|refine sk2 ?_|(intro b;conv=>whnf)|((with_reducible refine' Ot.yd ?hydn ?_);(case hydn=>(refine aq6 aa0 rfl rfl rfl rfl rfl ?_ ?_ <;> omega)))|((refine' Ld.cellm (tb:=277) (cs:=af1 (nowN l m)) ?hq1 ?hq2 ?_);(case hq1=>(simp;done));(case hq2=>(rw [Nat.zero_add];exact g1)))
    exact ⟨j+1,(aa2 cl3),Sc.sl (by rw [hs];exact List.sublist_cons_self _ _),by omega,by omega⟩
  ·obtain rfl:j=l.moves.length:=by omega
   rw [bx1]
   repeat' first|refine sk2 ?_|(intro b;conv=>whnf)
   exact ⟨(m+1,s2),(aa2 cl6),Sc.sl (List.sublist_cons_self _ _),⟨by simp only;omega,h2⟩,by simp only;omega⟩
 ·obtain rfl:m=hi+1:=by omega
  repeat' first|refine sk2 ?_|(intro b;conv=>whnf)
  exact Rt.by (Vs.drop (List.sublist_cons_self _ _)) ⟨s,rfl,rfl,h⟩
end
section
open Go Go.Maps Go.MapKept
theorem bT2 (e:TypeId) (d:D) (m b:Nat) (hm:m≤maxLen):RowIs e 1 (List.replicate m [d]) (.slice (some ⟨b,0,none⟩) m m) [(b,.cells e (List.replicate m d))]:=
 ⟨fun y hy=>by rw [(List.mem_replicate.1 hy).2];rfl,.inr ⟨b,m,[],by simp,by simp,by simp,hm,by simp,fun d hd=>by cases hd⟩⟩
def endN (l:Lif) (i s:Nat):Bool:=decide (s<i) && bt4 l s
theorem bF1 (l:Lif) (i:Nat):(fun s=>if s=i then bt4 l i else endN l i s)=endN l (i+1):=by
 funext s
 unfold endN
 by_cases h:s=i
 ·subst h
  rw [if_pos rfl,decide_eq_true (by omega)];rfl
 ·rw [if_neg h]
  congr 1
  exact decide_eq_decide.2 (by omega)
theorem by4 {l:Lif} {lo:Int} {hi:Nat} (h:aM2 l=true) (h1:0≤lo) (h2:lo≤(hi:Int)) (h3:hi≤1000):(List.range l.states.length).map (outN l lo (endN l l.states.length) (hi+1))=au4 l lo hi:=by
 unfold au4
 rw [h,decide_eq_true h1,decide_eq_true h2,decide_eq_true (show (hi:Int)≤1000 by omega)]
 simp only [Bool.and_self,if_true,Int.toNat_natCast]
 refine List.map_congr_left fun s hs=>?_
 unfold outN endN nowN
 rw [decide_eq_true (List.mem_range.1 hs),Bool.true_and]
theorem cm6 (a b c:Nat × Blk):[a,b,c].Perm ((a :: c :: [b]) ++ []):=cl9
theorem cm5 (a b:Nat × Blk) (s:aa1):((a :: b :: s) ++ []).Perm (s ++ [a,b]):=cl9
theorem sk51 {A B:Prop} (k:B) (h:Hd7 B→A:=by intro hk7q;(first|refine sb0 ?_|refine sb1 ?_|((with_reducible refine' Cp.by ?hc ?_);(case hc=>first|exact HV|exact HM))|((with_reducible refine' CE.pure ?hc ?_);(case hc=>first|exact HV|exact HM)));exact hk7q.run):A:=h ⟨k⟩
theorem bN5 (l:Lif) (lo hi:Int) (h1:l.states.length≤1000000) (h2:l.moves.length≤1000000):APure Tryz.prog 121 [lifD l,iD lo,iD hi] (slB (au4 l lo hi)):=by
 have HV:=bN4 l h1 h2
 have hok:=cq1 l
 by_cases hall:lvE l=0∧0≤lo∧lo≤hi∧hi≤1000
 ·obtain ⟨c1,c2,c3,c4⟩:=hall
  rw [decide_eq_true c1] at hok
  rw [c1] at HV
  obtain ⟨hn,rfl⟩:∃ hn:Nat,hi=hn:=⟨hi.toNat,by omega⟩
  have hrr:=by4 hok.symm c2 c3 (by omega)
  have hok2:=hok.symm
  unfold aM2 at hok2
  simp only [Bool.and_eq_true,decide_eq_true_eq,List.all_eq_true] at hok2
  obtain ⟨⟨⟨k1,k2⟩,k3⟩,k4⟩:=hok2
  have hmv:∀ q∈l.moves,(0≤q.1∧q.1<12)∧(0≤q.2∧q.2<12):=fun q hq=>by
   have:=k4 q hq
   unfold moveB aa7 at this
   simp only [Bool.and_eq_true,decide_eq_true_eq] at this
   omega
  have hls:(l.states.map fun (x:ByteArray)=>[sD x]).length=l.states.length:=List.length_map ..
  refine eP7 Tryz.func121 Tryz.ntmps121 fun BB=>?_
  repeat' first|refine sk51 ?_|(intro b;conv=>whnf)|((with_reducible refine' Ot.yd ?hydn ?_);(case hydn=>(refine aq6 aa0 rfl rfl rfl rfl rfl ?_ ?_ <;> omega)))|((with_reducible refine Br.t ?h ?_);(case h=>first|exact decide_eq_true trivial|exact beq_self_eq_true _))|((with_reducible refine Br.f ?h ?_);(case h=>first|exact Bool.not_true|exact decide_eq_false not_false))
  obtain ⟨b7,rfl⟩:∃ b7,b7=b:=⟨_,rfl⟩
  refine aa5 mixed aa0 (γ:=Nat) (fun i=>[(29,iD i)]) (fun i=>[(b7,.cells 277 (af1 (endN l i)))]) (fun i=>i≤l.states.length) (fun i=>l.states.length - i) 0 (aa2 cl3) (Sc.refl _) (Nat.zero_le _) ?_
  intro i hi
  simp only at hi ⊢
  by_cases hil:i<l.states.length
  ·have HM:=bN6 l i (by omega)
   have hset:=be5 (endN l i) (j:=i) (by omega) (bt4 l i)
   rw [bF1] at hset
   have hme:=br9 l i
   rw [← hme] at hset
   repeat' first|refine sk51 ?_|(intro b;conv=>whnf)|((with_reducible refine' Ot.yd ?hydn ?_);(case hydn=>(refine aq6 aa0 rfl rfl rfl rfl rfl ?_ ?_ <;> omega)))|((with_reducible refine Br.t ?h ?_);(case h=>first|exact decide_eq_true trivial|exact beq_self_eq_true _))|((with_reducible refine Br.f ?h ?_);(case h=>first|exact Bool.not_true|exact decide_eq_false not_false))
   refine Sv.cellm (tb:=277) (cs:=af1 (endN l i)) (cs':=af1 (endN l (i+1))) (τ:=[]) (List.Perm.refl _) (by rw [Nat.zero_add,ax8];omega) rfl (by rw [Nat.zero_add,Int.toNat_natCast,List.length_map,← hset];congr 3;exact decide_eq_decide.2 (by omega)) ?_
   repeat' first|refine sk51 ?_|(intro b;conv=>whnf)|((with_reducible refine' Ot.yd ?hydn ?_);(case hydn=>(refine aq6 aa0 rfl rfl rfl rfl rfl ?_ ?_ <;> omega)))|((with_reducible refine Br.t ?h ?_);(case h=>first|exact decide_eq_true trivial|exact beq_self_eq_true _))|((with_reducible refine Br.f ?h ?_);(case h=>first|exact Bool.not_true|exact decide_eq_false not_false))
   exact ⟨i+1,(aa2 cl3),Sc.refl _,by omega,by omega⟩
  ·obtain rfl:i=l.states.length:=by omega
   repeat' first|refine sk51 ?_|(intro b;conv=>whnf)
   refine Mk.go l.states.length rfl rfl rfl rfl rfl (by simp) (by omega) (by omega) (fun bo=>?_)
   repeat' first|refine sk51 ?_|(intro b;conv=>whnf)
   have hr0:RowR 4 bD ((List.range l.states.length).map (outN l lo (endN l l.states.length) 0)) (.slice (some ⟨bo,0,none⟩) l.states.length l.states.length) [(bo,.cells 4 (List.replicate l.states.length (bD false)))]:=by
    have e:((List.range l.states.length).map (outN l lo (endN l l.states.length) 0)).map (fun b=>[bD b])=List.replicate l.states.length [bD false]:=by
     rw [List.map_map,List.eq_replicate_iff]
     exact ⟨by simp,fun y hy=>by obtain ⟨i,_,rfl⟩:=List.mem_map.1 hy;rfl⟩
    show RowIs _ _ (List.map _ _) _ _
    rw [e]
    exact bT2 _ _ _ _ (by unfold maxLen;omega)
   refine CE.own (bC2 l k2 hmv hn (by omega) l.states.length k1 (endN l l.states.length) lo b b7 _ _ hr0) (cm6 _ _ _) (fun s'=>s' ++ []) (fun s'=>List.Perm.refl _) ?_
   rintro _ _ ⟨s2,rfl,rfl,h2⟩
   rw [hrr] at h2
   repeat' first|refine sk51 ?_|(intro b;conv=>whnf)|((with_reducible refine' Ot.yd ?hydn ?_);(case hydn=>(refine aq6 aa0 rfl rfl rfl rfl rfl ?_ ?_ <;> omega)))|((with_reducible refine Br.t ?h ?_);(case h=>first|exact decide_eq_true trivial|exact beq_self_eq_true _))|((with_reducible refine Br.f ?h ?_);(case h=>first|exact Bool.not_true|exact decide_eq_false not_false))
   exact Rt.vs ((Vs.row h2 (cm5 _ _ _)).trans (Vs.drop (List.nil_sublist _)))
 ·have hR:au4 l lo hi=[]:=by
   unfold au4
   rw [if_neg]
   intro h
   simp only [Bool.and_eq_true,decide_eq_true_eq] at h
   rw [← hok,decide_eq_true_eq] at h
   omega
  rw [hR]
  refine eP7 Tryz.func121 Tryz.ntmps121 fun BB=>?_
  repeat' first|refine sk51 ?_|(intro b;conv=>whnf)|((with_reducible refine' Ot.yd ?hydn ?_);(case hydn=>(refine aq6 aa0 rfl rfl rfl rfl rfl ?_ ?_ <;> omega)))|((with_reducible refine Br.t ?h ?_);(case h=>first|exact decide_eq_true trivial|exact beq_self_eq_true _))|((with_reducible refine Br.f ?h ?_);(case h=>first|exact Bool.not_true|exact decide_eq_false not_false))|(with_reducible refine Br.d (fun hc=>?_) (fun hc=>?_))|(with_reducible refine Br.b (fun hc=>?_) (fun hc=>?_))
  all_goals first|exact Rt.le (af6 _)|(exfalso;omega)
end
section
open Go
theorem ce8 {x:Sch} {k f:Nat} {kd:Knd} {d:Fld} (hk:x.kinds[k]?=some kd) (hf:kd.fields[f]?=some d):fieldAt x k f=some d:=by
 simp [fieldAt,ad5,hk,hf]
theorem aO7 {x:Sch} {k:Nat} {kd:Knd} (hk:x.kinds[k]?=some kd):ad5 x k=some kd:=by simp [ad5,hk]
theorem bZ7 {x:Sch} (h:ah6 x=[]) {k f:Nat} {kd:Knd} {d:Fld} (hk:x.kinds[k]?=some kd) (hf:kd.fields[f]?=some d) (h4:d.kind=4):isE d.of=true∨∃ q:Nat,aa3 kd d.of=q∧q<f:=by
 have h5:=(au2 h hk hf).2
 unfold ac3 at h5
 rw [if_neg (by omega),if_neg (by omega),if_neg (by omega),if_pos h4] at h5
 unfold dayE at h5
 rw [aO7 hk] at h5
 simp only at h5
 cases he:isE d.of with
 | true=>exact .inl rfl
 | false=>
  rw [if_neg (by rw [he];decide)] at h5
  split at h5
  ·omega
  ·exact .inr ⟨(aa3 kd d.of).toNat,by omega,by omega⟩
theorem bJ7 {x:Sch} (h:ah6 x=[]) {k f:Nat} {kd:Knd} {d:Fld} (hk:x.kinds[k]?=some kd) (hf:kd.fields[f]?=some d) (h4:d.kind=5):x.lives.any (fun l=>seq l.name d.of)=true:=by
 have h5:=(au2 h hk hf).2
 unfold ac3 at h5
 rw [if_neg (by omega),if_neg (by omega),if_neg (by omega),if_neg (by omega),if_pos h4] at h5
 split at h5
 ·assumption
 ·omega
theorem bU0 {x:Sch} {k f:Nat} {kd:Knd} {d:Fld} (hk:x.kinds[k]?=some kd) (hf:kd.fields[f]?=some d) (h7:d.kind=7∨d.kind=8) (hu:0≤upIx x k f):∃ (u:Nat) (g:Fld),aa3 kd d.up=u∧u<f∧kd.fields[u]?=some g∧g.kind=1∧upIx x k u=upIx x k f:=by
 have e:upIx x k f=as7 x k (aD6 x k f d):=by unfold upIx;rw [ce8 hk hf];simp only;rw [if_pos h7]
 rw [e] at hu
 have e2:aD6 x k f d=ax2 (aa3 kd d.up) f (fieldAt x k (aa3 kd d.up)):=by unfold aD6;rw [aO7 hk]
 cases h1:fieldAt x k (aa3 kd d.up) with
 | none=>rw [e2,h1] at hu;simp [ax2,as7] at hu
 | some g=>
  rw [e2,h1] at hu
  by_cases h2:aa3 kd d.up<(f:Int)∧g.kind=1
  ·have h3:0≤aa3 kd d.up:=by
    by_cases h3:0≤aa3 kd d.up
    ·exact h3
    ·unfold fieldAt at h1;rw [aO7 hk] at h1;simp only at h1;rw [if_neg h3] at h1;cases h1
   obtain ⟨u,hu2⟩:∃ u:Nat,aa3 kd d.up=u:=⟨_,(Int.toNat_of_nonneg h3).symm⟩
   have hg:kd.fields[u]?=some g:=by rw [hu2] at h1;unfold fieldAt at h1;rw [aO7 hk] at h1;simpa using h1
   refine ⟨u,g,hu2,by omega,hg,h2.2,?_⟩
   rw [e,e2,h1]
   unfold upIx
   rw [ce8 hk hg]
   simp only [ax2,if_pos h2,as7]
   rw [if_neg (by omega),if_pos h2.2]
  ·rw [ax2,if_neg h2] at hu;simp [as7] at hu
theorem bZ8 {x:Sch} (h:ah6 x=[]) {k f:Nat} {kd:Knd} {d:Fld} (hk:x.kinds[k]?=some kd) (hf:kd.fields[f]?=some d) (h7:d.kind=7∨d.kind=8):0≤upIx x k f∧az6 x k f d (upIx x k f)=0:=by
 have h5:=(au2 h hk hf).2
 unfold ac3 at h5
 rw [if_neg (by omega),if_neg (by omega),if_neg (by omega),if_neg (by omega),if_neg (by omega),if_neg (by omega)] at h5
 refine ⟨?_,h5⟩
 unfold az6 at h5
 split at h5
 ·omega
 ·omega
theorem bJ9 {x:Sch} (h:ah6 x=[]) {k f:Nat} {kd:Knd} {d:Fld} (hk:x.kinds[k]?=some kd) (hf:kd.fields[f]?=some d) (h8:d.kind=8) :
  ∃ (u:Nat) (g:Fld) (o:Nat) (ko:Knd) (q:Nat),aa3 kd d.up=u∧u<f∧kd.fields[u]?=some g∧g.kind=1∧upIx x k u=o∧x.kinds[o]?=some ko∧aa3 ko d.of=q∧q<ko.fields.length:=by
 obtain ⟨h1,h2⟩:=bZ8 h hk hf (.inr h8)
 obtain ⟨u,g,e1,e2,e3,e4,e5⟩:=bU0 hk hf (.inr h8) h1
 obtain ⟨o,ko,e6,e7⟩:=bv4 x k f h1
 have h3:¬ aa3 ko d.of<0:=by
  intro hn
  unfold az6 at h2
  rw [if_neg (by omega),if_neg (by omega)] at h2
  have:abvR x k f d=(-1,aD4):=by
   unfold abvR topF
   rw [if_neg (by omega),e6,aO7 e7]
   simp only
   unfold fieldAt
   rw [aO7 e7]
   simp only
   rw [if_neg (by omega)]
  rw [this,if_pos (.inl (by decide))] at h2
  omega
 have h4:aa3 ko d.of<ko.fields.length:=aw5 _ _
 exact ⟨u,g,o,ko,(aa3 ko d.of).toNat,e1,e2,e3,e4,by rw [e5,e6],e7,by omega,by omega⟩
theorem bx4 {x:Sch} (h:ah6 x=[]) {k f:Nat} {kd:Knd} {d:Fld} (hk:x.kinds[k]?=some kd) (hf:kd.fields[f]?=some d) (h6:d.kind=6) :
  ∃ (o s:Nat) (ko:Knd) (g:Fld) (u:Nat) (r:Fld),aq4 x k f=((o:Int),(s:Int))∧x.kinds[o]?=some ko∧ko.fields[s]?=some g∧aa3 ko g.up=u∧ko.fields[u]?=some r∧r.kind=1∧upIx x o u=k:=by
 have h5:=(au2 h hk hf).2
 unfold ac3 at h5
 rw [if_neg (by omega),if_neg (by omega),if_neg (by omega),if_neg (by omega),if_neg (by omega),if_pos h6] at h5
 split at h5
 ·omega
 rename_i h1
 split at h5
 ·rename_i h2
  unfold aq3 at h1 h2
  split at h1
  ·simp at h1
  rename_i h3
  rw [if_neg h3] at h2
  simp only at h1 h2
  have hki:ab1 x d.of<x.kinds.length:=aw5 _ _
  obtain ⟨o,ho⟩:∃ o:Nat,ab1 x d.of=o:=⟨_,(Int.toNat_of_nonneg (by omega)).symm⟩
  obtain ⟨ko,hko⟩:∃ ko,x.kinds[o]?=some ko:=⟨_,List.getElem?_eq_getElem (by omega)⟩
  obtain ⟨s,hs⟩:=List.length_eq_one_iff.1 h2
  have hm:s∈as4 x k d:=by rw [hs];exact List.mem_singleton.2 rfl
  unfold as4 at hm
  rw [ho,aO7 hko] at hm
  simp only [List.mem_map,List.mem_filter,List.mem_range] at hm
  obtain ⟨sn,⟨hsl,hq⟩,rfl⟩:=hm
  obtain ⟨g,hg⟩:∃ g,ko.fields[sn]?=some g:=⟨_,List.getElem?_eq_getElem hsl⟩
  rw [hg] at hq
  simp only [Bool.and_eq_true,decide_eq_true_eq] at hq
  obtain ⟨⟨q1,q2⟩,q3⟩:=hq
  obtain ⟨u,r,e1,e2,e3,e4,e5⟩:=bU0 hko hg (.inl q1) (by omega)
  refine ⟨o,sn,ko,g,u,r,?_,hko,hg,e1,e3,e4,by rw [e5,q3]⟩
  unfold aq4
  rw [ce8 hk hf]
  simp only
  unfold aq3
  rw [if_neg h3,hs,ho]
  rfl
 ·omega
theorem bJ8 {x:Sch} (h:ah6 x=[]) {i k:Nat} {q:Rul} {kd:Knd} (hq:x.rules[i]?=some q) (hk:ab1 x q.kind=(k:Int)) (hkd:x.kinds[k]?=some kd):(isE q.a=true∨0≤aa3 kd q.a)∧(isE q.b=true∨0≤aa3 kd q.b):=by
 have h1:au3 x i q=0:=by
  have h0:=h
  unfold ah6 at h0
  split at h0
  ·simp only [List.append_eq_nil_iff] at h0
   have h2:=aH6 h0.2 i (List.getElem?_eq_some_iff.1 hq).1
   simp only [aK5,hq] at h2
   exact bg5 h2
  ·cases h0
 unfold au3 at h1
 rw [hk,aO7 hkd] at h1
 simp only at h1
 have key:∀ nm:ByteArray,ae4 x kd k nm=false→isE nm=true∨0≤aa3 kd nm:=fun nm hn=>by
  unfold ae4 at hn
  cases he:isE nm with
  | true=>exact .inl rfl
  | false=>
   rw [he] at hn
   refine .inr ?_
   by_cases h3:0≤aa3 kd nm
   ·exact h3
   ·exfalso
    have:atR x k (aa3 kd nm)=(aD4,false):=by unfold atR fieldAt;rw [aO7 hkd];simp only;rw [if_neg h3]
    rw [this] at hn
    cases hn
 cases ha:ae4 x kd k q.a with
 | true=>
  exfalso
  rw [ha,Bool.true_or] at h1
  generalize ae1 x i q=t at h1
  cases t <;> simp [ak3] at h1
 | false=>
  cases hb:ae4 x kd k q.b with
  | true=>
   exfalso
   rw [ha,hb,Bool.or_true] at h1
   generalize ae1 x i q=t at h1
   cases t <;> simp [ak3] at h1
  | false=>exact ⟨key _ ha,key _ hb⟩
end
section
open Go Go.Maps Go.MapKept
theorem bl4 (l:List Int) (v:Int) (hl:l.length≤1000000):APure Tryz.prog 171 [slI l,iD v] (iD (idx (fun y=>decide (v=y)) l)):=by
 refine eP7 Tryz.func171 Tryz.ntmps171 fun BB=>?_
 repeat' first|refine sk2 ?_|(intro b;conv=>whnf)
 refine ae2 mixed aa0 (γ:=Nat) (fun k=>[(8,iD k)]) (fun _=>[]) (fun k=>k≤l.length∧∀ i y,i<k→l[i]?=some y→decide (v=y)=false) (fun k=>l.length - k) 0 rfl rfl ⟨by omega,by omega⟩ ?_
 rintro k ⟨hk,hno⟩
 by_cases hlt:k<l.length
 ·obtain ⟨y,hy⟩:∃ y,l[(k:Int).toNat]?=some y:=⟨_,List.getElem?_eq_getElem hlt⟩
  by_cases hv:v=y
  ·repeat' first|refine sk2 ?_|(intro b;conv=>whnf)
   refine Rt.pure (congrArg iD ?_)
   exact (ac5 (p:=fun y=>decide (v=y)) hy (decide_eq_true hv) hno).symm
  ·repeat' first|refine sk2 ?_|(intro b;conv=>whnf)
   exact ⟨k+1,rfl,rfl,⟨by omega,fun i z hi hz=>by
    by_cases e:i=k
    ·subst e;rw [show ((i:Int)).toNat=i from rfl,hz] at hy;cases hy;exact decide_eq_false hv
    ·exact hno i z (by omega) hz⟩,by omega⟩
 ·repeat' first|refine sk2 ?_|(intro b;conv=>whnf)
  refine Rt.pure (congrArg iD ?_)
  exact (ag5 fun i y hy=>hno i y (by have:=(List.getElem?_eq_some_iff.1 hy).1;omega) hy).symm
theorem sk52 {A B:Prop} (k:B) (h:Hd7 B→A:=by intro hk7q;(first|refine sb0 ?_|refine sb1 ?_|((with_reducible refine' Cp.by ?hc ?_);(case hc=>exact bl4 l v hl))|((with_reducible refine' CE.pure ?hc ?_);(case hc=>exact bl4 l v hl)));exact hk7q.run):A:=h ⟨k⟩
theorem bf9 (l:List Int) (v:Int) (hl:l.length≤1000000):APure Tryz.prog 122 [slI l,iD v] (bD (l.any fun y=>decide (v=y))):=by
 refine eP7 Tryz.func122 Tryz.ntmps122 fun BB=>?_
 repeat' first|refine sk52 ?_|(intro b;conv=>whnf)
 refine Rt.pure (congrArg bD ?_)
 exact ai2 _ l
def aP1 (l:List Bool):List Int:=((List.range l.length).filter fun i=>l.getD i false).map fun (i:Nat)=>(i:Int)
theorem bq3 (l:List Bool) (v:Int):(aP1 l).any (fun y=>decide (v=y))=(l.getD v.toNat false && decide (0≤v)):=by
 rw [Bool.eq_iff_iff]
 simp only [List.any_eq_true,aP1,List.mem_map,List.mem_filter,List.mem_range,decide_eq_true_eq,Bool.and_eq_true]
 constructor
 ·rintro ⟨y,⟨i,⟨_,h2⟩,rfl⟩,rfl⟩
  exact ⟨by rw [Int.toNat_natCast];exact h2,by omega⟩
 ·rintro ⟨h1,h2⟩
  refine ⟨v,⟨v.toNat,⟨?_,h1⟩,by omega⟩,rfl⟩
  by_cases h:v.toNat<l.length
  ·exact h
  ·rw [List.getD_eq_getElem?_getD,List.getElem?_eq_none_iff.2 (by omega)] at h1;cases h1
theorem bJ0 (l:List Bool) (hl:l.length≤1000):APure Tryz.prog 123 [slB l] (slI (aP1 l)):=by
 refine eP7 Tryz.func123 Tryz.ntmps123 fun BB=>?_
 repeat' first|refine sk2 ?_|(intro b;conv=>whnf)
 refine aa5 mixed aa0 (γ:=Nat × Value × aa1) (fun g=>[(3,.v g.2.1),(8,iD g.1)]) (fun g=>g.2.2) (fun g=>g.1≤l.length∧RowR 3 iD (((List.range g.1).filter fun i=>l.getD i false).map fun (i:Nat)=>(i:Int)) g.2.1 g.2.2) (fun g=>l.length - g.1) (0,.slice none 0 0,[]) (aa2 cl3) (Sc.refl _) ⟨Nat.zero_le _,RowIs.nil _ _⟩ ?_
 rintro ⟨j,v,r⟩ ⟨hj,hrow⟩
 simp only at hj hrow ⊢
 by_cases hjl:j<l.length
 ·obtain ⟨m,hm⟩:∃ m,l[j]?=some m:=⟨_,List.getElem?_eq_getElem hjl⟩
  have hm':l[((j:Nat):Int).toNat]?=some m:=hm
  have hlen2:((List.range (j+1)).filter fun i=>l.getD i false).length≤1000:=Nat.le_trans (List.length_filter_le ..) (by rw [List.length_range];omega)
  have hlen:((List.range j).filter fun i=>l.getD i false).length≤1000:=Nat.le_trans (List.length_filter_le ..) (by rw [List.length_range];omega)
  cases m with
  | true=>
   repeat' first|refine sk2 ?_|(intro b;conv=>whnf)
   refine Ap.go rfl rfl rfl rfl hrow (by simp:r.Perm (r ++ [])) rfl (zs:=(((List.range (j+1)).filter fun i=>l.getD i false).map fun (i:Nat)=>(i:Int)).map fun b=>[iD b]) (by rw [List.range_succ,List.filter_append,List.map_append,List.map_append];simp [hm]) (by simp only [List.length_map];omega) (by simp only [List.length_map];omega) (fun s'=>s') (fun s'=>by simp) (fun a3 c3 s3 h3=>?_)
   repeat' first|refine sk2 ?_|(intro b;conv=>whnf)
   exact ⟨(j+1,_,s3),(aa2 cl3),Sc.refl _,⟨by simp only;omega,h3⟩,by simp only;omega⟩
  | false=>
   repeat' first|refine sk2 ?_|(intro b;conv=>whnf)
   exact ⟨(j+1,v,r),(aa2 cl3),Sc.refl _,⟨by simp only;omega,by rw [List.range_succ,List.filter_append];simpa [hm] using hrow⟩,by simp only;omega⟩
 ·obtain rfl:j=l.length:=by omega
  repeat' first|refine sk2 ?_|(intro b;conv=>whnf)
  exact Rt.vs (Vs.row hrow (by simp:r.Perm (r ++ [])))
/-! ### keeps -/
theorem bP2 {kd:Knd} {nm:ByteArray} {r:List Int} (hr:r.length=kd.fields.length) (h:0≤aa3 kd nm):∃ (q:Nat) (z:Int),aa3 kd nm=q∧r[q]?=some z∧vatR r (aa3 kd nm)=z:=by
 have h1:aa3 kd nm<kd.fields.length:=aw5 _ _
 obtain ⟨q,hq⟩:∃ q:Nat,aa3 kd nm=q:=⟨_,(Int.toNat_of_nonneg h).symm⟩
 obtain ⟨z,hz⟩:∃ z,r[q]?=some z:=⟨_,List.getElem?_eq_getElem (by omega)⟩
 exact ⟨q,z,hq,hz,by unfold vatR;rw [hq,Int.toNat_natCast,aa6 hz]⟩
theorem sk53 {A B:Prop} (k:B) (h:Hd7 B→A:=by intro hk7q;(first|refine sb0 ?_|refine sb1 ?_|((with_reducible refine' Cp.by ?hc ?_);(case hc=>exact HF))|((with_reducible refine' CE.pure ?hc ?_);(case hc=>exact HF)));exact hk7q.run):A:=h ⟨k⟩
theorem aY1 (kd:Knd) (r:List Int) (nm:ByteArray) (hr:r.length=kd.fields.length) (hl:kd.fields.length≤1000) (h:isE nm=true∨0≤aa3 kd nm):APure Tryz.prog 126 [sD nm,.ro [slI r],.ro (kndC kd)] (iD (getR kd r nm)):=by
 have HF:=ad3 kd nm (by omega)
 unfold getR
 cases he:isE nm with
 | true=>
  rw [if_pos rfl]
  have he':(nm.toList == (⟨#[]⟩:ByteArray).toList)=true:=by rw [eqE];exact he
  refine eP7 Tryz.func126 Tryz.ntmps126 fun BB=>?_
  repeat' first|refine sk53 ?_|(intro b;conv=>whnf)
  exact Rt.pure rfl
 | false=>
  rw [if_neg (by decide)]
  have he':(nm.toList == (⟨#[]⟩:ByteArray).toList)=false:=by rw [eqE];exact he
  rw [he] at h
  obtain ⟨q,z,e1,e2,e3⟩:=bP2 hr (h.resolve_left (by decide))
  have e2':r[((q:Nat):Int).toNat]?=some z:=e2
  rw [e3]
  rw [e1] at HF
  refine eP7 Tryz.func126 Tryz.ntmps126 fun BB=>?_
  repeat' first|refine sk53 ?_|(intro b;conv=>whnf)
  exact Rt.pure rfl
theorem sk54 {A B:Prop} (k:B) (h:Hd7 B→A:=by intro hk7q;(first|refine sb0 ?_|refine sb1 ?_|((with_reducible refine' Cp.by ?hc ?_);(case hc=>first|exact HA|exact HB))|((with_reducible refine' CE.pure ?hc ?_);(case hc=>first|exact HA|exact HB)));exact hk7q.run):A:=h ⟨k⟩
theorem bJ1 (kd:Knd) (r:List Int) (q:Rul) (hr:r.length=kd.fields.length) (hl:kd.fields.length≤1000) (ha:isE q.a=true∨0≤aa3 kd q.a) (hb:isE q.b=true∨0≤aa3 kd q.b) (hn:InR (getR kd r q.b+q.n)):APure Tryz.prog 69 [kndD kd,slI r,rulD q] (bD (bo0 kd r q)):=by
 have HA:=aY1 kd r q.a hr hl ha
 have HB:=aY1 kd r q.b hr hl hb
 refine eP7 Tryz.func69 Tryz.ntmps69 fun BB=>?_
 repeat' first|refine sk54 ?_|(intro b;conv=>whnf)
 refine Rt.pure (congrArg bD ?_);rfl
/-! ### up -/
theorem sk55 {A B:Prop} (k:B) (h:Hd7 B→A:=by intro hk7q;(first|refine sb0 ?_|refine sb1 ?_|((with_reducible refine' Cp.by ?hc ?_);(case hc=>first|exact HF|exact HU))|((with_reducible refine' CE.pure ?hc ?_);(case hc=>first|exact HF|exact HU)));exact hk7q.run):A:=h ⟨k⟩
theorem cv4 {x:Sch} {w:Wd} {k u:Nat} {kd:Knd} (L:List Rf) (rm lm:Nat) (v:Value) (d:Fld) (r:List Int) (z:Int) (hk:x.kinds[k]?=some kd) (hu:aa3 kd d.up=(u:Int)) (hz:r[u]?=some z) (hnk:x.kinds.length≤1000000) (hnf:∀ k∈x.kinds,k.fields.length≤1000000) (hrl:r.length≤1000000) :
  APure Tryz.prog 125 [.ro (ckC x w L rm lm v),iD k,slI r,fldD d] (.tup [iD (upIx x k u),iD z]):=by
 have hk':x.kinds[((k:Nat):Int).toNat]?=some kd:=hk
 have hz':r[((u:Nat):Int).toNat]?=some z:=hz
 have hkl:=(List.getElem?_eq_some_iff.1 hk).1
 have HF:=ad3 kd d.up (by have:=hnf kd (List.mem_of_getElem? hk);omega)
 rw [hu] at HF
 have HU:=aw7 x k u (by omega) hnf
 refine eP7 Tryz.func125 Tryz.ntmps125 fun BB=>?_
 repeat' first|refine sk55 ?_|(intro b;conv=>whnf)
 exact Rt.pure rfl
end
section
open Go Go.Maps Go.MapKept
theorem bZ3 {l:List Int} (h:∀ z∈l,-1099511627776≤z∧z≤1099511627776):-1099511627776*(l.length:Int)≤l.sum∧l.sum≤1099511627776*(l.length:Int):=by
 induction l with
 | nil=>simp
 | cons a l ih=>
  have h1:=h a List.mem_cons_self
  have h2:=ih fun z hz=>h z (List.mem_cons_of_mem _ hz)
  simp only [List.sum_cons,List.length_cons]
  omega
theorem bl7 {x:Sch} {q f:Nat} {kd:Knd} {g:Fld} (hk:x.kinds[q]?=some kd) (hf:kd.fields[f]?=some g) (h1:g.kind=1):(⟨q,f,upIx x q f,g.lo⟩:Rf)∈aa4 x:=by
 unfold aa4
 refine av5.2 ⟨q,(List.getElem?_eq_some_iff.1 hk).1,?_⟩
 unfold refK
 rw [hk]
 refine av5.2 ⟨f,(List.getElem?_eq_some_iff.1 hf).1,?_⟩
 unfold refF
 rw [hf]
 simp [h1]
def sumI (rows:List (List Int)) (s:Nat) (js:List Int):Int:=(js.map fun j=>(rows.getD j.toNat []).getD s 0).sum
theorem aZ0 (rows:List (List Int)) (s:Nat) (js:List Int) (j:Int):sumI rows s (js ++ [j])=sumI rows s js+(rows.getD j.toNat []).getD s 0:=by simp [sumI]
theorem bw8 (rows:List (List Int)) (s:Nat) (hb:∀ r∈rows,∀ n∈r,-1099511627776≤n∧n≤1099511627776) (js:List Int):-1099511627776*(js.length:Int)≤sumI rows s js∧sumI rows s js≤1099511627776*(js.length:Int):=by
 unfold sumI
 have h:=bZ3 (l:=js.map fun j=>(rows.getD j.toNat []).getD s 0) fun z hz=>by
  obtain ⟨j,_,rfl⟩:=List.mem_map.1 hz
  rw [List.getD_eq_getElem?_getD,List.getD_eq_getElem?_getD]
  cases h1:rows[j.toNat]? with
  | none=>simp
  | some r=>
   simp only [Option.getD_some]
   cases h2:r[s]? with
   | none=>simp
   | some n=>exact hb r (List.mem_of_getElem? h1) n (List.mem_of_getElem? h2)
 rw [List.length_map] at h
 exact h
theorem aJ5 (rows:List (List Int)) (u s i:Nat) (hb:∀ r∈rows,∀ n∈r,-1099511627776≤n∧n≤1099511627776) (hl:rows.length≤1000):∀ j,j≤rows.length→aP5 (rows.take j) u s i=sumI rows s (idxs (rows.take j) u i)
 | 0,_=>rfl
 | j+1,h=>by
  obtain ⟨r,hr⟩:∃ r,rows[j]?=some r:=⟨_,List.getElem?_eq_getElem (by omega)⟩
  have ih:=aJ5 rows u s i hb hl j (by omega)
  have hlt:(rows.take j).length=j:=by rw [List.length_take];omega
  rw [ac7 hr,aM5,hlt]
  unfold aP5 at ih ⊢
  rw [List.foldl_append,ih]
  simp only [List.foldl_cons,List.foldl_nil]
  by_cases h1:r.getD u 0=(i:Int)
  ·rw [if_pos h1,if_pos h1,aZ0,Int.toNat_natCast,aa6 hr]
   have h2:=bw8 rows s hb (idxs (rows.take j) u i)
   have h3:(idxs (rows.take j) u i).length≤1000:=by
    rw [aC5]
    have:=List.countP_le_length (p:=fun r':List Int=>decide (r'.getD u 0=(i:Int))) (l:=rows.take j)
    omega
   have h4:-1099511627776≤r.getD s 0∧r.getD s 0≤1099511627776:=by
    rw [List.getD_eq_getElem?_getD]
    cases h2:r[s]? with
    | none=>simp
    | some n=>exact hb r (List.mem_of_getElem? hr) n (List.mem_of_getElem? h2)
   rw [IntKind.wrap_i64]
   omega
  ·rw [if_neg h1,if_neg h1]
theorem bO7 {rows:List (List Int)} {u i:Nat} {n:Int} (h:n∈idxs rows u i):∃ q:Nat,n=q∧q<rows.length:=by
 unfold idxs at h
 obtain ⟨p,hp,rfl⟩:=List.mem_map.1 h
 have h1:=(List.mem_filter.1 hp).1
 have h2:=List.mem_zipIdx' h1
 exact ⟨p.2,rfl,h2.1⟩
theorem sk56 {A B:Prop} (k:B) (h:Hd7 B→A:=by intro hk7q;(first|refine sb0 ?_|refine sb1 ?_|((with_reducible refine' Cp.by ?hc ?_);(case hc=>first|exact HS|exact HF))|((with_reducible refine' CE.pure ?hc ?_);(case hc=>first|exact HS|exact HF)));exact hk7q.run):A:=h ⟨k⟩
theorem sq2 {A B:Prop} (k:B) (h:Hd7 B→A:=by intro hk7q;(first|refine sk56 ?_|(with_reducible refine Br.t (beq_self_eq_true _) ?_));exact hk7q.run):A:=h ⟨k⟩
theorem cj6 (x:Sch) (w:Wd) (hw:Ws w) (hp:ah6 x=[]) (hfit:fitW x w=true) (k i f:Nat) (kd:Knd) (d:Fld) (lk:List (List Int)) (hk:x.kinds[k]?=some kd) (hf:kd.fields[f]?=some d) (h6:d.kind=6) (hlk:w[k]?=some lk) (hi:i<lk.length) (F:Value→Option Value) (sa:aa1) (hA:AdjS w F (aa4 x) sa) (c rm lm:Nat) (v:Value) :
  ACall Tryz.prog 124 [.v (.pointer (some ⟨c,0,none⟩)),iD k,iD i,iD f] ((c,.cells 145 (ckC x w (aa4 x) rm lm v)) :: (rm,.obj (MapO Tryz.prog 147 F)) :: sa) (fun d' σ'=>d'=iD (sumAt x w k i f)∧σ'=(c,.cells 145 (ckC x w (aa4 x) rm lm v)) :: (rm,.obj (MapO Tryz.prog 147 F)) :: sa):=by
 obtain ⟨o,s,ko,g,u,r,e1,e2,e3,e4,e5,e6,e7⟩:=bx4 hp hk hf h6
 have hV:=(aF0 hp).vld
 have hnk:=hV.nk
 have hnf:∀ k∈x.kinds,k.fields.length≤1000000:=fun k hk=>by have:=hV.nf k hk;omega
 obtain ⟨hlen,hrows,hrefs⟩:=ak8 hfit
 have hol:=(List.getElem?_eq_some_iff.1 e2).1
 have hkl:=(List.getElem?_eq_some_iff.1 hk).1
 have hsl:=(List.getElem?_eq_some_iff.1 e3).1
 have hwl:=hw.nk
 obtain ⟨lo,hlo⟩:∃ l,w[o]?=some l:=⟨_,List.getElem?_eq_getElem (by omega)⟩
 have hlo':w[((o:Nat):Int).toNat]?=some lo:=hlo
 have hko':x.kinds[((o:Nat):Int).toNat]?=some ko:=e2
 have hgs':ko.fields[((s:Nat):Int).toNat]?=some g:=e3
 have hrr:=ak5 (hrows _ _ hlo)
 have hkol:=hnf ko (List.mem_of_getElem? e2)
 have hlll:=hw.nr lo (List.mem_of_getElem? hlo)
 have hlkl:=hw.nr lk (List.mem_of_getElem? hlk)
 have hbnd:∀ r∈lo,∀ n∈r,-1099511627776≤n∧n≤1099511627776:=fun r hr=>(ao0 e2 (hrr.2 r hr)).2
 have hS:sumAt x w k i f=sumI lo s (idxs lo u i):=by
  have h:=aJ5 lo u s i hbnd hlll lo.length (Nat.le_refl _)
  rw [List.take_length] at h
  rw [← h]
  unfold sumAt
  rw [e1]
  simp only [Int.toNat_natCast]
  rw [aa6 hlo]
  have:upOf x o s=u:=by unfold upOf;rw [e2];simp only;rw [e3];simp only;rw [e4];rfl
  rw [this]
 rw [hS]
 have HS:=bw2 x k f (by omega) hnf
 rw [e1] at HS
 have HF:=ad3 ko g.up (by omega)
 rw [e4] at HF
 have hrf:=bl7 e2 e5 e6
 rw [e7] at hrf
 obtain ⟨q,hq⟩:=List.getElem?_of_mem hrf
 obtain ⟨va,ta,τa,hFv,hRW,hpa⟩:=hA.at hq
 have hul:=(List.getElem?_eq_some_iff.1 e5).1
 obtain ⟨kl,hkl2⟩:=bn5 (show (Lit.int .i64 (o:Int)).wf=true from wf64 (by omega) (by omega)) (show (Lit.int .i64 (u:Int)).wf=true from wf64 (by omega) (by omega)) (show (Lit.int .i64 (k:Int)).wf=true from wf64 (by omega) (by omega))
 have hadj:adjR w ⟨o,u,k,r.lo⟩=adjL lo u lk.length:=by unfold adjR;simp only [Int.toNat_natCast];rw [aa6 hlo,aa6 hlk]
 rw [hadj] at hRW
 obtain ⟨b0,cap0,cs0,v0,t0,τ0,rfl,p0,c0,hu0,_⟩:=RowsOf.at hRW (aw2 (f:=u) lo hi)
 rw [ap3] at *
 have hidl:(idxs lo u i).length≤1000:=by
  rw [aC5]
  have:=List.countP_le_length (p:=fun r':List Int=>decide (r'.getD u 0=(i:Int))) (l:=lo)
  omega
 have hid:∀ n∈idxs lo u i,∃ q:Nat,n=q∧q<lo.length:=fun n hn=>bO7 hn
 generalize idxs lo u i=js at *
 have m0:(b0,Blk.cells 22 cs0)∈sa:=hpa.mem_iff.2 (List.mem_append_left _ (p0.mem_iff.2 List.mem_cons_self))
 have mt:∀ z∈t0,z∈sa:=fun z hz=>hpa.mem_iff.2 (List.mem_append_left _ (p0.mem_iff.2 (List.mem_cons_of_mem _ (List.mem_append_left _ hz))))
 obtain ⟨a1,ca1,rfl⟩:=RowIs.slice hu0
 rw [List.length_map] at *
 refine eC7 Tryz.func124 Tryz.ntmps124 fun BB=>?_
 repeat' first|refine sq2 ?_|(intro b;conv=>whnf)
 refine Ot.yd (ar2 (kv:=lnV ⟨o,u,k,r.lo⟩) (u:=.slice (some ⟨b0,0,none⟩) lk.length cap0) rfl rfl (KeyD.agg3 _ _ _) (List.mem_cons_of_mem _ (List.mem_cons_of_mem _ List.mem_cons_self)) (fun _ h=>h) aI3 Tryz.underlying142 bf1 hkl2 (by rw [hFv];rfl)) ?_
 repeat' first|refine sq2 ?_|(intro b;conv=>whnf)
 refine Ld.cellm (tb:=22) (cs:=cs0) (List.mem_cons_of_mem _ (List.mem_cons_of_mem _ (List.mem_cons_of_mem _ m0))) (by rw [ix1];exact c0) ?_
 repeat' first|refine sq2 ?_|(intro b;conv=>whnf)
 refine aa5 mixed aa0 (γ:=Nat) (fun j=>[(12,iD (sumI lo s (js.take j))),(60,iD j)]) (fun _=>(c,.cells 145 (ckC x w (aa4 x) rm lm v)) :: (rm,.obj (MapO Tryz.prog 147 F)) :: sa) (fun j=>j≤js.length) (fun j=>js.length - j) 0 (aa2 cl3) (Sc.sl (List.sublist_cons_self _ _)) (Nat.zero_le _) ?_
 intro j hj
 simp only at hj ⊢
 by_cases hjl:j<js.length
 ·obtain ⟨n,hn⟩:∃ n,js[j]?=some n:=⟨_,List.getElem?_eq_getElem hjl⟩
  obtain ⟨b1,cap1,cs1,e9,rfl,hc1,_⟩:=am4 (g:=iD) (show RowR 3 iD js _ t0 from hu0) hn
  obtain ⟨rfl,_,rfl⟩:=Value.slice.inj e9
  clear e9
  have m1:=mt _ (List.mem_singleton.2 rfl)
  obtain ⟨nn,rfl,hnl⟩:=hid n (List.mem_of_getElem? hn)
  obtain ⟨y,hy⟩:∃ y,lo[nn]?=some y:=⟨_,List.getElem?_eq_getElem hnl⟩
  have hy':lo[((nn:Nat):Int).toNat]?=some y:=hy
  have hym:=List.mem_of_getElem? hy
  have hyr:=ao0 e2 (hrr.2 y hym)
  obtain ⟨z,hz⟩:∃ z,y[s]?=some z:=⟨_,List.getElem?_eq_getElem (by omega)⟩
  have hz':y[((s:Nat):Int).toNat]?=some z:=hz
  have hzb:=hyr.2 z (List.mem_of_getElem? hz)
  have hyl:=hw.nf lo (List.mem_of_getElem? hlo) y hym
  have hsn:sumI lo s (js.take (j+1))=sumI lo s (js.take j)+z:=by rw [ac7 hn,aZ0,Int.toNat_natCast,aa6 hy,aa6 hz]
  have hsb:=bw8 lo s hbnd (js.take j)
  have hsl2:(js.take j).length≤1000:=by rw [List.length_take];omega
  repeat' first|refine sq2 ?_|(intro b;conv=>whnf)
  refine Ld.cellm (tb:=3) (cs:=cs1) (List.mem_cons_of_mem _ (List.mem_cons_of_mem _ m1)) (by rw [ix1];exact hc1) ?_
  repeat' first|refine sq2 ?_|(intro b;conv=>whnf)
  exact ⟨j+1,by rw [hsn];exact (aa2 cl6),Sc.refl _,by omega,by omega⟩
 ·obtain rfl:j=js.length:=by omega
  rw [List.take_length]
  repeat' first|refine sq2 ?_|(intro b;conv=>whnf)
  exact Rt.same ⟨rfl,rfl⟩
end
section
open Go Go.Maps Go.MapKept
theorem bM0 {x:Sch} (hV:Vld x) {k f:Nat} {kd:Knd} {d:Fld} (hk:x.kinds[k]?=some kd) (hf:kd.fields[f]?=some d) (h3:d.kind=3):d.words.length=d.weights.length∧1≤d.words.length∧d.words.length≤12:=by
 have h:=hV.kinds kd (List.mem_of_getElem? hk)
 simp only [aj3,Bool.and_eq_true,List.all_eq_true] at h
 have h1:=h.2 d (List.mem_of_getElem? hf)
 simp only [ab3,Bool.and_eq_true] at h1
 have h2:=h1.2
 unfold ak2 at h2
 simp only [h3] at h2
 simp [ae7,aa7] at h2
 omega
theorem cc8 {x:Sch} (hV:Vld x) {k f:Nat} {kd:Knd} {d:Fld} (hk:x.kinds[k]?=some kd) (hf:kd.fields[f]?=some d) (h5:d.kind=5):d.of.size≤12:=by
 have h:=hV.kinds kd (List.mem_of_getElem? hk)
 simp only [aj3,Bool.and_eq_true,List.all_eq_true] at h
 have h1:=h.2 d (List.mem_of_getElem? hf)
 simp only [ab3,Bool.and_eq_true] at h1
 have h2:=h1.2
 unfold ak2 at h2
 simp only [h5] at h2
 simp [isNm,aa7] at h2
 omega
theorem bu5 (w:World):(zeroValue 89).run Tryz.prog w = .ok (.agg #[.string ⟨#[]⟩,.slice none 0 0,.slice none 0 0]) w:=by kernel_rfl
theorem sk57 {A B:Prop} (k:B) (h:Hd7 B→A:=by intro hk7q;(first|refine sb0 ?_|refine sb33 ?_|((with_reducible refine' Cp.by ?hc ?_);(case hc=>first|exact ah5 _ _|exact HC|exact HF|exact HW|exact HN))|((with_reducible refine' CE.pure ?hc ?_);(case hc=>first|exact ah5 _ _|exact HC|exact HF|exact HW|exact HN)));exact hk7q.run):A:=h ⟨k⟩
theorem sk58 {A B:Prop} (k:B) (h:Hd7 B→A:=by intro hk7q;(first|refine sb0 ?_|refine sb1 ?_|((with_reducible refine' Cp.by ?hc ?_);(case hc=>first|exact ah5 _ _|exact HC|exact HF|exact HW|exact HN))|((with_reducible refine' CE.pure ?hc ?_);(case hc=>first|exact ah5 _ _|exact HC|exact HF|exact HW|exact HN)));exact hk7q.run):A:=h ⟨k⟩
theorem sq3 {A B:Prop} (k:B) (h:Hd7 B→A:=by intro hk7q;(first|refine sk57 ?_|(with_reducible refine Br.t (beq_self_eq_true _) ?_)|(with_reducible refine Br.f Bool.not_true ?_));exact hk7q.run):A:=h ⟨k⟩
theorem sq4 {A B:Prop} (k:B) (h:Hd7 B→A:=by intro hk7q;(first|refine sk58 ?_|(with_reducible refine Br.t (beq_self_eq_true _) ?_)|(with_reducible refine Br.f Bool.not_true ?_));exact hk7q.run):A:=h ⟨k⟩
theorem bG0 (x:Sch) (w:Wd) (hw:Ws w) (hp:ah6 x=[]) (hfit:fitW x w=true) {k i f:Nat} {kd:Knd} {d:Fld} {l:List (List Int)} {r:List Int} {n:Int} (c bk rm lm:Nat) (v:Value) (ks:List Int) (hk:x.kinds[k]?=some kd) (hf:kd.fields[f]?=some d) (hl:w[k]?=some l) (hr:l[i]?=some r) (hv:r[f]?=some n) (F:Value→Option Value) (sa:aa1) (hA:AdjS w F (aa4 x) sa) :
  ACall Tryz.prog 68 [.v (.pointer (some ⟨c,0,none⟩)),iD k,iD i,iD f,.v (.map (some bk))] ((c,.cells 145 (ckC x w (aa4 x) rm lm v)) :: (bk,.obj (MapO Tryz.prog 3 (KF ks))) :: (rm,.obj (MapO Tryz.prog 147 F)) :: (lm,.mp Tryz.prog 9 (lvG x.lives)) :: sa)
   (fun dd σ'=>dd=iD (codeF x w k kd r i f d ks)∧σ'=(c,.cells 145 (ckC x w (aa4 x) rm lm v)) :: (bk,.obj (MapO Tryz.prog 3 (KF (keyF r f d ks)))) :: (rm,.obj (MapO Tryz.prog 147 F)) :: (lm,.mp Tryz.prog 9 (lvG x.lives)) :: sa):=by
 have hV:=(aF0 hp).vld
 have hnk:=hV.nk
 have hnf:∀ k∈x.kinds,k.fields.length≤1000000:=fun k hk=>by have:=hV.nf k hk;omega
 obtain ⟨hlen,hrows,hrefs⟩:=ak8 hfit
 have hwl:=hw.nk
 have hk':x.kinds[((k:Nat):Int).toNat]?=some kd:=hk
 have hf':kd.fields[((f:Nat):Int).toNat]?=some d:=hf
 have hl':w[((k:Nat):Int).toNat]?=some l:=hl
 have hr':l[((i:Nat):Int).toNat]?=some r:=hr
 have hv':r[((f:Nat):Int).toNat]?=some n:=hv
 have q1:=(List.getElem?_eq_some_iff.1 hk).1
 have q2:=(List.getElem?_eq_some_iff.1 hf).1
 have q3:=(List.getElem?_eq_some_iff.1 hl).1
 have q4:=(List.getElem?_eq_some_iff.1 hr).1
 have q5:=(List.getElem?_eq_some_iff.1 hv).1
 have b1:kd.fields.length≤1000000:=hnf kd (List.mem_of_getElem? hk)
 have b4:=hw.nr l (List.mem_of_getElem? hl)
 have b5:=hw.nf l (List.mem_of_getElem? hl) r (List.mem_of_getElem? hr)
 have hrr:=ao0 hk ((ak5 (hrows _ _ hl)).2 r (List.mem_of_getElem? hr))
 have hn:=hrr.2 n (List.mem_of_getElem? hv)
 have hrd:r.getD f 0=n:=aa6 hv 0
 refine eC7 Tryz.func68 Tryz.ntmps68 fun BB=>?_
 repeat' first|refine sq3 ?_|(intro b;conv=>whnf)|refine IxM.mk fun y hy=>?_|fail
 refine dr7 ?_
 refine ah2 mixed aa0 rfl [0,1,2,3,5,8,9,10,12,15] 11 (inE [4,11,18,19]) (.three 4 (.fst 6 (.fst 7 (.two 11 (.fst 13 (.fst 14 (.fst 16 (.fst 17 (.one 18 (.one 19 (.fst 20 .done))))))) 18 (.two 11 (.fst 13 (.fst 14 (.fst 16 (.fst 17 (.one 19 (.fst 20 .done)))))) 19 (.one 11 (.fst 13 (.fst 14 (.fst 16 (.fst 17 (.fst 20 .done)))))))))) 11 (.fst 13 (.fst 14 (.fst 16 (.fst 17 (.two 4 (.fst 6 (.fst 7 (.one 18 (.one 19 (.fst 20 .done))))) 18 (.one 4 (.fst 6 (.fst 7 (.one 19 (.fst 20 .done)))))))))) 18 (.two 4 (.fst 6 (.fst 7 (.two 11 (.fst 13 (.fst 14 (.fst 16 (.fst 17 (.one 19 (.fst 20 .done)))))) 19 (.one 11 (.fst 13 (.fst 14 (.fst 16 (.fst 17 (.fst 20 .done))))))))) 11 (.fst 13 (.fst 14 (.fst 16 (.fst 17 (.one 4 (.fst 6 (.fst 7 (.one 19 (.fst 20 .done))))))))))) (γ:=Nat) (fun g=>[(11,.v (.pointer (some ⟨g,0,none⟩))),(12,slI r)]) (fun g=>(g,.cells 85 (kndC kd)) :: (c,.cells 145 (ckC x w (aa4 x) rm lm v)) :: (bk,.obj (MapO Tryz.prog 3 (KF ks))) :: (rm,.obj (MapO Tryz.prog 147 F)) :: (lm,.mp Tryz.prog 9 (lvG x.lives)) :: sa) (fun _=>True) (by decide +kernel) ?_ ?_
 ·repeat' first|refine sq3 ?_|(intro b;conv=>whnf)|refine IxM.mk fun y hy=>?_|fail|(refine And.intro ?_ ?_ <;> (conv=>whnf))
  all_goals exact ⟨b,(aa2 cl3),Sc.refl _,trivial⟩
 rintro b7 -
 repeat' first|refine sq3 ?_|(intro b;conv=>whnf)|refine IxM.mk fun y hy=>?_|fail
 refine dr7 ?_
 refine af2 (i:=11) (d:=.v (.pointer (some ⟨b7,0,none⟩))) (d':=.ro (kndC kd)) (τ:=(c,.cells 145 (ckC x w (aa4 x) rm lm v)) :: (bk,.obj (MapO Tryz.prog 3 (KF ks))) :: (rm,.obj (MapO Tryz.prog 147 F)) :: (lm,.mp Tryz.prog 9 (lvG x.lives)) :: sa) rfl (fun h=>by cases h) (Vs.ptr (tb:=85) (List.Perm.refl _)) ?_
 refine ao2 mixed aa0 ?_
 repeat' first|refine sq4 ?_|(intro b;conv=>whnf)|refine IxM.mk fun y hy=>?_|fail
 unfold codeF keyF
 rw [aa6 hv]
 by_cases h0:d.kind=0
 ·rw [if_pos h0]
  by_cases hlo:n<d.lo
  ·rw [if_pos hlo,if_neg (by omega)]
   repeat' first|refine sq4 ?_|(intro b;conv=>whnf)|refine IxM.mk fun y hy=>?_|fail
   exact Rt.by (Vs.drop (List.sublist_cons_self _ _)) ⟨rfl,rfl⟩
  ·rw [if_neg hlo,if_pos (And.intro h0 hlo)]
   repeat' first|refine sq4 ?_|(intro b;conv=>whnf)|refine IxM.mk fun y hy=>?_|fail
   (refine OtE.yd rfl (ar2 (kv:=.int .i64 n) (u:=.bool (decide (n∈ks))) rfl rfl (KeyD.v _) (List.mem_cons_of_mem _ (List.mem_cons_of_mem _ List.mem_cons_self)) (fun _ h=>h) am0 Tryz.underlying138 aY0 (ax4 (wf64 (by omega) (by omega))) (bX3 _ _)) ?_)
   repeat' first|refine sq4 ?_|(intro b;conv=>whnf)|refine IxM.mk fun y hy=>?_|fail
   refine OtE.mapUpdate (b:=bk) (F:=KF ks) (k:=3) (e:=4) (kv:=.int .i64 n) (τ:=(b,.cells 97 (fldC d)) :: (c,.cells 145 (ckC x w (aa4 x) rm lm v)) :: (rm,.obj (MapO Tryz.prog 147 F)) :: (lm,.mp Tryz.prog 9 (lvG x.lives)) :: sa) rfl rfl (KeyD.v _) rfl (List.perm_middle (l₁:=[_,_])) am0 Tryz.underlying138 (ax4 (wf64 (by omega) (by omega))) ?_
   rw [bI6]
   repeat' first|refine sq4 ?_|(intro b;conv=>whnf)|refine IxM.mk fun y hy=>?_|fail
   exact Rt.by ((Vs.perm (List.Perm.swap _ _ _)).trans ((Vs.drop (List.sublist_cons_self _ _)).trans (Vs.perm (List.Perm.swap _ _ _)))) ⟨by simp,rfl⟩
 rw [if_neg h0,if_neg (show ¬(d.kind=0∧¬n<d.lo) from fun h=>h0 h.1)]
 by_cases h2:d.kind=2∨d.kind=7
 ·rw [if_pos h2]
  have HC:=bp3 n d
  rcases h2 with h2|h2
  ·repeat' first|refine sq4 ?_|(intro b;conv=>whnf)|refine IxM.mk fun y hy=>?_|fail
   refine CE.pk (APk.peek (.cons (Pk.same _) (.cons (Pk.ptr (j:=0) rfl (PkL.refl _)) .nil)) HC rfl) ?_
   repeat' first|refine sq4 ?_|(intro b;conv=>whnf)|refine IxM.mk fun y hy=>?_|fail
   exact Rt.by (Vs.drop (List.sublist_cons_self _ _)) ⟨rfl,rfl⟩
  ·repeat' first|refine sq4 ?_|(intro b;conv=>whnf)|refine IxM.mk fun y hy=>?_|fail
   refine CE.pk (APk.peek (.cons (Pk.same _) (.cons (Pk.ptr (j:=0) rfl (PkL.refl _)) .nil)) HC rfl) ?_
   repeat' first|refine sq4 ?_|(intro b;conv=>whnf)|refine IxM.mk fun y hy=>?_|fail
   exact Rt.by (Vs.drop (List.sublist_cons_self _ _)) ⟨rfl,rfl⟩
 rw [if_neg h2]
 by_cases h3:d.kind=3
 ·rw [if_pos h3]
  obtain ⟨p1,p2,p3⟩:=bM0 hV hk hf h3
  by_cases n0:n<0
  ·rw [if_pos (.inl n0)]
   repeat' first|refine sq4 ?_|(intro b;conv=>whnf)|refine IxM.mk fun y hy=>?_|fail
   exact Rt.by (Vs.drop (List.sublist_cons_self _ _)) ⟨rfl,rfl⟩
  by_cases n1:(d.words.length:Int)≤n
  ·rw [if_pos (.inr (.inl n1))]
   repeat' first|refine sq4 ?_|(intro b;conv=>whnf)|refine IxM.mk fun y hy=>?_|fail
   exact Rt.by (Vs.drop (List.sublist_cons_self _ _)) ⟨rfl,rfl⟩
  obtain ⟨z,hz⟩:∃ z,d.weights[n.toNat]?=some z:=⟨_,List.getElem?_eq_getElem (by omega)⟩
  rw [aa6 hz]
  repeat' first|refine sq4 ?_|(intro b;conv=>whnf)|refine IxM.mk fun y hy=>?_|fail
  have hyz:y=z:=by
   have key:∀ m:Int,d.weights[m.toNat]?=some y→m=n→y=z:=fun m h e=>by rw [e,hz] at h;exact (Option.some.inj h).symm
   exact key _ hy (by simp only [List.length_map];(repeat' split) <;> omega)
  subst hyz
  refine Rt.by (Vs.drop (List.sublist_cons_self _ _)) ⟨?_,rfl⟩
  by_cases hy0:y=0 <;> simp [hy0,n0,show ¬(d.words.length:Int)≤n from n1]
 rw [if_neg h3]
 by_cases h4:d.kind=4
 ·rw [if_pos h4]
  cases he:isE d.of with
  | true=>
   have he':(d.of.toList == (⟨#[]⟩:ByteArray).toList)=true:=by rw [eqE];exact he
   have hg:getR kd r d.of=0:=by unfold getR;rw [if_pos he]
   rw [hg,Int.sub_zero]
   have HC:=bp3 n d
   repeat' first|refine sq4 ?_|(intro b;conv=>whnf)|refine IxM.mk fun y hy=>?_|fail
   refine CE.pk (APk.peek (.cons (Pk.same _) (.cons (Pk.ptr (j:=0) rfl (PkL.refl _)) .nil)) HC rfl) ?_
   repeat' first|refine sq4 ?_|(intro b;conv=>whnf)|refine IxM.mk fun y hy=>?_|fail
   exact Rt.by (Vs.drop (List.sublist_cons_self _ _)) ⟨rfl,rfl⟩
  | false=>
   have he':(d.of.toList == (⟨#[]⟩:ByteArray).toList)=false:=by rw [eqE];exact he
   obtain ⟨q,hq,hqf⟩:=(bZ7 hp hk hf h4).resolve_left (by rw [he];decide)
   obtain ⟨z,hz⟩:∃ z,r[q]?=some z:=⟨_,List.getElem?_eq_getElem (by omega)⟩
   have hz':r[((q:Nat):Int).toNat]?=some z:=hz
   have hzb:=hrr.2 z (List.mem_of_getElem? hz)
   have hg:getR kd r d.of=z:=by unfold getR vatR;rw [if_neg (by rw [he];decide),hq,Int.toNat_natCast,aa6 hz]
   rw [hg]
   have HC:=bp3 (n - z) d
   have HF:=ad3 kd d.of (by omega)
   rw [hq] at HF
   repeat' first|refine sq4 ?_|(intro b;conv=>whnf)|refine IxM.mk fun y hy=>?_|fail
   refine CE.pk (APk.peek (.cons (Pk.same _) (.cons (Pk.ptr (j:=0) rfl (PkL.refl _)) .nil)) HC rfl) ?_
   repeat' first|refine sq4 ?_|(intro b;conv=>whnf)|refine IxM.mk fun y hy=>?_|fail
   exact Rt.by (Vs.drop (List.sublist_cons_self _ _)) ⟨rfl,rfl⟩
 rw [if_neg h4]
 by_cases h5:d.kind=5
 ·rw [if_pos h5]
  obtain ⟨lf,hlf⟩:∃ lf,x.lives.find? (fun l=>seq l.name d.of)=some lf:=by
   have:=bJ7 hp hk hf h5
   rw [List.any_eq_true] at this
   obtain ⟨l,m1,m2⟩:=this
   exact Option.isSome_iff_exists.1 (by rw [List.find?_isSome];exact ⟨l,m1,m2⟩)
  have hlo:bC0 x d.of=lf:=by unfold bC0;rw [hlf];rfl
  rw [hlo]
  have hlm:=List.mem_of_find?_eq_some hlf
  have hLB:=hV.lives lf hlm
  simp only [aj9,Bool.and_eq_true,decide_eq_true_eq] at hLB
  have hst:lf.states.length≤12:=by have:=hLB.1.1.1.2;simp [aa7] at this;omega
  have HC:=bN5 lf d.lo d.hi (by omega) (by omega)
  have hrl:(au4 lf d.lo d.hi).length≤12:=by unfold au4;split <;> simp <;> omega
  have HW:=bJ0 (au4 lf d.lo d.hi) (by omega)
  have hwl2:(aP1 (au4 lf d.lo d.hi)).length≤12:=by
   unfold aP1
   rw [List.length_map]
   exact Nat.le_trans (List.length_filter_le _ _) (by rw [List.length_range];omega)
  have HN:=bf9 (aP1 (au4 lf d.lo d.hi)) n (by omega)
  rw [bq3] at HN
  have hnm:=cc8 hV hk hf h5
  repeat' first|refine sq4 ?_|(intro b;conv=>whnf)|refine IxM.mk fun y hy=>?_|fail
  refine Ot.yd (bq2 (kv:=.string d.of) (z:=.agg #[.string ⟨#[]⟩,.slice none 0 0,.slice none 0 0]) (zd:=.any) (lifD lf) rfl rfl (KeyD.v _) (List.mem_cons_of_mem _ (List.mem_cons_of_mem _ (List.mem_cons_of_mem _ (List.mem_cons_of_mem _ List.mem_cons_self)))) (string_keyed Tryz.underlying9) Tryz.underlying143 bu5 (fun _ _=>.any _) (Go.WideMaps.keyOf_string_mk Tryz.underlying9 (by unfold maxLen;omega)) (by simp only [lvG];rw [hlf];rfl)) ?_
  by_cases n0:n<0
  ·rw [if_neg (by simp;omega)]
   repeat' first|refine sq4 ?_|(intro b;conv=>whnf)|refine IxM.mk fun y hy=>?_|fail
   exact Rt.by (Vs.drop (List.sublist_cons_self _ _)) ⟨rfl,rfl⟩
  by_cases n1:((au4 lf d.lo d.hi).length:Int)≤n
  ·rw [if_neg (by rw [List.getD_eq_getElem?_getD,List.getElem?_eq_none (by omega)];simp)]
   repeat' first|refine sq4 ?_|(intro b;conv=>whnf)|refine IxM.mk fun y hy=>?_|fail
   exact Rt.by (Vs.drop (List.sublist_cons_self _ _)) ⟨rfl,rfl⟩
  repeat' first|refine sq4 ?_|(intro b;conv=>whnf)|refine IxM.mk fun y hy=>?_|fail
  refine Rt.by (Vs.drop (List.sublist_cons_self _ _)) ⟨?_,rfl⟩
  cases hg:(au4 lf d.lo d.hi).getD n.toNat false <;> simp [n0]
 rw [if_neg h5]
 by_cases h6:d.kind=6
 ·rw [if_pos h6]
  have HS:=cj6 x w hw hp hfit k i f kd d l hk hf h6 hl q4 F sa hA c rm lm v
  repeat' first|refine sq4 ?_|(intro b;conv=>whnf)|refine IxM.mk fun y hy=>?_|fail
  refine CE.own (t:=[(b,.cells 97 (fldC d)),(bk,.obj (MapO Tryz.prog 3 (KF ks))),(lm,.mp Tryz.prog 9 (lvG x.lives))]) HS (show List.Perm ((b,Blk.cells 97 (fldC d)) :: (c,.cells 145 (ckC x w (aa4 x) rm lm v)) :: (bk,.obj (MapO Tryz.prog 3 (KF ks))) :: (rm,.obj (MapO Tryz.prog 147 F)) :: (lm,.mp Tryz.prog 9 (lvG x.lives)) :: sa) _ from by (refine ad8 fun a=>?_;simp only [List.append_eq,List.nil_append,List.cons_append,ad9,ah8,ah7];omega)) (fun s'=>s' ++ [(b,.cells 97 (fldC d)),(bk,.obj (MapO Tryz.prog 3 (KF ks))),(lm,.mp Tryz.prog 9 (lvG x.lives))]) (fun s'=>List.Perm.refl _) ?_
  rintro _ _ ⟨rfl,rfl⟩
  repeat' first|refine sq4 ?_|(intro b;conv=>whnf)|refine IxM.mk fun y hy=>?_|fail
  refine Rt.by ((Vs.perm (τ:=(b,.cells 97 (fldC d)) :: (c,.cells 145 (ckC x w (aa4 x) rm lm v)) :: (bk,.obj (MapO Tryz.prog 3 (KF ks))) :: (rm,.obj (MapO Tryz.prog 147 F)) :: (lm,.mp Tryz.prog 9 (lvG x.lives)) :: sa) (by (refine ad8 fun a=>?_;simp only [List.append_eq,List.nil_append,List.cons_append,ad9,ah8,ah7];omega))).trans (Vs.drop (List.sublist_cons_self _ _))) ⟨?_,rfl⟩
  by_cases hs:n=sumAt x w k i f <;> simp [hs]
 rw [if_neg h6]
 by_cases h8:d.kind=8
 ·rw [if_pos h8]
  obtain ⟨u,g,o,ko,q,e1,e2,e3,e4,e5,e6,e7,e8⟩:=bJ9 hp hk hf h8
  obtain ⟨z,hz⟩:∃ z,r[u]?=some z:=⟨_,List.getElem?_eq_getElem (by omega)⟩
  have HU:=cv4 (w:=w) (aa4 x) rm lm v d r z hk e1 hz (by omega) hnf (by omega)
  rw [e5] at HU
  repeat' first|refine sq4 ?_|(intro b;conv=>whnf)|refine IxM.mk fun y hy=>?_|fail
  refine CE.pk (APk.peek (.cons (Pk.ptr (j:=1) rfl (PkL.refl _)) (.cons (Pk.same _) (.cons (Pk.same _) (.cons (Pk.same _) .nil)))) HU rfl) ?_
  have HF:=ad3 ko d.of (by have:=hnf ko (List.mem_of_getElem? e6);omega)
  rw [e7] at HF
  have hol:=(List.getElem?_eq_some_iff.1 e6).1
  obtain ⟨lo,hlo⟩:∃ l,w[o]?=some l:=⟨_,List.getElem?_eq_getElem (by omega)⟩
  have hlo':w[((o:Nat):Int).toNat]?=some lo:=hlo
  have hko':x.kinds[((o:Nat):Int).toNat]?=some ko:=e6
  have hrf:=bl7 hk e3 e4
  rw [e5] at hrf
  have hzr:=hrefs _ hrf l hl r (List.mem_of_getElem? hr)
  simp only [refOk,Int.toNat_natCast,aa6 hz,aa6 hlo,Bool.not_eq_true',Bool.or_eq_false_iff,decide_eq_false_iff_not] at hzr
  obtain ⟨y,hy⟩:∃ y,lo[z.toNat]?=some y:=⟨_,List.getElem?_eq_getElem (by omega)⟩
  have hyr:=ao0 e6 ((ak5 (hrows _ _ hlo)).2 y (List.mem_of_getElem? hy))
  obtain ⟨t,ht⟩:∃ t,y[q]?=some t:=⟨_,List.getElem?_eq_getElem (by omega)⟩
  have ht':y[((q:Nat):Int).toNat]?=some t:=ht
  have hlol:=hw.nr lo (List.mem_of_getElem? hlo)
  have hyl:=hw.nf lo (List.mem_of_getElem? hlo) y (List.mem_of_getElem? hy)
  have hcp:copyAt x w k kd d r=t:=by
   unfold copyAt
   rw [e1,e5,aO7 e6]
   simp only [Int.toNat_natCast]
   unfold vatR
   rw [e7,Int.toNat_natCast,Int.toNat_natCast,aa6 hlo,aa6 hz,aa6 hy,aa6 ht]
  rw [hcp]
  repeat' first|refine sq4 ?_|(intro b;conv=>whnf)|refine IxM.mk fun y hy=>?_|fail
  refine Rt.by (Vs.drop (List.sublist_cons_self _ _)) ⟨?_,rfl⟩
  by_cases hs:n=t <;> simp [hs]
 rw [if_neg h8]
 repeat' first|refine sq4 ?_|(intro b;conv=>whnf)|refine IxM.mk fun y hy=>?_|fail
 exact Rt.by (Vs.drop (List.sublist_cons_self _ _)) ⟨rfl,rfl⟩
end
end Go.Proofs.YtlcfiilejnnlnaaGreatDoor
