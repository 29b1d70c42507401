/- A part of the proof: Kp Kq Kr Ks Ku Kv Kw Ct Kx. -/
import Derived.Test.YtjbbmjjildhfbaaGreatDoorA19
import Derived.Shelf.Abstract
import Derived.WalkKit
import Derived.OwnWalkIn
import Derived.TacticsInMore
import Derived.LoopNIn
import Derived.LoopIn
set_option maxRecDepth 100000
set_option maxHeartbeats 4000000
set_option linter.unusedVariables false
set_option linter.unusedSimpArgs false
namespace Go.Proofs.YtjbbmjjildhfbaaGreatDoor
section
open Go Go.RowKit Go.Shelf
attribute [local go_sem] Oper.semAt_some
theorem cl_kept (s : Sb) : APure Tryz.prog 46 [slS2 s] (.clo 69 [.ro [slS2 s]]):=by
 refine APure.of_call (enterX mixed tget_ok Tryz.func46 (by kernel_rfl) rfl Tryz.ntmps46 rfl ?_);intro BB
 repeat' (first | refine sk2 ?_ | (intro b;conv=>whnf))
 exact Rt.pure rfl
theorem kept1_in (s : Sb) (hs : Ss s) (l : Nat) (O : Nat → Prop) (J Jx : Nat → World → Prop) (W : World) (b0 o0 : Nat) (ad : Option Addr) (cap : Nat) (va : Nat → Value)
  (h0b : ¬ O b0 ∧ b0 < W.heap.size) (h0 : W.cell? ⟨b0,o0,none⟩ = some (.slice ad s.length cap))
  (h1 : ∀ (k : Nat) m,s[k]? = some m → ∃ b off a2 c2,ad = some ⟨b,off,none⟩ ∧ ¬ O b ∧ b < W.heap.size ∧ W.cell? ⟨b,off + k,none⟩ = some (.slice a2 m.length c2) ∧
   ∀ (i : Nat) x,m[i]? = some x → ∃ b' off',a2 = some ⟨b',off',none⟩ ∧ ¬ O b' ∧ b' < W.heap.size ∧ W.cell? ⟨b',off' + i,none⟩ = some (.bool x))
  (hY : ∀ (k : Nat) (p : Nat × Nat) W1,(keptL s)[k]? = some p → J k W1 → YieldAt Fence.wide 7 Tryz.prog l #[.agg #[.int .i64 p.1,.int .i64 p.2]] W1 fun e W'=>
    (e = .returned (.bool true) ∧ J (k + 1) W' ∧ W1.heap.size ≤ W'.heap.size ∧ ∀ b,b < W.heap.size → ¬ O b → W'.heap[b]? = W1.heap[b]?) ∨ (e = .returned (.bool false) ∧ Jx (k + 1) W'))
  (hJ : J 0 W) : CallsIn Fence.wide 8 Tryz.prog 69 #[.func (.yield l) #[] #[],.pointer (some ⟨b0,o0,none⟩)] W fun e W'=>∃ v,e = .returned v ∧ (J (keptL s).length W' ∨ ∃ k,Jx k W'):=by
 refine callsIn_of_wp Tryz.func69 rfl trivial ?_ rfl
 simp only [Tryz.ntmps69,List.size_toArray,List.length_cons,List.length_nil,Nat.reduceAdd,Nat.reduceSub,Array.replicate_succ,Array.replicate_zero,List.push_toArray,List.append_toArray,List.nil_append,List.cons_append]
 have cellK : ∀ (wr : World),(∀ b,b < W.heap.size → ¬ O b → wr.heap[b]? = W.heap[b]?) → ∀ (b o : Nat) (v : Value),b < W.heap.size → ¬ O b → W.cell? ⟨b,o,none⟩ = some v → wr.cell? ⟨b,o,none⟩ = some v:=
  fun wr h b o v hb hn hc=>(World.cell?_of_block (w:=W) (a:=⟨b,o,none⟩) (h b hb hn)).trans hc
 have hsl:=hs.nk
 gi_wp2
 gi_loopw [9] (fun i wr=>∃ k : Nat,k ≤ s.length ∧ i = .int .i64 k ∧ J (keptTo s k 0).length wr ∧ W.heap.size ≤ wr.heap.size ∧ ∀ b,b < W.heap.size → ¬ O b → wr.heap[b]? = W.heap[b]?) (fun i _=>s.length - (intOf i).toNat)
 case atStart=>exact ⟨0,Nat.zero_le _,rfl,hJ,Nat.le_refl _,fun _ _ _=>rfl⟩
 case round=>
  obtain ⟨k,hk,rfl,hJs,hzs,hks⟩:=hrel
  by_cases hlt : k < s.length
  ·obtain ⟨m,hm⟩ : ∃ m,s[k]? = some m:=⟨_,List.getElem?_eq_getElem hlt⟩
   have hml:=hs.nr m (List.mem_of_getElem? hm)
   obtain ⟨b,off,a2,c2,rfl,hb1,hb2,hb3,hb4⟩:=h1 k m hm
   have hrow:=cellK wr hks b (off + k) _ hb2 hb1 hb3
   gi_wp2
   gi_loopw [16] (fun i wr=>∃ j : Nat,j ≤ m.length ∧ i = .int .i64 j ∧ J (keptTo s k j).length wr ∧ W.heap.size ≤ wr.heap.size ∧ ∀ b,b < W.heap.size → ¬ O b → wr.heap[b]? = W.heap[b]?) (fun i _=>m.length - (intOf i).toNat)
   case atStart=>exact ⟨0,Nat.zero_le _,rfl,hJs,hzs,hks⟩
   case round=>
    clear hJs hzs hks hrow
    obtain ⟨j,hj,rfl,hJs,hzs,hks⟩:=hrel
    by_cases hjl : j < m.length
    ·obtain ⟨x,hx⟩ : ∃ x,m[j]? = some x:=⟨_,List.getElem?_eq_getElem hjl⟩
     obtain ⟨b',off',rfl,hc1,hc2,hc3⟩:=hb4 j x hx
     have hcell:=cellK wr hks b' (off' + j) _ hc2 hc1 hc3
     have hkb:=kept_of hm hx
     cases x
     ·gi_wp2
      refine ⟨fun _ h=>(by cases h),?_⟩
      gi_wp2
      go_roundw
      case rel=>exact ⟨j + 1,by omega,by simp,by rw [keptTo_no hkb];exact hJs,hzs,hks⟩
      case measure=>simp [intOf];omega
     ·obtain ⟨fn,tmps,assign,body,hy,hR⟩:=hY _ (k,j) wr (keptL_next hm hjl hkb) hJs
      gi_wp2
      refine hR.mono ?_
      rintro e W3 (⟨rfl,hJ3,hz3,hk3⟩ | ⟨rfl,hJx3⟩)
      ·gi_wp2
       go_roundw
       case rel=>exact ⟨j + 1,by omega,by simp,by rw [keptTo_yes hkb,List.length_append];exact hJ3,Nat.le_trans hzs hz3,fun b hb hn=>(hk3 b hb hn).trans (hks b hb hn)⟩
       case measure=>simp [intOf];omega
      ·gi_wp2
       refine bodyPost_ret (results_none rfl _ _ _) rfl ?_
       exact ⟨_,rfl,.inr ⟨_,hJx3⟩⟩
    ·obtain rfl : j = m.length:=by omega
     gi_wp2
     go_roundw
     case rel=>exact ⟨k + 1,by omega,by simp,by rw [keptTo_row hm];exact hJs,hzs,hks⟩
     case measure=>simp [intOf];omega
  ·obtain rfl : k = s.length:=by omega
   gi_wp2
   go_end0
   exact ⟨_,rfl,.inl (by rw [keptTo_all] at hJs;exact hJs)⟩
theorem kept_iter (s : Sb) (hs : Ss s) : AIter Tryz.prog 69 [.ro [slS2 s]] ((keptL s).map fun p=>[atD p.1 p.2]):=by
 refine ⟨enters_of Tryz.func69 (by kernel_rfl) rfl,fun O W lb hlb=>?_⟩
 refine ⟨(keptL s).map fun p=>[.agg #[.int .i64 p.1,.int .i64 p.2]],by simp,fun k x vs hx hv=>?_,fun l J Jx hJs hJxs hY hJ=>?_⟩
 ·rw [List.getElem?_map,Option.map_eq_some_iff] at hx hv
  obtain ⟨p,hp,rfl⟩:=hx
  obtain ⟨q,hq,rfl⟩:=hv
  cases hp.symm.trans hq
  exact .cons (Rd.agg [iD p.1,iD p.2] [.int .i64 p.1,.int .i64 p.2] rfl (RdL.vals [.int .i64 p.1,.int .i64 p.2]).at_) .nil
 ·cases lb with
  | nil=>have:=hlb.len;simp at this
  | cons u lb=>
   have : lb = []:=by have:=hlb.len;simpa using this
   subst this
   obtain ⟨b0,o0,va,rfl,g1,g2,g3,g4⟩:=(hlb.at_ 0 _ u rfl rfl).ro_inv
   obtain ⟨ad,cap,vs,e1,hcap,hk1,hc1,hr1⟩:=(g4 0 _ rfl).sl_inv
   have hcell:=g3 0 (by simp)
   rw [e1,List.length_map] at hcell
   refine CallsIn.mono (kept1_in s hs l O J Jx W b0 o0 ad cap va ⟨g1,g2⟩ (by simpa using hcell) (fun k m hm=>?_) (fun k p W1 hp hJ1=>hY k _ W1 (by rw [List.getElem?_map,hp];rfl) hJ1) hJ) (fun e W' h=>by simpa using h)
   have hkm : (s.map fun l=>[slB l])[k]? = some [slB m]:=by rw [List.getElem?_map,hm];rfl
   obtain ⟨b,off,ha,q1,q2,q3⟩:=hc1 k _ hkm
   obtain ⟨a2,c2,vs2,e2,hcap2,hk2,hc2,hr2⟩:=(hr1 k _ hkm 0 _ rfl).sl_inv
   have hcell2:=q3 0 (by omega)
   rw [e2,List.length_map] at hcell2
   refine ⟨b,off,a2,c2,ha,q1,q2,by simpa using hcell2,fun i x hx=>?_⟩
   have hix : (m.map fun b=>[bD b])[i]? = some [bD x]:=by rw [List.getElem?_map,hx];rfl
   obtain ⟨b',off',ha',r1,r2,r3⟩:=hc2 i _ hix
   have hcell3:=r3 0 (by omega)
   rw [(hr2 i _ hix 0 _ rfl).val rfl] at hcell3
   exact ⟨b',off',ha',r1,r2,by simpa using hcell3⟩
end
section
open Go
theorem its_len {s : Sb} {x : List D} (h : x ∈ (keptL s).map fun p=>[atD p.1 p.2]) : x.length = 1:=by
 obtain ⟨p,_,rfl⟩:=List.mem_map.1 h;rfl
theorem its_get {s : Sb} {k : Nat} {x : List D} (h : ((keptL s).map fun p=>[atD p.1 p.2])[k]? = some x) : ∃ p : Nat × Nat,(keptL s)[k]? = some p ∧ x = [atD p.1 p.2]:=by
 rw [List.getElem?_map,Option.map_eq_some_iff] at h
 obtain ⟨p,hp,rfl⟩:=h
 exact ⟨p,hp,rfl⟩
theorem keptL_le {s : Sb} (hs : Ss s) : (keptL s).length ≤ 1000000:=by
 rw [← sizeE_pos]
 have h1:=cnt_take_le hs.nr s.length
 rw [List.take_of_length_le (Nat.le_refl _)] at h1
 have:=hs.nk
 unfold sizeE;omega
theorem sk75 {A B : Prop} (k : B) (h : Hd7 B → A:=by intro hk7q;(first | refine sb0 ?_ | refine sb1 ?_ | ((with_reducible refine' Cp.by ?hc ?_);(case hc=>exact cl_kept _)) | ((with_reducible refine' CE.pure ?hc ?_);(case hc=>exact cl_kept _)));exact hk7q.run) : A:=h ⟨k⟩
theorem cl_size (s : Sb) (hs : Ss s) : APure Tryz.prog 17 [slS2 s] (iD (sizeE s)):=by
 have hkl:=keptL_le hs
 refine APure.of_call (enterX mixed tget_ok Tryz.func17 (by kernel_rfl) rfl Tryz.ntmps17 rfl ?_);intro BB
 repeat' (first | refine sk75 ?_ | (intro b;conv=>whnf))
 generalize b = b3
 refine lp_range mixed tget_ok rfl (kept_iter _ (by assumption)) (fun x hx=>its_len hx) rfl (γ:=Unit) (fun k _=>[(b3,.cells 3 [iD k])]) (fun _ _=>True) () cl3 trivial ?_ ?_
 ·rintro l k _ x hx -
  obtain ⟨p,hp,rfl⟩:=its_get hx
  have hlt:=(List.getElem?_eq_some_iff.1 hp).1
  repeat' (first | refine sk75 ?_ | (intro b;conv=>whnf))
  exact ⟨(),cl3,trivial⟩
 ·rintro _ -
  repeat' (first | refine sk75 ?_ | (intro b;conv=>whnf))
  refine Rt.pure (congrArg iD ?_)
  rw [List.length_map,sizeE_pos]
theorem firstB_app (a b : Sb) (l m : List (Nat × Nat)) : firstB a b (l ++ m) = match firstB a b l with | some x=>some x | none=>firstB a b m:=by
 induction l with
 | nil=>rfl
 | cons p l ih=>
  simp only [List.cons_append,firstB]
  split
  ·exact ih
  ·rfl
theorem firstB_at {a b : Sb} {k i : Nat} {l : List Bool} (h : a[k]? = some l) (hi : i < l.length) (h0 : firstB a b (posTo a k i) = none) (hd : keptB a k i ≠ keptB b k i) : firstB a b (posOf a) = some (keptB a k i):=by
 obtain ⟨r,hr⟩:=posTo_pre h (Nat.succ_le_of_lt hi)
 rw [← hr,posTo_succ,firstB_app,firstB_app,h0]
 simp [firstB,hd]
theorem firstB_step {a b : Sb} {k i : Nat} : firstB a b (posTo a k (i + 1)) = match firstB a b (posTo a k i) with | some x=>some x | none=>if keptB a k i = keptB b k i then none else some (keptB a k i):=by
 rw [posTo_succ,firstB_app]
 split <;> simp_all [firstB]
theorem sk76 {A B : Prop} (k : B) (h : Hd7 B → A:=by intro hk7q;(first | refine sb0 ?_ | refine sb1 ?_ | ((with_reducible refine' Cp.by ?hc ?_);(case hc=>first | exact eqf_ss _ _ (by assumption) | exact cl_size _ (by assumption))) | ((with_reducible refine' CE.pure ?hc ?_);(case hc=>first | exact eqf_ss _ _ (by assumption) | exact cl_size _ (by assumption))));exact hk7q.run) : A:=h ⟨k⟩
theorem cl_less (a b : Sb) (ha : Ss a) (hb : Ss b) : APure Tryz.prog 32 [slS2 a,slS2 b] (bD (lessE a b)):=by
 have hal:=ha.nk
 refine APure.of_call (enterX mixed tget_ok Tryz.func32 (by kernel_rfl) rfl Tryz.ntmps32 rfl ?_);intro BB
 repeat' (first | refine sk76 ?_ | (intro b;conv=>whnf))
 cases hsl : sameLens a b with
 | false=>
  repeat' (first | refine sk76 ?_ | (intro b;conv=>whnf))
  refine Rt.pure (congrArg bD ?_);unfold lessE;rw [if_pos hsl]
 | true=>
  have hab : a.map List.length = b.map List.length:=of_decide_eq_true hsl
  have hlen : a.length = b.length:=by have:=congrArg List.length hab;simpa using this
  by_cases hz : sizeE a = sizeE b
  ·have hE : lessE a b = (firstB a b (posOf a)).getD false:=by unfold lessE;rw [if_neg (by simp [hsl]),if_neg (by simp [hz])]
   rw [hE]
   repeat' (first | refine sk76 ?_ | (intro b;conv=>whnf))
   refine lp_loopd mixed tget_ok (γ:=Nat) (fun j=>[(25,iD j)]) (fun _=>[]) (fun j=>j ≤ a.length ∧ firstB a b (posTo a j 0) = none) (fun j=>a.length - j) 0 (chk_of cl2) cl3 ⟨Nat.zero_le _,rfl⟩ ?_
   rintro j ⟨hj,hno⟩
   by_cases hjl : j < a.length
   ·obtain ⟨l,hl⟩ : ∃ l,a[j]? = some l:=⟨_,List.getElem?_eq_getElem hjl⟩
    have hl' : a[((j : Nat) : Int).toNat]? = some l:=hl
    obtain ⟨m,hm,hml⟩:=lens_get hab hl
    have hm' : b[((j : Nat) : Int).toNat]? = some m:=hm
    have hll:=ha.nr l (List.mem_of_getElem? hl)
    repeat' (first | refine sk76 ?_ | (intro b;conv=>whnf))
    refine lp_loopd mixed tget_ok (γ:=Nat) (fun i=>[(33,iD i)]) (fun _=>[]) (fun i=>i ≤ l.length ∧ firstB a b (posTo a j i) = none) (fun i=>l.length - i) 0 (chk_of cl2) cl3 ⟨Nat.zero_le _,hno⟩ ?_
    rintro i ⟨hi,hni⟩
    by_cases hil : i < l.length
    ·obtain ⟨x,hx⟩ : ∃ x,l[i]? = some x:=⟨_,List.getElem?_eq_getElem hil⟩
     have hx' : l[((i : Nat) : Int).toNat]? = some x:=hx
     obtain ⟨y,hy⟩ : ∃ y,m[i]? = some y:=⟨_,List.getElem?_eq_getElem (by omega)⟩
     have hy' : m[((i : Nat) : Int).toNat]? = some y:=hy
     have hka:=kept_of hl hx
     have hkb:=kept_of hm hy
     by_cases hxy : x = y
     ·have hbb : (x == y) = true:=by simp [hxy]
      repeat' (first | refine sk76 ?_ | (intro b;conv=>whnf))
      refine ⟨i + 1,(chk_of cl2),cl3,⟨by omega,?_⟩,by omega⟩
      rw [firstB_step,hni,hka,hkb];simp [hxy]
     ·have hbb : (x == y) = false:=by simpa using hxy
      repeat' (first | refine sk76 ?_ | (intro b;conv=>whnf))
      refine Rt.pure (congrArg bD ?_)
      rw [firstB_at hl hil hni (by rw [hka,hkb];exact hxy),hka];rfl
    ·obtain rfl : i = l.length:=by omega
     repeat' (first | refine sk76 ?_ | (intro b;conv=>whnf))
     exact ⟨j + 1,(chk_of cl2),cl3,⟨by omega,by rw [posTo_row hl];exact hni⟩,by omega⟩
   ·obtain rfl : j = a.length:=by omega
    repeat' (first | refine sk76 ?_ | (intro b;conv=>whnf))
    refine Rt.pure (congrArg bD ?_)
    rw [posTo_all] at hno;rw [hno];rfl
  ·have hE : lessE a b = decide (sizeE a < sizeE b):=by unfold lessE;rw [if_neg (by simp [hsl]),if_pos hz]
   rw [hE]
   repeat' (first | refine sk76 ?_ | (intro b;conv=>whnf))
   refine Rt.pure (congrArg bD ?_);simp
def fcode : Option Bool → Int
 | none=>0
 | some true=>1
 | some false=>2
theorem sk77 {A B : Prop} (k : B) (h : Hd7 B → A:=by intro hk7q;(first | refine sb0 ?_ | refine sb1 ?_ | ((with_reducible refine' Cp.by ?hc ?_);(case hc=>exact r31_size _ (by assumption))) | ((with_reducible refine' CE.pure ?hc ?_);(case hc=>exact r31_size _ (by assumption))));exact hk7q.run) : A:=h ⟨k⟩
theorem r31_less (a b : Sb) (ha : Ss a) (hb : Ss b) : APure Tryz.prog 33 [slS2 a,slS2 b] (bD (lessE a b)):=by
 have hal:=ha.nk
 refine APure.of_call (enterX mixed tget_ok Tryz.func33 (by kernel_rfl) rfl Tryz.ntmps33 rfl ?_);intro BB
 repeat' (first | refine sk77 ?_ | (intro b;conv=>whnf) | (with_reducible refine Br.d (fun hc=>?_) (fun hc=>?_)) | (with_reducible refine Br.b (fun hc=>?_) (fun hc=>?_)))
 rotate_left
 ·refine Rt.pure (congrArg bD ?_);unfold lessE sameLens;rw [if_pos (lens_no (by omega))]
 have hlen : a.length = b.length:=by omega
 refine lp_loopd mixed tget_ok (γ:=Nat) (fun j=>[(5,iD (fcode (firstB a b (posTo a j 0)))),(6,iD j)]) (fun _=>[]) (fun j=>j ≤ a.length ∧ ∀ (k : Nat) l m,k < j → a[k]? = some l → b[k]? = some m → l.length = m.length) (fun j=>a.length - j) 0 (chk_of cl2) cl3 ⟨Nat.zero_le _,fun k l m h=>by omega⟩ ?_
 rintro j ⟨hj,hno⟩
 by_cases hjl : j < a.length
 ·obtain ⟨l,hl⟩ : ∃ l,a[j]? = some l:=⟨_,List.getElem?_eq_getElem hjl⟩
  have hl' : a[((j : Nat) : Int).toNat]? = some l:=hl
  obtain ⟨m,hm⟩ : ∃ m,b[j]? = some m:=⟨_,List.getElem?_eq_getElem (by omega)⟩
  have hm' : b[((j : Nat) : Int).toNat]? = some m:=hm
  have hll:=ha.nr l (List.mem_of_getElem? hl)
  repeat' (first | refine sk77 ?_ | (intro b;conv=>whnf) | (with_reducible refine Br.d (fun hc=>?_) (fun hc=>?_)) | (with_reducible refine Br.b (fun hc=>?_) (fun hc=>?_)))
  rotate_left
  ·refine Rt.pure (congrArg bD ?_);unfold lessE sameLens;rw [if_pos (lens_at hl hm (by omega))]
  have hlm : l.length = m.length:=by omega
  refine lp_loopd mixed tget_ok (γ:=Nat) (fun i=>[(5,iD (fcode (firstB a b (posTo a j i)))),(7,iD i)]) (fun _=>[]) (fun i=>i ≤ l.length) (fun i=>l.length - i) 0 (chk_of cl2) cl3 (Nat.zero_le _) ?_
  rintro i hi
  by_cases hil : i < l.length
  ·obtain ⟨x,hx⟩ : ∃ x,l[i]? = some x:=⟨_,List.getElem?_eq_getElem hil⟩
   have hx' : l[((i : Nat) : Int).toNat]? = some x:=hx
   obtain ⟨y,hy⟩ : ∃ y,m[i]? = some y:=⟨_,List.getElem?_eq_getElem (by omega)⟩
   have hy' : m[((i : Nat) : Int).toNat]? = some y:=hy
   have hka:=kept_of hl hx
   have hkb:=kept_of hm hy
   have hst:=firstB_step (a:=a) (b:=b) (k:=j) (i:=i)
   rw [hka,hkb] at hst
   generalize hF : firstB a b (posTo a j i) = F at *
   rcases F with _ | _ | _ <;> cases x <;> cases y
   all_goals simp only [if_true,if_false,Bool.false_eq_true,Bool.true_eq_false] at hst
   all_goals have f0 : fcode none = 0:=rfl
   all_goals have f1 : fcode (some true) = 1:=rfl
   all_goals have f2 : fcode (some false) = 2:=rfl
   all_goals have b1 : (true == true) = true:=rfl
   all_goals have b2 : (true == false) = false:=rfl
   all_goals have b3 : (false == true) = false:=rfl
   all_goals have b4 : (false == false) = true:=rfl
   all_goals repeat' (first | refine sk77 ?_ | (intro b;conv=>whnf))
   all_goals exact ⟨i + 1,chk_of (.cons (by rw [hst];rfl) cl2),cl3,by omega,by omega⟩
  ·obtain rfl : i = l.length:=by omega
   repeat' (first | refine sk77 ?_ | (intro b;conv=>whnf))
   refine ⟨j + 1,chk_of (.cons (by rw [posTo_row hl];rfl) cl2),cl3,⟨by omega,fun k l' m' hk hl2 hm2=>?_⟩,by omega⟩
   by_cases e : k = j
   ·subst e;cases hl.symm.trans hl2;cases hm.symm.trans hm2;exact hlm
   ·exact hno k l' m' (by omega) hl2 hm2
 ·obtain rfl : j = a.length:=by omega
  have hsl : sameLens a b = true:=lens_yes hlen (fun k l m h1 h2=>hno k l m (List.getElem?_eq_some_iff.1 h1).1 h1 h2)
  rw [posTo_all]
  repeat' (first | refine sk77 ?_ | (intro b;conv=>whnf) | (with_reducible refine Br.d (fun hc=>?_) (fun hc=>?_)) | (with_reducible refine Br.b (fun hc=>?_) (fun hc=>?_)))
  ·refine Rt.pure (congrArg bD ?_)
   unfold lessE
   rw [if_neg (by simp [hsl]),if_neg (by omega)]
   generalize firstB a b (posOf a) = F
   rcases F with _ | _ | _ <;> rfl
  ·refine Rt.pure (congrArg bD ?_)
   unfold lessE
   rw [if_neg (by simp [hsl]),if_pos (by omega)]
   simp
end
section
open Go
structure Fit (x : Sch) (w : Wd) (s : Sb) : Prop where
 snd : Snd x
 ws : Ws w
 ss : Ss s
 fit : fitsB x w = true
 shp : w.map List.length = s.map List.length
theorem fits_inv {x : Sch} {w : Wd} (h : fitsB x w = true) : w.length = x.kinds.length ∧ (∀ (k : Nat) l,w[k]? = some l → l.any (fun r=>!lenOk x k r) = false) ∧ (∀ r ∈ refsOf x,∀ l ∈ w.getD r.kind [],refOk w r l = true) ∧ totalW w ≤ 512:=by
 unfold fitsB at h
 simp only [Bool.and_eq_true,decide_eq_true_eq,List.all_eq_true] at h
 obtain ⟨⟨⟨h1,h2⟩,h3⟩,h4⟩:=h
 refine ⟨h1,fun k l hl=>?_,h3,h4⟩
 unfold lensB at h2
 rw [List.all_eq_true] at h2
 have:=h2 k (List.mem_range.2 (List.getElem?_eq_some_iff.1 hl).1)
 rw [getD_get hl,List.all_eq_true] at this
 rw [List.any_eq_false]
 intro r hr
 simp [this r hr]
theorem fit_ref {x : Sch} {w : Wd} {s : Sb} (hF : Fit x w s) {r : Rf} (hr : r ∈ refsOf x) {l : List (List Int)} (hl : w[r.kind]? = some l) {i : Nat} {y : List Int} (hy : l[i]? = some y) :
  ∃ v z t,y[r.field]? = some v ∧ valOf w r.kind i r.field = v ∧ 0 ≤ v ∧ w[r.up.toNat]? = some z ∧ s[r.up.toNat]? = some t ∧ t.length = z.length ∧ v.toNat < t.length:=by
 obtain ⟨h1,h2,h3,_⟩:=fits_inv hF.fit
 obtain ⟨u1,u2,u3⟩:=hF.snd.up r hr
 have hym:=List.mem_of_getElem? hy
 have hfl:=fits_field hr h2 hl hym
 have hok:=h3 r hr y (by rw [getD_get hl];exact hym)
 obtain ⟨z,hz⟩ : ∃ z,w[r.up.toNat]? = some z:=⟨_,List.getElem?_eq_getElem (by omega)⟩
 obtain ⟨t,ht,htl⟩:=lens_get hF.shp hz
 have hv : y[r.field]? = some y[r.field]:=List.getElem?_eq_getElem hfl
 unfold refOk at hok
 rw [getD_get hv,getD_get hz] at hok
 simp only [Bool.not_eq_true',Bool.or_eq_false_iff,decide_eq_false_iff_not] at hok
 exact ⟨_,z,t,hv,by unfold valOf recOf;rw [getD_get hl,getD_get hy,getD_get hv],by omega,hz,ht,htl,by omega⟩
theorem countP_range_succ {p : Nat → Bool} {n : Nat} : (List.range (n + 1)).countP p = (List.range n).countP p + (if p n = true then 1 else 0):=by
 rw [List.range_succ,List.countP_append];cases h : p n <;> simp [h]
theorem any_upto {α : Type} {p : α → Bool} {l : List α} {k : Nat} (hno : ∀ i y,i < k → l[i]? = some y → p y = false) (hk : l.length ≤ k) : l.any p = false:=any_no fun i y h h2=>hno i y (by omega) h2
theorem r31_wrong (x : Sch) (w : Wd) (s : Sb) (hF : Fit x w s) (k i : Nat) (l : List (List Int)) (y : List Int) (hl : w[k]? = some l) (hy : l[i]? = some y) : APure Tryz.prog 55 [schD x,slW w,slS2 s,iD k,iD i] (bD (wrongE x w s k i)):=by
 have hV:=hF.snd.vld
 have hrl:=refs_len hV
 have hl' : w[((k : Nat) : Int).toNat]? = some l:=hl
 have hy' : l[((i : Nat) : Int).toNat]? = some y:=hy
 refine APure.of_call (enterX mixed tget_ok Tryz.func55 (by kernel_rfl) rfl Tryz.ntmps55 rfl ?_);intro BB
 repeat' (first | refine sk54 ?_ | (intro b;conv=>whnf))
 refine lp_loopd mixed tget_ok (γ:=Nat) (fun q=>[(12,iD q)]) (fun _=>[]) (fun q=>q ≤ (refsOf x).length ∧ ∀ (n : Nat) r,n < q → (refsOf x)[n]? = some r → wrong1 w s k i r = false) (fun q=>(refsOf x).length - q) 0 (chk_of cl2) cl3 ⟨Nat.zero_le _,fun k r h=>by omega⟩ ?_
 rintro q ⟨hq,hno⟩
 by_cases hql : q < (refsOf x).length
 ·obtain ⟨r,hr⟩ : ∃ r,(refsOf x)[q]? = some r:=⟨_,List.getElem?_eq_getElem hql⟩
  have hr' : (refsOf x)[((q : Nat) : Int).toNat]? = some r:=hr
  have hrm:=List.mem_of_getElem? hr
  obtain ⟨u1,u2,u3⟩:=hF.snd.up r hrm
  have hWl:=(fits_inv hF.fit).1
  have yes : wrong1 w s k i r = true → wrongE x w s k i = true:=fun h=>any_at hr h
  -- the first test
  have T1 : (r.kind = k ∧ ∃ v t b,y[r.field]? = some v ∧ 0 ≤ v ∧ s[r.up.toNat]? = some t ∧ t[v.toNat]? = some b ∧ keptB s r.up.toNat (valOf w k i r.field).toNat = b) ∨ r.kind ≠ k:=by
   by_cases e : r.kind = k
   ·left
    obtain ⟨v,z,t,g1,g2,g3,g4,g5,g6,g7⟩:=fit_ref hF hrm (by rw [e];exact hl) hy
    refine ⟨e,v,t,t[v.toNat],g1,g3,g5,List.getElem?_eq_getElem g7,?_⟩
    rw [← e,g2,kept_of g5 (List.getElem?_eq_getElem g7)]
   ·exact .inr e
  have w1 : ∀ b c : Bool,(decide (r.kind = k) && !keptB s r.up.toNat (valOf w k i r.field).toNat) = b → (decide (r.up = k) && decide ((countE w s r i : Int) < r.least)) = c → wrong1 w s k i r = (b || c):=fun b c h1 h2=>by unfold wrong1;rw [h1,h2]
  by_cases A : (decide (r.kind = k) && !keptB s r.up.toNat (valOf w k i r.field).toNat) = true
  ·have hy1:=yes (by rw [w1 true _ A rfl];rfl)
   rcases T1 with ⟨e,v,t,b,g1,g2,g3,g4,g5⟩ | e
   ·rw [g5,decide_eq_true e] at A
    cases b
    ·have g1' : y[((r.field : Nat) : Int).toNat]? = some v:=g1
     repeat' (first | refine sk54 ?_ | (intro b;conv=>whnf))
     refine Rt.pure (congrArg bD ?_);exact hy1.symm
    ·cases A
   ·rw [decide_eq_false e] at A;cases A
  ·rw [Bool.not_eq_true] at A
   by_cases B : r.up = k
   ·-- how many refer
    obtain ⟨lk,hlk⟩ : ∃ lk,w[r.kind]? = some lk:=⟨_,List.getElem?_eq_getElem (by omega)⟩
    have hlk' : w[((r.kind : Nat) : Int).toNat]? = some lk:=hlk
    obtain ⟨sk,hsk,hskl⟩:=lens_get hF.shp hlk
    have hsk' : s[((r.kind : Nat) : Int).toNat]? = some sk:=hsk
    have hlkl:=hF.ws.nr lk (List.mem_of_getElem? hlk)
    have CNT : ∀ (D : Frm → Prop),True:=fun _=>trivial
    have cE : countE w s r i = (List.range lk.length).countP fun j=>keptB s r.kind j && decide (valOf w r.kind j r.field = i):=by unfold countE;rw [getD_get hlk]
    have fin : ∀ n : Nat,n = countE w s r i → ((n : Int) < r.least → wrongE x w s k i = true) ∧ (¬ (n : Int) < r.least → wrong1 w s k i r = false):=fun n hn=>by
     subst hn
     exact ⟨fun h=>yes (by rw [w1 false true A (by simp [B,h])];rfl),fun h=>by rw [w1 false false A (by simp [B,h])];rfl⟩
    generalize hp : (fun j=>keptB s r.kind j && decide (valOf w r.kind j r.field = i)) = p at cE
    rcases T1 with ⟨e,v,t,b,g1,g2,g3,g4,g5⟩ | e
    ·exact absurd B (by omega)
    ·repeat' (first | refine sk54 ?_ | (intro b;conv=>whnf))
     refine lp_loopd mixed tget_ok (γ:=Nat) (fun m=>[(13,iD (((List.range m).countP p : Nat) : Int)),(15,iD m)]) (fun _=>[]) (fun m=>m ≤ lk.length) (fun m=>lk.length - m) 0 (chk_of cl2) cl3 (Nat.zero_le _) ?_
     rintro m hm
     have hcm : (List.range m).countP p ≤ (List.range m).length:=List.countP_le_length
     rw [List.length_range] at hcm
     by_cases hml : m < lk.length
     ·obtain ⟨z,hz⟩ : ∃ z,lk[m]? = some z:=⟨_,List.getElem?_eq_getElem hml⟩
      have hz' : lk[((m : Nat) : Int).toNat]? = some z:=hz
      obtain ⟨c,hc⟩ : ∃ c,sk[m]? = some c:=⟨_,List.getElem?_eq_getElem (by omega)⟩
      have hc' : sk[((m : Nat) : Int).toNat]? = some c:=hc
      obtain ⟨v,_,t,g1,g2,g3,g4,g5,g6,g7⟩:=fit_ref hF hrm hlk hz
      have g1' : z[((r.field : Nat) : Int).toNat]? = some v:=g1
      have hpm : p m = (c && decide (v = i)):=by rw [← hp];simp only;rw [kept_of hsk hc,g2]
      have hcs:=countP_range_succ (p:=p) (n:=m)
      rw [hpm] at hcs
      cases c
      ·simp only [Bool.false_and,Bool.false_eq_true,if_false,Nat.add_zero] at hcs
       repeat' (first | refine sk54 ?_ | (intro b;conv=>whnf))
       exact ⟨m + 1,(chk_of cl7),cl3,by omega,by omega⟩
      ·by_cases hvi : v = (i : Int)
       ·simp only [decide_eq_true hvi,Bool.true_and,if_true] at hcs
        repeat' (first | refine sk54 ?_ | (intro b;conv=>whnf))
        exact ⟨m + 1,(chk_of cl7),cl3,by omega,by omega⟩
       ·simp only [decide_eq_false hvi,Bool.and_false,Bool.false_eq_true,if_false,Nat.add_zero] at hcs
        repeat' (first | refine sk54 ?_ | (intro b;conv=>whnf))
        exact ⟨m + 1,(chk_of cl7),cl3,by omega,by omega⟩
     ·obtain rfl : m = lk.length:=by omega
      obtain ⟨f1,f2⟩:=fin _ cE.symm
      repeat' (first | refine sk54 ?_ | (intro b;conv=>whnf) | (with_reducible refine Br.d (fun hc=>?_) (fun hc=>?_)) | (with_reducible refine Br.b (fun hc=>?_) (fun hc=>?_)))
      ·refine Rt.pure (congrArg bD ?_);exact (f1 (by assumption)).symm
      ·refine ⟨q + 1,(chk_of cl2),cl3,⟨by omega,fun n r' hn hr2=>?_⟩,by omega⟩
       by_cases e : n = q
       ·subst e;cases hr.symm.trans hr2;exact f2 (by assumption)
       ·exact hno n r' (by omega) hr2
   ·have hw0:=w1 false false A (by simp [B])
    rcases T1 with ⟨e,v,t,b,g1,g2,g3,g4,g5⟩ | e
    ·rw [g5,decide_eq_true e] at A
     have g1' : y[((r.field : Nat) : Int).toNat]? = some v:=g1
     cases b
     ·cases A
     ·repeat' (first | refine sk54 ?_ | (intro b;conv=>whnf))
      refine ⟨q + 1,(chk_of cl2),cl3,⟨by omega,fun n r' hn hr2=>?_⟩,by omega⟩
      by_cases e : n = q
      ·subst e;cases hr.symm.trans hr2;exact hw0
      ·exact hno n r' (by omega) hr2
    ·repeat' (first | refine sk54 ?_ | (intro b;conv=>whnf))
     refine ⟨q + 1,(chk_of cl2),cl3,⟨by omega,fun n r' hn hr2=>?_⟩,by omega⟩
     by_cases e : n = q
     ·subst e;cases hr.symm.trans hr2;exact hw0
     ·exact hno n r' (by omega) hr2
 ·obtain rfl : q = (refsOf x).length:=by omega
  repeat' (first | refine sk54 ?_ | (intro b;conv=>whnf))
  refine Rt.pure (congrArg bD ?_)
  exact (any_upto hno (Nat.le_refl _)).symm
end
section
open Go
theorem checked0 {x : Sch} {w : Wd} {s : Sb} (hw : Ws w) (hs : Ss s) (h : checkedE x w s = 0) : Fit x w s:=by
 unfold checkedE at h
 split at h
 ·cases h
 ·rename_i h1
  split at h
  ·cases h
  ·rename_i h2
   split at h
   ·cases h
   ·rename_i h3
    exact ⟨snd_of (List.length_eq_zero_iff.1 (by omega)),hw,hs,by simpa using h2,by have h4 : shapedB w s = true:=(by simpa using h3);exact of_decide_eq_true h4⟩
theorem valid_no {x : Sch} {w : Wd} {s : Sb} (h : checkedE x w s ≠ 0) : validS x w s = false:=by unfold validS;rw [decide_eq_false h];rfl
theorem sk78 {A B : Prop} (k : B) (h : Hd7 B → A:=by intro hk7q;(first | refine sb0 ?_ | refine sb1 ?_ | ((with_reducible refine' Cp.by ?hc ?_);(case hc=>first | exact HC | exact HW)) | ((with_reducible refine' CE.pure ?hc ?_);(case hc=>first | exact HC | exact HW)));exact hk7q.run) : A:=h ⟨k⟩
theorem r31_valid (x : Sch) (w : Wd) (s : Sb) (hw : Ws w) (hs : Ss s) (HV : APure Tryz.prog 94 [schD x] (iD (validE x))) : APure Tryz.prog 30 [schD x,slW w,slS2 s] (bD (validS x w s)):=by
 have HC:=r31_checked x w s hw HV
 have hsl:=hs.nk
 by_cases h0 : checkedE x w s = 0
 ·have hF:=checked0 hw hs h0
  have hV : validS x w s = (posOf s).all fun p=>!(keptB s p.1 p.2 && wrongE x w s p.1 p.2):=by unfold validS;rw [decide_eq_true h0];rfl
  rw [hV]
  have HW:=True.intro
  refine APure.of_call (enterX mixed tget_ok Tryz.func30 (by kernel_rfl) rfl Tryz.ntmps30 rfl ?_);intro BB
  repeat' (first | refine sk78 ?_ | (intro b;conv=>whnf))
  refine lp_loopd mixed tget_ok (γ:=Nat) (fun j=>[(7,iD j)]) (fun _=>[]) (fun j=>j ≤ s.length ∧ ∀ (k : Nat) l,k < j → s[k]? = some l → ∀ i,i < l.length → (!(keptB s k i && wrongE x w s k i)) = true) (fun j=>s.length - j) 0 (chk_of cl2) cl3 ⟨Nat.zero_le _,fun k l h=>by omega⟩ ?_
  rintro j ⟨hj,hno⟩
  by_cases hjl : j < s.length
  ·obtain ⟨l,hl⟩ : ∃ l,s[j]? = some l:=⟨_,List.getElem?_eq_getElem hjl⟩
   have hl' : s[((j : Nat) : Int).toNat]? = some l:=hl
   obtain ⟨lw,hlw,hlwl⟩:=lens_get hF.shp.symm hl
   have hll:=hs.nr l (List.mem_of_getElem? hl)
   repeat' (first | refine sk78 ?_ | (intro b;conv=>whnf))
   refine lp_loopd mixed tget_ok (γ:=Nat) (fun i=>[(8,iD i)]) (fun _=>[]) (fun i=>i ≤ l.length ∧ ∀ n,n < i → (!(keptB s j n && wrongE x w s j n)) = true) (fun i=>l.length - i) 0 (chk_of cl2) cl3 ⟨Nat.zero_le _,fun n h=>by omega⟩ ?_
   rintro i ⟨hi,hni⟩
   by_cases hil : i < l.length
   ·obtain ⟨b,hb⟩ : ∃ b,l[i]? = some b:=⟨_,List.getElem?_eq_getElem hil⟩
    have hb' : l[((i : Nat) : Int).toNat]? = some b:=hb
    obtain ⟨y,hy⟩ : ∃ y,lw[i]? = some y:=⟨_,List.getElem?_eq_getElem (by omega)⟩
    have HW:=r31_wrong x w s hF j i lw y hlw hy
    have hke:=kept_of hl hb
    generalize hq : wrongE x w s j i = q at *
    have nxt : (!(b && q)) = true → ∀ n,n < i + 1 → (!(keptB s j n && wrongE x w s j n)) = true:=fun h n hn=>by
     by_cases e : n = i
     ·subst e;rw [hke,hq];exact h
     ·exact hni n (by omega)
    cases b <;> cases q
    all_goals repeat' (first | refine sk78 ?_ | (intro b;conv=>whnf))
    all_goals first
     | (refine Rt.pure (congrArg bD ?_);exact (all_pos_no hl hil (by simp only;rw [hke,hq];rfl)).symm)
     | exact ⟨i + 1,(chk_of cl2),cl3,⟨by omega,nxt rfl⟩,by omega⟩
   ·obtain rfl : i = l.length:=by omega
    repeat' (first | refine sk78 ?_ | (intro b;conv=>whnf))
    refine ⟨j + 1,(chk_of cl2),cl3,⟨by omega,fun k l' hk h1=>?_⟩,by omega⟩
    by_cases e : k = j
    ·subst e;cases hl.symm.trans h1;exact hni
    ·exact hno k l' (by omega) h1
  ·obtain rfl : j = s.length:=by omega
   repeat' (first | refine sk78 ?_ | (intro b;conv=>whnf))
   refine Rt.pure (congrArg bD ?_)
   exact (all_pos.2 (fun k l hl=>hno k l (List.getElem?_eq_some_iff.1 hl).1 hl)).symm
 ·rw [valid_no h0]
  have HW:=True.intro
  refine APure.of_call (enterX mixed tget_ok Tryz.func30 (by kernel_rfl) rfl Tryz.ntmps30 rfl ?_);intro BB
  repeat' (first | refine sk78 ?_ | (intro b;conv=>whnf))
  refine Rt.pure (congrArg bD ?_);rfl
end
section
open Go
abbrev RB : ORep (List Bool):=fun l v s=>RowIs 4 1 (l.map fun b=>[bD b]) v s
abbrev RI : ORep (List Int):=fun l v s=>RowIs 3 1 (l.map fun n=>[iD n]) v s
abbrev RS : ORep Sb:=RowsOf 62 RB
abbrev RW1 : ORep (List (List Int)):=RowsOf 22 RI
abbrev RW : ORep Wd:=RowsOf 75 RW1
theorem frz_b : Frz RB slB:=frz_row _ _ _
theorem frz_i : Frz RI slI:=frz_row _ _ _
theorem frz_s : Frz RS slS2:=frz_rows frz_b
theorem frz_w1 : Frz RW1 slW1:=frz_rows frz_i
theorem frz_w : Frz RW slW:=frz_rows frz_w1
theorem one_b (l : List Bool) : ((l.map fun b=>[bD b]).all fun y=>y.all oneD) = true:=by rw [List.all_eq_true];intro y hy;obtain ⟨b,_,rfl⟩:=List.mem_map.1 hy;rfl
theorem clone_b (l : List Bool) (hl : l.length ≤ 1000000) : ACall Tryz.prog 93 [slB l] [] (fun d s=>∃ v,d = .v v ∧ RB l v s):=by
 refine enterX mixed tget_ok Tryz.func93 (by kernel_rfl) rfl Tryz.ntmps93 rfl ?_;intro BB
 repeat' (first | refine sk2 ?_ | (intro b;conv=>whnf))
 refine OtE.nilsl tget_ok rfl rfl rfl rfl rfl (fun e he=>?_)
 repeat' (first | refine sk2 ?_ | (intro b;conv=>whnf) | (with_reducible refine Br.d (fun hc=>?_) (fun hc=>?_)) | (with_reducible refine Br.b (fun hc=>?_) (fun hc=>?_)))
 ·have : l = []:=by simpa using he (by assumption)
  subst this
  exact Rt.same ⟨_,rfl,RowIs.nil _ _⟩
 ·refine Ap.go rfl rfl rfl rfl (RowIs.e0 _ _ (some ⟨b,0,none⟩)) (List.Perm.refl _) (one_b l) (zs:=l.map fun b=>[bD b]) rfl (by simp;omega) (by simp;omega) (fun s'=>s') (fun s'=>by simp) (fun a c s' hr=>?_)
  repeat' (first | refine sk2 ?_ | (intro b;conv=>whnf))
  exact Rt.same ⟨_,rfl,hr⟩
end
section
open Go
def part {α : Type} (x0 : α) (xs : List α) (j : Nat) : List α:=xs.take j ++ List.replicate (xs.length - j) x0
theorem part_len {α : Type} (x0 : α) (xs : List α) {j : Nat} (h : j ≤ xs.length) : (part x0 xs j).length = xs.length:=by simp [part];omega
theorem part_zero {α : Type} (x0 : α) (xs : List α) : part x0 xs 0 = List.replicate xs.length x0:=by simp [part]
theorem part_all {α : Type} (x0 : α) (xs : List α) : part x0 xs xs.length = xs:=by simp [part]
theorem part_get {α : Type} (x0 : α) (xs : List α) {j : Nat} (h : j < xs.length) : (part x0 xs j)[j]? = some x0:=by
 unfold part
 rw [List.getElem?_append_right (by simp;omega),List.getElem?_replicate]
 simp;omega
theorem part_set {α : Type} (x0 : α) (xs : List α) {j : Nat} {x : α} (h : xs[j]? = some x) : (part x0 xs j).set j x = part x0 xs (j + 1):=by
 have hj:=(List.getElem?_eq_some_iff.1 h).1
 unfold part
 rw [List.set_append_right _ _ (by simp;omega),List.take_add_one,h]
 have e : j - (xs.take j).length = 0:=by simp;omega
 rw [e]
 obtain ⟨d,hd⟩ : ∃ d,xs.length - j = d + 1:=⟨xs.length - j - 1,by omega⟩
 rw [hd,show xs.length - (j + 1) = d by omega,List.replicate_succ]
 simp
theorem Mk.go {T : TypeId → Option TI} {σ : Store} {t e : TypeId} {i j : TI} {ag : Bool} {by_ m' : Nat} {z : ZV} {K : D → Store → Prop} (m : Nat) (h1 : T t = some i) (h2 : i.sl = some (e,ag,1,by_)) (h3 : T e = some j) (h4 : j.zero = [z]) (h5 : j.size = 1) (hm : m' = m) (hb : by_ * m ≤ 281474976710656) (hl : m ≤ 1000000000)
  (k : ∀ b,W (K (.v (.slice (some ⟨b,0,none⟩) m m)) ((b,.cells e (List.replicate m (.v (zv z)))) :: σ))) : Mk T σ t (.v (.int .i64 m')) (.v (.int .i64 m')) K:=by
 subst hm
 exact ⟨e,i,j,ag,by_,m',z,h1,h2,h3,h4,h5,rfl,rfl,hb,hl,fun b=>(k b).h⟩
theorem cl_copied (s : Sb) (hs : Ss s) : ACall Tryz.prog 67 [slS2 s] [] (fun d σ=>∃ v,d = .v v ∧ RS s v σ):=by
 have hsl:=hs.nk
 refine enterX mixed tget_ok Tryz.func67 (by kernel_rfl) rfl Tryz.ntmps67 rfl ?_;intro BB
 repeat' (first | refine sk2 ?_ | (intro b;conv=>whnf))
 refine Mk.go s.length rfl rfl rfl rfl rfl (by simp) (by omega) (by omega) (fun b=>?_)
 repeat' (first | refine sk2 ?_ | (intro b;conv=>whnf))
 refine lp_loopd mixed tget_ok (γ:=Nat × Store) (fun g=>[(11,iD g.1)]) (fun g=>g.2) (fun g=>g.1 ≤ s.length ∧ RS (part [] s g.1) (.slice (some ⟨b,0,none⟩) s.length s.length) g.2) (fun g=>s.length - g.1) (0,[(b,.cells 62 (List.replicate s.length (.v (.slice none 0 0))))]) (chk_of cl2) cl3 ⟨Nat.zero_le _,by rw [part_zero];exact RowsOf.made (R:=RB) (x0:=[]) (RowIs.nil _ _) s.length b (by unfold maxLen;omega)⟩ ?_
 rintro ⟨j,τ⟩ ⟨hj,hR⟩
 simp only at hj hR ⊢
 by_cases hjl : j < s.length
 ·obtain ⟨l,hl⟩ : ∃ l,s[j]? = some l:=⟨_,List.getElem?_eq_getElem hjl⟩
  have hl' : s[((j : Nat) : Int).toNat]? = some l:=hl
  have hll:=hs.nr l (List.mem_of_getElem? hl)
  obtain ⟨b',cap,cs,u,t,ρ,e1,h2,h3,h4,h5⟩:=hR.at (part_get [] s hjl)
  rw [part_len _ _ hj] at e1
  cases e1
  repeat' (first | refine sk2 ?_ | (intro b;conv=>whnf))
  refine CE.own (clone_b l (by omega)) (List.Perm.refl ([] ++ τ)) (fun s'=>s' ++ τ) (fun s'=>List.Perm.refl _) ?_
  rintro _ s' ⟨v',rfl,hr'⟩
  obtain ⟨a1,c1,rfl⟩:=hr'.slice
  repeat' (first | refine sk2 ?_ | (intro b;conv=>whnf))
  have hcl:=(List.getElem?_eq_some_iff.1 h3).1
  have ho : 0 + ((j : Nat) : Int).toNat * 1 = j:=by simp
  refine Sv.cellm (cs:=cs) (cs':=cs.set j (.v (.slice a1 (l.map fun b=>[bD b]).length c1))) (τ:=s' ++ (t ++ ρ)) ((List.Perm.append_left s' h2).trans List.perm_middle) (by rw [ho];exact hcl) rfl (by rw [ho]) ?_
  repeat' (first | refine sk2 ?_ | (intro b;conv=>whnf))
  exact ⟨(j + 1,(b,.cells 62 (cs.set j (.v (.slice a1 (l.map fun b=>[bD b]).length c1)))) :: (s' ++ ρ)),(chk_of cl2),(List.Sublist.refl s').append (List.sublist_append_right _ _) |>.cons_cons _,⟨by simp only;omega,by simp only;rw [← part_set [] s hl];exact h5 _ _ _ _ hr' (List.Perm.refl _)⟩,by simp only;omega⟩
 ·obtain rfl : j = s.length:=by omega
  rw [part_all] at hR
  repeat' (first | refine sk2 ?_ | (intro b;conv=>whnf))
  exact Rt.same ⟨_,rfl,hR⟩
end
section
open Go
theorem take_succ_get {α : Type} {l : List α} {j : Nat} {x : α} (h : l[j]? = some x) : l.take (j + 1) = l.take j ++ [x]:=by rw [List.take_add_one,h];rfl
theorem RowsOf.push {α : Type} {R : ORep α} {e : TypeId} {xs : List α} {vs : List Value} {s0 t s' : Store} {ts : List Store} {v u : Value} {x : α} (h2 : All3 R xs vs ts) (h1 : RowIs e 1 (vs.map (fun u=>[D.v u]) ++ [[D.v u]]) v s0) (hx : R x u t) (hp : s'.Perm (s0 ++ (ts.flatten ++ t))) : RowsOf e R (xs ++ [x]) v s':=
 ⟨vs ++ [u],s0,ts ++ [t],by simpa using h1,h2.append (.cons hx .nil),hp.trans (by simp)⟩
theorem r31_copied (s : Sb) (hs : Ss s) : ACall Tryz.prog 27 [slS2 s] [] (fun d σ=>∃ v,d = .v v ∧ RS s v σ):=by
 have hsl:=hs.nk
 refine enterX mixed tget_ok Tryz.func27 (by kernel_rfl) rfl Tryz.ntmps27 rfl ?_;intro BB
 repeat' (first | refine sk2 ?_ | (intro b;conv=>whnf))
 refine lp_loopd mixed tget_ok (γ:=Nat × Value × Store) (fun g=>[(3,.v g.2.1),(4,iD g.1)]) (fun g=>g.2.2) (fun g=>g.1 ≤ s.length ∧ RS (s.take g.1) g.2.1 g.2.2) (fun g=>s.length - g.1) (0,.slice none 0 0,[]) (chk_of cl2) cl3 ⟨Nat.zero_le _,RowsOf.nil _ _⟩ ?_
 rintro ⟨j,v,τ⟩ ⟨hj,hR⟩
 simp only at hj hR ⊢
 by_cases hjl : j < s.length
 ·obtain ⟨l,hl⟩ : ∃ l,s[j]? = some l:=⟨_,List.getElem?_eq_getElem hjl⟩
  have hl' : s[((j : Nat) : Int).toNat]? = some l:=hl
  have hll:=hs.nr l (List.mem_of_getElem? hl)
  obtain ⟨vs,s0,ts,h1,h2,h3⟩:=hR.ex
  have hlen:=h2.len.1
  rw [List.length_take,Nat.min_eq_left hj] at hlen
  repeat' (first | refine sk2 ?_ | (intro b;conv=>whnf))
  refine Ap.go rfl rfl rfl rfl (RowIs.e0 _ _ (some ⟨b,0,none⟩)) (List.Perm.refl ([] ++ τ)) (one_b l) (zs:=l.map fun b=>[bD b]) rfl (by simp;omega) (by simp;omega) (fun s'=>s' ++ τ) (fun s'=>List.Perm.refl _) (fun a1 c1 s' hr=>?_)
  repeat' (first | refine sk2 ?_ | (intro b;conv=>whnf))
  refine Ap.go rfl rfl rfl rfl h1 (show (s' ++ τ).Perm (s0 ++ (ts.flatten ++ s')) from (List.Perm.append_left s' h3).trans (List.perm_append_comm.trans (by simp))) rfl (zs:=vs.map (fun u=>[D.v u]) ++ [[D.v (.slice a1 (l.map fun b=>[bD b]).length c1)]]) rfl (by simp [hlen];omega) (by simp [hlen];omega) (fun s2=>s2 ++ (ts.flatten ++ s')) (fun s2=>List.Perm.refl _) (fun a2 c2 s2 hr2=>?_)
  repeat' (first | refine sk2 ?_ | (intro b;conv=>whnf))
  exact ⟨(j + 1,_,s2 ++ (ts.flatten ++ s')),(chk_of cl2),cl3,⟨by simp only;omega,by simp only;rw [take_succ_get hl];exact RowsOf.push h2 hr2 hr (List.Perm.refl _)⟩,by simp only;omega⟩
 ·obtain rfl : j = s.length:=by omega
  rw [List.take_of_length_le (Nat.le_refl _)] at hR
  repeat' (first | refine sk2 ?_ | (intro b;conv=>whnf))
  exact Rt.same ⟨_,rfl,hR⟩
end
section
open Go
theorem countP_less {α : Type} [DecidableEq α] {p : α → Bool} {a : α} : ∀ {l : List α},l.Nodup → a ∈ l → p a = true → l.countP (fun q=>p q && !decide (a = q)) + 1 = l.countP p
 | [],_,h,_=>by cases h
 | b :: l,hn,h,hp=>by
  rw [List.nodup_cons] at hn
  rw [List.countP_cons,List.countP_cons]
  by_cases e : a = b
  ·subst e
   have : l.countP (fun q=>p q && !decide (a = q)) = l.countP p:=by
    apply List.countP_congr
    intro q hq
    have : a ≠ q:=fun e=>hn.1 (e ▸ hq)
    simp [this]
   rw [this]
   simp [hp]
  ·have hm : a ∈ l:=by
    rcases List.mem_cons.1 h with h | h
    ·exact absurd h e
    ·exact h
   have:=countP_less hn.2 hm hp
   simp only [e,decide_false,Bool.not_false,Bool.and_true]
   omega
theorem clearB_lens (s : Sb) (k i : Nat) : (clearB s k i).map List.length = s.map List.length:=by
 apply List.ext_getElem?
 intro j
 simp only [clearB,List.getElem?_map,List.getElem?_set]
 by_cases h : k = j
 ·subst h
  by_cases hl : k < s.length
  ·simp [hl,List.getD_eq_getElem?_getD]
  ·simp [hl]
 ·simp [h]
theorem size_clear {s : Sb} {k i : Nat} (h : keptB s k i = true) : sizeE (clearB s k i) + 1 = sizeE s:=by
 rw [sizeE_pos,sizeE_pos]
 unfold keptL
 rw [← List.countP_eq_length_filter,← List.countP_eq_length_filter,posOf_clear]
 rw [← countP_less (p:=fun p=>keptB s p.1 p.2) (a:=(k,i)) (posOf_nodup s) (keptB_pos (p:=(k,i)) h) h]
 congr 1
 apply List.countP_congr
 intro q _
 rw [keptB_clear]
 have : (decide (k = q.1) && decide (i = q.2)) = decide ((k,i) = q):=by
  obtain ⟨a,b⟩:=q
  simp [Bool.decide_and]
 rw [this]
section
variable {x : Sch} {w : Wd}
theorem sweep1_lens (t : Sb × Bool) (p : Nat × Nat) : (sweep1 x w t p).1.map List.length = t.1.map List.length:=by
 unfold sweep1;split
 ·exact clearB_lens _ _ _
 ·rfl
theorem fold_lens (l : List (Nat × Nat)) (t : Sb × Bool) : (l.foldl (sweep1 x w) t).1.map List.length = t.1.map List.length:=by
 induction l generalizing t with
 | nil=>rfl
 | cons p l ih=>rw [List.foldl_cons,ih,sweep1_lens]
theorem sweep1_other {t : Sb × Bool} {p q : Nat × Nat} (h : q ≠ p) : keptB (sweep1 x w t p).1 q.1 q.2 = keptB t.1 q.1 q.2:=by
 unfold sweep1;split
 ·rw [keptB_clear]
  have : (decide (p.1 = q.1) && decide (p.2 = q.2)) = false:=by
   rw [Bool.eq_false_iff];intro e
   simp only [Bool.and_eq_true,decide_eq_true_eq] at e
   exact h (Prod.ext e.1.symm e.2.symm)
  simp [this]
 ·rfl
theorem fold_other {l : List (Nat × Nat)} {q : Nat × Nat} (h : q ∉ l) (t : Sb × Bool) : keptB (l.foldl (sweep1 x w) t).1 q.1 q.2 = keptB t.1 q.1 q.2:=by
 induction l generalizing t with
 | nil=>rfl
 | cons p l ih=>
  rw [List.foldl_cons,ih (fun hm=>h (List.mem_cons_of_mem _ hm)),sweep1_other (fun e=>h (by rw [e];exact List.mem_cons_self))]
theorem fold_inv (l : List (Nat × Nat)) (s : Sb) : ∀ t : Sb × Bool,(t.2 = false → t.1 = s) → sizeE t.1 ≤ sizeE s → (t.2 = true → sizeE t.1 < sizeE s) →
  ((l.foldl (sweep1 x w) t).2 = false → (l.foldl (sweep1 x w) t).1 = s) ∧ sizeE (l.foldl (sweep1 x w) t).1 ≤ sizeE s ∧ ((l.foldl (sweep1 x w) t).2 = true → sizeE (l.foldl (sweep1 x w) t).1 < sizeE s):=by
 induction l with
 | nil=>intro t h1 h2 h3;exact ⟨h1,h2,h3⟩
 | cons p l ih=>
  intro t h1 h2 h3
  rw [List.foldl_cons]
  have key : ((sweep1 x w t p).2 = false → (sweep1 x w t p).1 = s) ∧ sizeE (sweep1 x w t p).1 ≤ sizeE s ∧ ((sweep1 x w t p).2 = true → sizeE (sweep1 x w t p).1 < sizeE s):=by
   unfold sweep1
   split
   ·rename_i h
    simp only [Bool.and_eq_true] at h
    have:=size_clear h.1
    exact ⟨(fun h=>by cases h),by simp only;omega,fun _=>by simp only;omega⟩
   ·exact ⟨h1,h2,h3⟩
  exact ih _ key.1 key.2.1 key.2.2
theorem sweep_no {s : Sb} (h : (sweepE x w s).2 = false) : (sweepE x w s).1 = s:=(fold_inv (posOf s) s (s,false) (fun _=>rfl) (Nat.le_refl _) (fun h=>by cases h)).1 h
theorem sweep_lt {s : Sb} (h : (sweepE x w s).2 = true) : sizeE (sweepE x w s).1 < sizeE s:=(fold_inv (posOf s) s (s,false) (fun _=>rfl) (Nat.le_refl _) (fun h=>by cases h)).2.2 h
theorem shrinkN_any : ∀ (a b : Nat) (s : Sb),sizeE s < a → sizeE s < b → shrinkN x w a s = shrinkN x w b s
 | 0,_,s,h,_=>by omega
 | a + 1,0,s,_,h=>by omega
 | a + 1,b + 1,s,h1,h2=>by
  simp only [shrinkN]
  cases hs : (sweepE x w s).2 with
  | false=>rfl
  | true=>
   simp only [if_true]
   have:=sweep_lt hs
   exact shrinkN_any a b _ (by omega) (by omega)
theorem shrink_step (s : Sb) : shrinkE x w s = if (sweepE x w s).2 then shrinkE x w (sweepE x w s).1 else s:=by
 unfold shrinkE
 conv=>lhs;simp only [shrinkN]
 cases hs : (sweepE x w s).2 with
 | false=>simp only [Bool.false_eq_true,if_false];exact sweep_no hs
 | true=>
  simp only [if_true]
  have:=sweep_lt hs
  exact shrinkN_any _ _ _ (by omega) (by omega)
theorem shrink_lens (s : Sb) : ∀ n,(shrinkN x w n s).map List.length = s.map List.length:=by
 intro n
 induction n generalizing s with
 | zero=>rfl
 | succ n ih=>
  simp only [shrinkN]
  split
  ·rw [ih,sweepE,fold_lens]
  ·rw [sweepE,fold_lens]
def swT (x : Sch) (w : Wd) (s : Sb) (k i : Nat) : Sb × Bool:=(posTo s k i).foldl (sweep1 x w) (s,false)
theorem swT_succ (s : Sb) (k i : Nat) : swT x w s k (i + 1) = sweep1 x w (swT x w s k i) (k,i):=by unfold swT;rw [posTo_succ,List.foldl_append];rfl
theorem swT_row {s : Sb} {k : Nat} {l : List Bool} (h : s[k]? = some l) : swT x w s (k + 1) 0 = swT x w s k l.length:=by unfold swT;rw [posTo_row h]
theorem swT_all (s : Sb) : swT x w s s.length 0 = sweepE x w s:=by unfold swT sweepE;rw [posTo_all]
theorem swT_lens (s : Sb) (k i : Nat) : (swT x w s k i).1.map List.length = s.map List.length:=fold_lens _ _
theorem fold_kept {s : Sb} : ∀ (l : List (Nat × Nat)) (t : Sb × Bool),l.Nodup → (∀ p ∈ l,keptB t.1 p.1 p.2 = keptB s p.1 p.2) → (l.filter fun p=>keptB s p.1 p.2).foldl (sweep1 x w) t = l.foldl (sweep1 x w) t
 | [],t,_,_=>rfl
 | p :: l,t,hn,h=>by
  rw [List.nodup_cons] at hn
  have hp:=h p (by simp)
  have hrest : ∀ q ∈ l,keptB (sweep1 x w t p).1 q.1 q.2 = keptB s q.1 q.2:=fun q hq=>by
   rw [sweep1_other (fun e=>hn.1 (by rw [← e];exact hq))]
   exact h q (by simp [hq])
  rw [List.filter_cons]
  split
  ·rw [List.foldl_cons,List.foldl_cons]
   exact fold_kept l _ hn.2 hrest
  ·rename_i hk
   have e : sweep1 x w t p = t:=by
    unfold sweep1;rw [hp,(by simpa using hk : keptB s p.1 p.2 = false)];simp
   rw [List.foldl_cons,e]
   exact fold_kept l t hn.2 (fun q hq=>h q (by simp [hq]))
def swK (x : Sch) (w : Wd) (s : Sb) (m : Nat) : Sb × Bool:=((keptL s).take m).foldl (sweep1 x w) (s,false)
theorem swK_succ {s : Sb} {m : Nat} {p : Nat × Nat} (h : (keptL s)[m]? = some p) : swK x w s (m + 1) = sweep1 x w (swK x w s m) p:=by
 unfold swK;rw [List.take_add_one,h,List.foldl_append];rfl
theorem swK_all (s : Sb) : swK x w s (keptL s).length = sweepE x w s:=by
 unfold swK sweepE keptL
 rw [List.take_of_length_le (Nat.le_refl _)]
 exact fold_kept _ _ (posOf_nodup s) (fun _ _=>rfl)
theorem swK_kept {s : Sb} {m : Nat} {p : Nat × Nat} (h : (keptL s)[m]? = some p) : keptB (swK x w s m).1 p.1 p.2 = true:=by
 unfold swK
 rw [fold_other]
 ·exact keptL_mem.1 (List.mem_of_getElem? h)
 ·intro hm
  obtain ⟨j,hj⟩:=List.getElem?_of_mem hm
  rw [List.getElem?_take] at hj
  split at hj
  ·rename_i hlt
   have hnd:=keptL_nodup s
   obtain ⟨h1,e1⟩:=List.getElem?_eq_some_iff.1 hj
   obtain ⟨h2,e2⟩:=List.getElem?_eq_some_iff.1 h
   exact List.pairwise_iff_getElem.1 hnd j m h1 h2 hlt (e1.trans e2.symm)
  ·cases hj
theorem swK_lens (s : Sb) (m : Nat) : (swK x w s m).1.map List.length = s.map List.length:=fold_lens _ _
end
end
section
open Go
theorem ss_lens {s t : Sb} (h : t.map List.length = s.map List.length) (hs : Ss s) : Ss t:=by
 refine ⟨by have:=congrArg List.length h;simp at this;have:=hs.nk;omega,fun l hl=>?_⟩
 obtain ⟨k,hk⟩:=List.getElem?_of_mem hl
 obtain ⟨m,hm,e⟩:=lens_get h hk
 have:=hs.nr m (List.mem_of_getElem? hm)
 omega
theorem Fit.lens {x : Sch} {w : Wd} {s t : Sb} (hF : Fit x w s) (h : t.map List.length = s.map List.length) : Fit x w t:=⟨hF.snd,hF.ws,ss_lens h hF.ss,hF.fit,hF.shp.trans h.symm⟩
theorem clear_set {t : Sb} {j i : Nat} {l : List Bool} (hl : t[j]? = some l) : t.set j (l.set i false) = clearB t j i:=by unfold clearB;rw [getD_get hl]
def shI (x : Sch) (w : Wd) (s : Sb) (again : Bool) (t : Sb) : Prop:=t.map List.length = s.map List.length ∧ (if again = true then shrinkE x w t = shrinkE x w s else t = shrinkE x w s)
theorem r31_shrunk (x : Sch) (w : Wd) (s : Sb) (hF : Fit x w s) : ACall Tryz.prog 45 [schD x,slW w,slS2 s] [] (fun d σ=>∃ v,d = .v v ∧ RS (shrinkE x w s) v σ):=by
 have hsl:=hF.ss.nk
 refine enterX mixed tget_ok Tryz.func45 (by kernel_rfl) rfl Tryz.ntmps45 rfl ?_;intro BB
 repeat' (first | refine sk2 ?_ | (intro b;conv=>whnf))
 refine CE.own (r31_copied s hF.ss) (List.Perm.refl []) (fun s'=>s') (fun s'=>by simp) ?_
 rintro _ σ0 ⟨v,rfl,hR0⟩
 obtain ⟨a0,c0,rfl⟩:=hR0.slice
 repeat' (first | refine sk2 ?_ | (intro b;conv=>whnf))
 refine lp_loopd mixed tget_ok (γ:=Bool × Sb × Store) (fun g=>[(8,bD g.1)]) (fun g=>g.2.2) (fun g=>shI x w s g.1 g.2.1 ∧ RS g.2.1 (.slice a0 s.length c0) g.2.2) (fun g=>if g.1 = true then sizeE g.2.1 + 1 else 0) (true,s,σ0) (chk_of cl2) cl3 ⟨⟨rfl,rfl⟩,hR0⟩ ?_
 rintro ⟨ag,t,σ⟩ ⟨⟨hlen,hsh⟩,hR⟩
 simp only at hlen hsh hR ⊢
 cases ag with
 | false=>
  simp only [Bool.false_eq_true,if_false] at hsh
  rw [hsh] at hR
  repeat' (first | refine sk2 ?_ | (intro b;conv=>whnf))
  exact Rt.same ⟨_,rfl,hR⟩
 | true=>
  simp only [if_true] at hsh
  have htl : t.length = s.length:=by have:=congrArg List.length hlen;simpa using this
  have hFt:=hF.lens hlen
  repeat' (first | refine sk2 ?_ | (intro b;conv=>whnf))
  refine lp_loopd mixed tget_ok (γ:=Nat × Store) (fun g=>[(8,bD (swT x w t g.1 0).2),(9,iD g.1)]) (fun g=>g.2) (fun g=>g.1 ≤ t.length ∧ RS (swT x w t g.1 0).1 (.slice a0 s.length c0) g.2) (fun g=>t.length - g.1) (0,σ) (chk_of cl2) cl3 ⟨Nat.zero_le _,hR⟩ ?_
  rintro ⟨j,σ1⟩ ⟨hj,hR1⟩
  simp only at hj hR1 ⊢
  by_cases hjl : j < t.length
  ·obtain ⟨l,hl⟩ : ∃ l,t[j]? = some l:=⟨_,List.getElem?_eq_getElem hjl⟩
   have hll:=hFt.ss.nr l (List.mem_of_getElem? hl)
   repeat' (first | refine sk2 ?_ | (intro b;conv=>whnf))
   refine lp_loopd mixed tget_ok (γ:=Nat × Store) (fun g=>[(8,bD (swT x w t j g.1).2),(10,iD g.1)]) (fun g=>g.2) (fun g=>g.1 ≤ l.length ∧ RS (swT x w t j g.1).1 (.slice a0 s.length c0) g.2) (fun g=>l.length - g.1) (0,σ1) (chk_of cl2) cl3 ⟨Nat.zero_le _,hR1⟩ ?_
   rintro ⟨i,σ2⟩ ⟨hi,hR2⟩
   simp only at hi hR2 ⊢
   obtain ⟨l2,hl2,hl2l⟩:=lens_get (swT_lens (x:=x) (w:=w) t j i).symm hl
   have hF2:=hFt.lens (swT_lens (x:=x) (w:=w) t j i)
   have hT2:=swT_succ (x:=x) (w:=w) t j i
   generalize hU : swT x w t j i = U at *
   have hUl : U.1.length = t.length:=by have:=congrArg List.length hF2.shp;have:=congrArg List.length hFt.shp;simp at *;omega
   by_cases hil : i < l.length
   ·obtain ⟨b,hb⟩ : ∃ b,l2[i]? = some b:=⟨_,List.getElem?_eq_getElem (by omega)⟩
    obtain ⟨b0,cap0,cs0,b1,cap1,cs1,ρ,e1,h2,h3,h4,h5⟩:=rows_open hR2 hl2 hb
    rw [hUl,htl] at e1
    cases e1
    have m0 : (b0,Blk.cells 62 cs0) ∈ σ2:=h2.mem_iff.2 (by simp)
    have m1 : (b1,Blk.cells 4 cs1) ∈ σ2:=h2.mem_iff.2 (by simp)
    repeat' (first | refine sk2 ?_ | (intro b;conv=>whnf))
    refine Ld.cellm (cs:=cs0) m0 (by rw [ix1];exact h3) ?_
    repeat' (first | refine sk2 ?_ | (intro b;conv=>whnf))
    refine Ld.cellm (cs:=cs0) m0 (by rw [ix1];exact h3) ?_
    repeat' (first | refine sk2 ?_ | (intro b;conv=>whnf))
    refine Ld.cellm (cs:=cs1) m1 (by rw [ix1];exact h4) ?_
    have hT3 : swT x w t j (i + 1) = sweep1 x w U (j,i):=hT2
    have hkb : keptB U.1 j i = b:=by unfold keptB;rw [getD_get hl2,getD_get hb]
    cases b with
    | false=>
     have hs1 : sweep1 x w U (j,i) = U:=by unfold sweep1;rw [hkb];rfl
     rw [hs1] at hT3
     repeat' (first | refine sk2 ?_ | (intro b;conv=>whnf))
     exact ⟨(i + 1,σ2),by rw [hT3];exact (chk_of cl2),cl3,⟨by simp only;omega,by rw [hT3];exact hR2⟩,by simp only;omega⟩
    | true=>
     obtain ⟨wl,hwl,hwll⟩:=lens_get hF2.shp.symm hl2
     obtain ⟨wy,hwy⟩ : ∃ y,wl[i]? = some y:=⟨_,List.getElem?_eq_getElem (by omega)⟩
     repeat' (first | refine sk2 ?_ | (intro b;conv=>whnf))
     refine CE.pk (APk.peek (.cons (Pk.same _) (.cons (Pk.same _) (.cons (Pk.frz frz_s hR2 (show σ2.Perm (σ2 ++ []) by simp)) (.cons (Pk.same _) (.cons (Pk.same _) .nil))))) (r31_wrong x w U.1 hF2 j i wl wy hwl hwy) rfl) ?_
     repeat' (first | refine sk2 ?_ | (intro b;conv=>whnf) | (with_reducible refine Br.d (fun hc=>?_) (fun hc=>?_)) | (with_reducible refine Br.b (fun hc=>?_) (fun hc=>?_)))
     ·have hs1 : sweep1 x w U (j,i) = (clearB U.1 j i,true):=by unfold sweep1;rw [hkb,hc];rfl
      rw [hs1] at hT3
      refine Ld.cellm (cs:=cs0) m0 (by rw [ix1];exact h3) ?_
      repeat' (first | refine sk2 ?_ | (intro b;conv=>whnf))
      refine Sv.cellm (cs:=cs1) (cs':=cs1.set i (bD false)) (τ:=(b0,.cells 62 cs0) :: ρ) (h2.trans (List.Perm.swap _ _ _)) (by rw [ix1];exact (List.getElem?_eq_some_iff.1 h4).1) rfl (by rw [ix1]) ?_
      repeat' (first | refine sk2 ?_ | (intro b;conv=>whnf))
      have hR3:=(h5 false).perm (List.Perm.swap (b0,Blk.cells 62 cs0) (b1,Blk.cells 4 (cs1.set i (bD false))) ρ)
      rw [clear_set hl2] at hR3
      exact ⟨(i + 1,(b1,Blk.cells 4 (cs1.set i (bD false))) :: (b0,.cells 62 cs0) :: ρ),by rw [hT3];exact (chk_of cl2),cl3,⟨by simp only;omega,by rw [hT3];exact hR3⟩,by simp only;omega⟩
     ·have hs1 : sweep1 x w U (j,i) = U:=by unfold sweep1;rw [hkb,hc];rfl
      rw [hs1] at hT3
      exact ⟨(i + 1,σ2),by rw [hT3];exact (chk_of cl2),cl3,⟨by simp only;omega,by rw [hT3];exact hR2⟩,by simp only;omega⟩
   ·obtain rfl : i = l.length:=by omega
    have hrow:=swT_row (x:=x) (w:=w) hl
    rw [hU] at hrow
    obtain ⟨b0,cap0,cs0,a1,c1,e1,m0,h3⟩:=rows_head hR2 hl2
    rw [hUl,htl] at e1
    cases e1
    repeat' (first | refine sk2 ?_ | (intro b;conv=>whnf))
    refine Ld.cellm (cs:=cs0) m0 (by rw [ix1];exact h3) ?_
    repeat' (first | refine sk2 ?_ | (intro b;conv=>whnf))
    exact ⟨(j + 1,σ2),by rw [hrow];exact (chk_of cl2),cl3,⟨by simp only;omega,by rw [hrow];exact hR2⟩,by simp only;omega⟩
  ·obtain rfl : j = t.length:=by omega
   rw [swT_all] at hR1
   have hst:=shrink_step (x:=x) (w:=w) t
   rw [swT_all]
   cases hag : (sweepE x w t).2 with
   | true=>
    rw [hag] at hst
    have hlt:=sweep_lt hag
    repeat' (first | refine sk2 ?_ | (intro b;conv=>whnf))
    exact ⟨(true,(sweepE x w t).1,σ1),(chk_of cl2),cl3,⟨⟨(fold_lens _ _).trans hlen,by simp only [if_true];rw [← hsh,hst];rfl⟩,hR1⟩,by simp only [if_true];omega⟩
   | false=>
    rw [hag] at hst
    have hno:=sweep_no hag
    repeat' (first | refine sk2 ?_ | (intro b;conv=>whnf))
    exact ⟨(false,(sweepE x w t).1,σ1),(chk_of cl2),cl3,⟨⟨(fold_lens _ _).trans hlen,by simp only [Bool.false_eq_true,if_false];rw [hno,← hsh,hst];rfl⟩,hR1⟩,by simp⟩
end
end Go.Proofs.YtjbbmjjildhfbaaGreatDoor
