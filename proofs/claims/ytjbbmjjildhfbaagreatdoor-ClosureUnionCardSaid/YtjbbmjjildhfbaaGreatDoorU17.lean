/- A part of the proof: Kp Kq Kr Ks Ku Kv Kw Ct Kx Ky Kz Cw Va. -/
import Derived.Test.YtjbbmjjildhfbaaGreatDoorU16
import Derived.Shelf.Abstract
import Derived.WalkKit
import Derived.OwnWalkIn
import Derived.TacticsInMore
import Derived.LoopNIn
import Derived.LoopIn
import Derived.DeepKeys5
set_option maxRecDepth 100000
set_option maxHeartbeats 4000000
set_option linter.unusedVariables false
set_option linter.unusedSimpArgs false
namespace Go.Proofs.YtjbbmjjildhfbaaGreatDoor
section
open Go Go.RowKit Go.Shelf
attribute [local go_sem] Oper.semAt_some
theorem cl_kept (s : Sb) : APure Tryz.prog 46 [slS2 s] (.clo 69 [.ro [slS2 s]]):=by
 refine APure.of_call (enterX mixed tget_ok Tryz.func46 (by kernel_rfl) rfl Tryz.ntmps46 rfl ?_);intro BB
 repeat' (first | refine sk2 ?_ | (intro b;conv=>whnf))
 exact Rt.pure rfl
theorem kept1_in (s : Sb) (hs : Ss s) (l : Nat) (O : Nat → Prop) (J Jx : Nat → World → Prop) (W : World) (b0 o0 : Nat) (ad : Option Addr) (cap : Nat) (va : Nat → Value)
  (h0b : ¬ O b0 ∧ b0 < W.heap.size) (h0 : W.cell? ⟨b0,o0,none⟩ = some (.slice ad s.length cap))
  (h1 : ∀ (k : Nat) m,s[k]? = some m → ∃ b off a2 c2,ad = some ⟨b,off,none⟩ ∧ ¬ O b ∧ b < W.heap.size ∧ W.cell? ⟨b,off + k,none⟩ = some (.slice a2 m.length c2) ∧
   ∀ (i : Nat) x,m[i]? = some x → ∃ b' off',a2 = some ⟨b',off',none⟩ ∧ ¬ O b' ∧ b' < W.heap.size ∧ W.cell? ⟨b',off' + i,none⟩ = some (.bool x))
  (hY : ∀ (k : Nat) (p : Nat × Nat) W1,(keptL s)[k]? = some p → J k W1 → YieldAt Fence.wide 7 Tryz.prog l #[.agg #[.int .i64 p.1,.int .i64 p.2]] W1 fun e W'=>
    (e = .returned (.bool true) ∧ J (k + 1) W' ∧ W1.heap.size ≤ W'.heap.size ∧ ∀ b,b < W.heap.size → ¬ O b → W'.heap[b]? = W1.heap[b]?) ∨ (e = .returned (.bool false) ∧ Jx (k + 1) W'))
  (hJ : J 0 W) : CallsIn Fence.wide 8 Tryz.prog 69 #[.func (.yield l) #[] #[],.pointer (some ⟨b0,o0,none⟩)] W fun e W'=>∃ v,e = .returned v ∧ (J (keptL s).length W' ∨ ∃ k,Jx k W'):=by
 refine callsIn_of_wp Tryz.func69 rfl trivial ?_ rfl
 simp only [Tryz.ntmps69,List.size_toArray,List.length_cons,List.length_nil,Nat.reduceAdd,Nat.reduceSub,Array.replicate_succ,Array.replicate_zero,List.push_toArray,List.append_toArray,List.nil_append,List.cons_append]
 have cellK : ∀ (wr : World),(∀ b,b < W.heap.size → ¬ O b → wr.heap[b]? = W.heap[b]?) → ∀ (b o : Nat) (v : Value),b < W.heap.size → ¬ O b → W.cell? ⟨b,o,none⟩ = some v → wr.cell? ⟨b,o,none⟩ = some v:=
  fun wr h b o v hb hn hc=>(World.cell?_of_block (w:=W) (a:=⟨b,o,none⟩) (h b hb hn)).trans hc
 have hsl:=hs.nk
 gi_wp2
 gi_loopw [9] (fun i wr=>∃ k : Nat,k ≤ s.length ∧ i = .int .i64 k ∧ J (keptTo s k 0).length wr ∧ W.heap.size ≤ wr.heap.size ∧ ∀ b,b < W.heap.size → ¬ O b → wr.heap[b]? = W.heap[b]?) (fun i _=>s.length - (intOf i).toNat)
 case atStart=>exact ⟨0,Nat.zero_le _,rfl,hJ,Nat.le_refl _,fun _ _ _=>rfl⟩
 case round=>
  obtain ⟨k,hk,rfl,hJs,hzs,hks⟩:=hrel
  by_cases hlt : k < s.length
  ·obtain ⟨m,hm⟩ : ∃ m,s[k]? = some m:=⟨_,List.getElem?_eq_getElem hlt⟩
   have hml:=hs.nr m (List.mem_of_getElem? hm)
   obtain ⟨b,off,a2,c2,rfl,hb1,hb2,hb3,hb4⟩:=h1 k m hm
   have hrow:=cellK wr hks b (off + k) _ hb2 hb1 hb3
   gi_wp2
   gi_loopw [16] (fun i wr=>∃ j : Nat,j ≤ m.length ∧ i = .int .i64 j ∧ J (keptTo s k j).length wr ∧ W.heap.size ≤ wr.heap.size ∧ ∀ b,b < W.heap.size → ¬ O b → wr.heap[b]? = W.heap[b]?) (fun i _=>m.length - (intOf i).toNat)
   case atStart=>exact ⟨0,Nat.zero_le _,rfl,hJs,hzs,hks⟩
   case round=>
    clear hJs hzs hks hrow
    obtain ⟨j,hj,rfl,hJs,hzs,hks⟩:=hrel
    by_cases hjl : j < m.length
    ·obtain ⟨x,hx⟩ : ∃ x,m[j]? = some x:=⟨_,List.getElem?_eq_getElem hjl⟩
     obtain ⟨b',off',rfl,hc1,hc2,hc3⟩:=hb4 j x hx
     have hcell:=cellK wr hks b' (off' + j) _ hc2 hc1 hc3
     have hkb:=kept_of hm hx
     cases x
     ·gi_wp2
      refine ⟨fun _ h=>(by cases h),?_⟩
      gi_wp2
      go_roundw
      case rel=>exact ⟨j + 1,by omega,by simp,by rw [keptTo_no hkb];exact hJs,hzs,hks⟩
      case measure=>simp [intOf];omega
     ·obtain ⟨fn,tmps,assign,body,hy,hR⟩:=hY _ (k,j) wr (keptL_next hm hjl hkb) hJs
      gi_wp2
      refine hR.mono ?_
      rintro e W3 (⟨rfl,hJ3,hz3,hk3⟩ | ⟨rfl,hJx3⟩)
      ·gi_wp2
       go_roundw
       case rel=>exact ⟨j + 1,by omega,by simp,by rw [keptTo_yes hkb,List.length_append];exact hJ3,Nat.le_trans hzs hz3,fun b hb hn=>(hk3 b hb hn).trans (hks b hb hn)⟩
       case measure=>simp [intOf];omega
      ·gi_wp2
       refine bodyPost_ret (results_none rfl _ _ _) rfl ?_
       exact ⟨_,rfl,.inr ⟨_,hJx3⟩⟩
    ·obtain rfl : j = m.length:=by omega
     gi_wp2
     go_roundw
     case rel=>exact ⟨k + 1,by omega,by simp,by rw [keptTo_row hm];exact hJs,hzs,hks⟩
     case measure=>simp [intOf];omega
  ·obtain rfl : k = s.length:=by omega
   gi_wp2
   go_end0
   exact ⟨_,rfl,.inl (by rw [keptTo_all] at hJs;exact hJs)⟩
theorem kept_iter (s : Sb) (hs : Ss s) : AIter Tryz.prog 69 [.ro [slS2 s]] ((keptL s).map fun p=>[atD p.1 p.2]):=by
 refine ⟨enters_of Tryz.func69 (by kernel_rfl) rfl,fun O W lb hlb=>?_⟩
 refine ⟨(keptL s).map fun p=>[.agg #[.int .i64 p.1,.int .i64 p.2]],by simp,fun k x vs hx hv=>?_,fun l J Jx hJs hJxs hY hJ=>?_⟩
 ·rw [List.getElem?_map,Option.map_eq_some_iff] at hx hv
  obtain ⟨p,hp,rfl⟩:=hx
  obtain ⟨q,hq,rfl⟩:=hv
  cases hp.symm.trans hq
  exact .cons (Rd.agg [iD p.1,iD p.2] [.int .i64 p.1,.int .i64 p.2] rfl (RdL.vals [.int .i64 p.1,.int .i64 p.2]).at_) .nil
 ·cases lb with
  | nil=>have:=hlb.len;simp at this
  | cons u lb=>
   have : lb = []:=by have:=hlb.len;simpa using this
   subst this
   obtain ⟨b0,o0,va,rfl,g1,g2,g3,g4⟩:=(hlb.at_ 0 _ u rfl rfl).ro_inv
   obtain ⟨ad,cap,vs,e1,hcap,hk1,hc1,hr1⟩:=(g4 0 _ rfl).sl_inv
   have hcell:=g3 0 (by simp)
   rw [e1,List.length_map] at hcell
   refine CallsIn.mono (kept1_in s hs l O J Jx W b0 o0 ad cap va ⟨g1,g2⟩ (by simpa using hcell) (fun k m hm=>?_) (fun k p W1 hp hJ1=>hY k _ W1 (by rw [List.getElem?_map,hp];rfl) hJ1) hJ) (fun e W' h=>by simpa using h)
   have hkm : (s.map fun l=>[slB l])[k]? = some [slB m]:=by rw [List.getElem?_map,hm];rfl
   obtain ⟨b,off,ha,q1,q2,q3⟩:=hc1 k _ hkm
   obtain ⟨a2,c2,vs2,e2,hcap2,hk2,hc2,hr2⟩:=(hr1 k _ hkm 0 _ rfl).sl_inv
   have hcell2:=q3 0 (by omega)
   rw [e2,List.length_map] at hcell2
   refine ⟨b,off,a2,c2,ha,q1,q2,by simpa using hcell2,fun i x hx=>?_⟩
   have hix : (m.map fun b=>[bD b])[i]? = some [bD x]:=by rw [List.getElem?_map,hx];rfl
   obtain ⟨b',off',ha',r1,r2,r3⟩:=hc2 i _ hix
   have hcell3:=r3 0 (by omega)
   rw [(hr2 i _ hix 0 _ rfl).val rfl] at hcell3
   exact ⟨b',off',ha',r1,r2,by simpa using hcell3⟩
end
section
open Go
theorem its_len {s : Sb} {x : List D} (h : x ∈ (keptL s).map fun p=>[atD p.1 p.2]) : x.length = 1:=by
 obtain ⟨p,_,rfl⟩:=List.mem_map.1 h;rfl
theorem its_get {s : Sb} {k : Nat} {x : List D} (h : ((keptL s).map fun p=>[atD p.1 p.2])[k]? = some x) : ∃ p : Nat × Nat,(keptL s)[k]? = some p ∧ x = [atD p.1 p.2]:=by
 rw [List.getElem?_map,Option.map_eq_some_iff] at h
 obtain ⟨p,hp,rfl⟩:=h
 exact ⟨p,hp,rfl⟩
theorem keptL_le {s : Sb} (hs : Ss s) : (keptL s).length ≤ 1000000:=by
 rw [← sizeE_pos]
 have h1:=cnt_take_le hs.nr s.length
 rw [List.take_of_length_le (Nat.le_refl _)] at h1
 have:=hs.nk
 unfold sizeE;omega
theorem sk75 {A B : Prop} (k : B) (h : Hd7 B → A:=by intro hk7q;(first | refine sb0 ?_ | refine sb1 ?_ | ((with_reducible refine' Cp.by ?hc ?_);(case hc=>exact cl_kept _)) | ((with_reducible refine' CE.pure ?hc ?_);(case hc=>exact cl_kept _)));exact hk7q.run) : A:=h ⟨k⟩
theorem cl_size (s : Sb) (hs : Ss s) : APure Tryz.prog 17 [slS2 s] (iD (sizeE s)):=by
 have hkl:=keptL_le hs
 refine APure.of_call (enterX mixed tget_ok Tryz.func17 (by kernel_rfl) rfl Tryz.ntmps17 rfl ?_);intro BB
 repeat' (first | refine sk75 ?_ | (intro b;conv=>whnf))
 generalize b = b3
 refine lp_range mixed tget_ok rfl (kept_iter _ (by assumption)) (fun x hx=>its_len hx) rfl (γ:=Unit) (fun k _=>[(b3,.cells 3 [iD k])]) (fun _ _=>True) () cl3 trivial ?_ ?_
 ·rintro l k _ x hx -
  obtain ⟨p,hp,rfl⟩:=its_get hx
  have hlt:=(List.getElem?_eq_some_iff.1 hp).1
  repeat' (first | refine sk75 ?_ | (intro b;conv=>whnf))
  exact ⟨(),cl3,trivial⟩
 ·rintro _ -
  repeat' (first | refine sk75 ?_ | (intro b;conv=>whnf))
  refine Rt.pure (congrArg iD ?_)
  rw [List.length_map,sizeE_pos]
theorem sk76 {A B : Prop} (k : B) (h : Hd7 B → A:=by intro hk7q;(first | refine sb0 ?_ | refine sb1 ?_ | ((with_reducible refine' Cp.by ?hc ?_);(case hc=>first | exact eqf_ss _ _ (by assumption) | exact cl_size _ (by assumption))) | ((with_reducible refine' CE.pure ?hc ?_);(case hc=>first | exact eqf_ss _ _ (by assumption) | exact cl_size _ (by assumption))));exact hk7q.run) : A:=h ⟨k⟩
theorem sk77 {A B : Prop} (k : B) (h : Hd7 B → A:=by intro hk7q;(first | refine sb0 ?_ | refine sb1 ?_ | ((with_reducible refine' Cp.by ?hc ?_);(case hc=>exact r31_size _ (by assumption))) | ((with_reducible refine' CE.pure ?hc ?_);(case hc=>exact r31_size _ (by assumption))));exact hk7q.run) : A:=h ⟨k⟩
end
section
open Go
structure Fit (x : Sch) (w : Wd) (s : Sb) : Prop where
 snd : Snd x
 ws : Ws w
 ss : Ss s
 fit : fitsB x w = true
 shp : w.map List.length = s.map List.length
theorem fits_inv {x : Sch} {w : Wd} (h : fitsB x w = true) : w.length = x.kinds.length ∧ (∀ (k : Nat) l,w[k]? = some l → l.any (fun r=>!lenOk x k r) = false) ∧ (∀ r ∈ refsOf x,∀ l ∈ w.getD r.kind [],refOk w r l = true) ∧ totalW w ≤ 512:=by
 unfold fitsB at h
 simp only [Bool.and_eq_true,decide_eq_true_eq,List.all_eq_true] at h
 obtain ⟨⟨⟨h1,h2⟩,h3⟩,h4⟩:=h
 refine ⟨h1,fun k l hl=>?_,h3,h4⟩
 unfold lensB at h2
 rw [List.all_eq_true] at h2
 have:=h2 k (List.mem_range.2 (List.getElem?_eq_some_iff.1 hl).1)
 rw [getD_get hl,List.all_eq_true] at this
 rw [List.any_eq_false]
 intro r hr
 simp [this r hr]
theorem fit_ref {x : Sch} {w : Wd} {s : Sb} (hF : Fit x w s) {r : Rf} (hr : r ∈ refsOf x) {l : List (List Int)} (hl : w[r.kind]? = some l) {i : Nat} {y : List Int} (hy : l[i]? = some y) :
  ∃ v z t,y[r.field]? = some v ∧ valOf w r.kind i r.field = v ∧ 0 ≤ v ∧ w[r.up.toNat]? = some z ∧ s[r.up.toNat]? = some t ∧ t.length = z.length ∧ v.toNat < t.length:=by
 obtain ⟨h1,h2,h3,_⟩:=fits_inv hF.fit
 obtain ⟨u1,u2,u3⟩:=hF.snd.up r hr
 have hym:=List.mem_of_getElem? hy
 have hfl:=fits_field hr h2 hl hym
 have hok:=h3 r hr y (by rw [getD_get hl];exact hym)
 obtain ⟨z,hz⟩ : ∃ z,w[r.up.toNat]? = some z:=⟨_,List.getElem?_eq_getElem (by omega)⟩
 obtain ⟨t,ht,htl⟩:=lens_get hF.shp hz
 have hv : y[r.field]? = some y[r.field]:=List.getElem?_eq_getElem hfl
 unfold refOk at hok
 rw [getD_get hv,getD_get hz] at hok
 simp only [Bool.not_eq_true',Bool.or_eq_false_iff,decide_eq_false_iff_not] at hok
 exact ⟨_,z,t,hv,by unfold valOf recOf;rw [getD_get hl,getD_get hy,getD_get hv],by omega,hz,ht,htl,by omega⟩
end
section
open Go
theorem checked0 {x : Sch} {w : Wd} {s : Sb} (hw : Ws w) (hs : Ss s) (h : checkedE x w s = 0) : Fit x w s:=by
 unfold checkedE at h
 split at h
 ·cases h
 ·rename_i h1
  split at h
  ·cases h
  ·rename_i h2
   split at h
   ·cases h
   ·rename_i h3
    exact ⟨snd_of (List.length_eq_zero_iff.1 (by omega)),hw,hs,by simpa using h2,by have h4 : shapedB w s = true:=(by simpa using h3);exact of_decide_eq_true h4⟩
theorem valid_no {x : Sch} {w : Wd} {s : Sb} (h : checkedE x w s ≠ 0) : validS x w s = false:=by unfold validS;rw [decide_eq_false h];rfl
theorem sk78 {A B : Prop} (k : B) (h : Hd7 B → A:=by intro hk7q;(first | refine sb0 ?_ | refine sb1 ?_ | ((with_reducible refine' Cp.by ?hc ?_);(case hc=>first | exact HC | exact HW)) | ((with_reducible refine' CE.pure ?hc ?_);(case hc=>first | exact HC | exact HW)));exact hk7q.run) : A:=h ⟨k⟩
end
section
open Go
abbrev RB : ORep (List Bool):=fun l v s=>RowIs 4 1 (l.map fun b=>[bD b]) v s
abbrev RI : ORep (List Int):=fun l v s=>RowIs 3 1 (l.map fun n=>[iD n]) v s
abbrev RS : ORep Sb:=RowsOf 62 RB
abbrev RW1 : ORep (List (List Int)):=RowsOf 22 RI
abbrev RW : ORep Wd:=RowsOf 75 RW1
theorem frz_b : Frz RB slB:=frz_row _ _ _
theorem frz_i : Frz RI slI:=frz_row _ _ _
theorem frz_s : Frz RS slS2:=frz_rows frz_b
theorem frz_w1 : Frz RW1 slW1:=frz_rows frz_i
theorem frz_w : Frz RW slW:=frz_rows frz_w1
theorem one_b (l : List Bool) : ((l.map fun b=>[bD b]).all fun y=>y.all oneD) = true:=by rw [List.all_eq_true];intro y hy;obtain ⟨b,_,rfl⟩:=List.mem_map.1 hy;rfl
theorem clone_b (l : List Bool) (hl : l.length ≤ 1000000) : ACall Tryz.prog 93 [slB l] [] (fun d s=>∃ v,d = .v v ∧ RB l v s):=by
 refine enterX mixed tget_ok Tryz.func93 (by kernel_rfl) rfl Tryz.ntmps93 rfl ?_;intro BB
 repeat' (first | refine sk2 ?_ | (intro b;conv=>whnf))
 refine OtE.nilsl tget_ok rfl rfl rfl rfl rfl (fun e he=>?_)
 repeat' (first | refine sk2 ?_ | (intro b;conv=>whnf) | (with_reducible refine Br.d (fun hc=>?_) (fun hc=>?_)) | (with_reducible refine Br.b (fun hc=>?_) (fun hc=>?_)))
 ·have : l = []:=by simpa using he (by assumption)
  subst this
  exact Rt.same ⟨_,rfl,RowIs.nil _ _⟩
 ·refine Ap.go rfl rfl rfl rfl (RowIs.e0 _ _ (some ⟨b,0,none⟩)) (List.Perm.refl _) (one_b l) (zs:=l.map fun b=>[bD b]) rfl (by simp;omega) (by simp;omega) (fun s'=>s') (fun s'=>by simp) (fun a c s' hr=>?_)
  repeat' (first | refine sk2 ?_ | (intro b;conv=>whnf))
  exact Rt.same ⟨_,rfl,hr⟩
end
section
open Go
def part {α : Type} (x0 : α) (xs : List α) (j : Nat) : List α:=xs.take j ++ List.replicate (xs.length - j) x0
theorem part_len {α : Type} (x0 : α) (xs : List α) {j : Nat} (h : j ≤ xs.length) : (part x0 xs j).length = xs.length:=by simp [part];omega
theorem part_zero {α : Type} (x0 : α) (xs : List α) : part x0 xs 0 = List.replicate xs.length x0:=by simp [part]
theorem part_all {α : Type} (x0 : α) (xs : List α) : part x0 xs xs.length = xs:=by simp [part]
theorem part_get {α : Type} (x0 : α) (xs : List α) {j : Nat} (h : j < xs.length) : (part x0 xs j)[j]? = some x0:=by
 unfold part
 rw [List.getElem?_append_right (by simp;omega),List.getElem?_replicate]
 simp;omega
theorem part_set {α : Type} (x0 : α) (xs : List α) {j : Nat} {x : α} (h : xs[j]? = some x) : (part x0 xs j).set j x = part x0 xs (j + 1):=by
 have hj:=(List.getElem?_eq_some_iff.1 h).1
 unfold part
 rw [List.set_append_right _ _ (by simp;omega),List.take_add_one,h]
 have e : j - (xs.take j).length = 0:=by simp;omega
 rw [e]
 obtain ⟨d,hd⟩ : ∃ d,xs.length - j = d + 1:=⟨xs.length - j - 1,by omega⟩
 rw [hd,show xs.length - (j + 1) = d by omega,List.replicate_succ]
 simp
theorem Mk.go {T : TypeId → Option TI} {σ : Store} {t e : TypeId} {i j : TI} {ag : Bool} {by_ m' : Nat} {z : ZV} {K : D → Store → Prop} (m : Nat) (h1 : T t = some i) (h2 : i.sl = some (e,ag,1,by_)) (h3 : T e = some j) (h4 : j.zero = [z]) (h5 : j.size = 1) (hm : m' = m) (hb : by_ * m ≤ 281474976710656) (hl : m ≤ 1000000000)
  (k : ∀ b,W (K (.v (.slice (some ⟨b,0,none⟩) m m)) ((b,.cells e (List.replicate m (.v (zv z)))) :: σ))) : Mk T σ t (.v (.int .i64 m')) (.v (.int .i64 m')) K:=by
 subst hm
 exact ⟨e,i,j,ag,by_,m',z,h1,h2,h3,h4,h5,rfl,rfl,hb,hl,fun b=>(k b).h⟩
theorem cl_copied (s : Sb) (hs : Ss s) : ACall Tryz.prog 67 [slS2 s] [] (fun d σ=>∃ v,d = .v v ∧ RS s v σ):=by
 have hsl:=hs.nk
 refine enterX mixed tget_ok Tryz.func67 (by kernel_rfl) rfl Tryz.ntmps67 rfl ?_;intro BB
 repeat' (first | refine sk2 ?_ | (intro b;conv=>whnf))
 refine Mk.go s.length rfl rfl rfl rfl rfl (by simp) (by omega) (by omega) (fun b=>?_)
 repeat' (first | refine sk2 ?_ | (intro b;conv=>whnf))
 refine lp_loopd mixed tget_ok (γ:=Nat × Store) (fun g=>[(11,iD g.1)]) (fun g=>g.2) (fun g=>g.1 ≤ s.length ∧ RS (part [] s g.1) (.slice (some ⟨b,0,none⟩) s.length s.length) g.2) (fun g=>s.length - g.1) (0,[(b,.cells 62 (List.replicate s.length (.v (.slice none 0 0))))]) (chk_of cl2) cl3 ⟨Nat.zero_le _,by rw [part_zero];exact RowsOf.made (R:=RB) (x0:=[]) (RowIs.nil _ _) s.length b (by unfold maxLen;omega)⟩ ?_
 rintro ⟨j,τ⟩ ⟨hj,hR⟩
 simp only at hj hR ⊢
 by_cases hjl : j < s.length
 ·obtain ⟨l,hl⟩ : ∃ l,s[j]? = some l:=⟨_,List.getElem?_eq_getElem hjl⟩
  have hl' : s[((j : Nat) : Int).toNat]? = some l:=hl
  have hll:=hs.nr l (List.mem_of_getElem? hl)
  obtain ⟨b',cap,cs,u,t,ρ,e1,h2,h3,h4,h5⟩:=hR.at (part_get [] s hjl)
  rw [part_len _ _ hj] at e1
  cases e1
  repeat' (first | refine sk2 ?_ | (intro b;conv=>whnf))
  refine CE.own (clone_b l (by omega)) (List.Perm.refl ([] ++ τ)) (fun s'=>s' ++ τ) (fun s'=>List.Perm.refl _) ?_
  rintro _ s' ⟨v',rfl,hr'⟩
  obtain ⟨a1,c1,rfl⟩:=hr'.slice
  repeat' (first | refine sk2 ?_ | (intro b;conv=>whnf))
  have hcl:=(List.getElem?_eq_some_iff.1 h3).1
  have ho : 0 + ((j : Nat) : Int).toNat * 1 = j:=by simp
  refine Sv.cellm (cs:=cs) (cs':=cs.set j (.v (.slice a1 (l.map fun b=>[bD b]).length c1))) (τ:=s' ++ (t ++ ρ)) ((List.Perm.append_left s' h2).trans List.perm_middle) (by rw [ho];exact hcl) rfl (by rw [ho]) ?_
  repeat' (first | refine sk2 ?_ | (intro b;conv=>whnf))
  exact ⟨(j + 1,(b,.cells 62 (cs.set j (.v (.slice a1 (l.map fun b=>[bD b]).length c1)))) :: (s' ++ ρ)),(chk_of cl2),(List.Sublist.refl s').append (List.sublist_append_right _ _) |>.cons_cons _,⟨by simp only;omega,by simp only;rw [← part_set [] s hl];exact h5 _ _ _ _ hr' (List.Perm.refl _)⟩,by simp only;omega⟩
 ·obtain rfl : j = s.length:=by omega
  rw [part_all] at hR
  repeat' (first | refine sk2 ?_ | (intro b;conv=>whnf))
  exact Rt.same ⟨_,rfl,hR⟩
end
section
open Go
theorem take_succ_get {α : Type} {l : List α} {j : Nat} {x : α} (h : l[j]? = some x) : l.take (j + 1) = l.take j ++ [x]:=by rw [List.take_add_one,h];rfl
theorem RowsOf.push {α : Type} {R : ORep α} {e : TypeId} {xs : List α} {vs : List Value} {s0 t s' : Store} {ts : List Store} {v u : Value} {x : α} (h2 : All3 R xs vs ts) (h1 : RowIs e 1 (vs.map (fun u=>[D.v u]) ++ [[D.v u]]) v s0) (hx : R x u t) (hp : s'.Perm (s0 ++ (ts.flatten ++ t))) : RowsOf e R (xs ++ [x]) v s':=
 ⟨vs ++ [u],s0,ts ++ [t],by simpa using h1,h2.append (.cons hx .nil),hp.trans (by simp)⟩
theorem r31_copied (s : Sb) (hs : Ss s) : ACall Tryz.prog 27 [slS2 s] [] (fun d σ=>∃ v,d = .v v ∧ RS s v σ):=by
 have hsl:=hs.nk
 refine enterX mixed tget_ok Tryz.func27 (by kernel_rfl) rfl Tryz.ntmps27 rfl ?_;intro BB
 repeat' (first | refine sk2 ?_ | (intro b;conv=>whnf))
 refine lp_loopd mixed tget_ok (γ:=Nat × Value × Store) (fun g=>[(3,.v g.2.1),(4,iD g.1)]) (fun g=>g.2.2) (fun g=>g.1 ≤ s.length ∧ RS (s.take g.1) g.2.1 g.2.2) (fun g=>s.length - g.1) (0,.slice none 0 0,[]) (chk_of cl2) cl3 ⟨Nat.zero_le _,RowsOf.nil _ _⟩ ?_
 rintro ⟨j,v,τ⟩ ⟨hj,hR⟩
 simp only at hj hR ⊢
 by_cases hjl : j < s.length
 ·obtain ⟨l,hl⟩ : ∃ l,s[j]? = some l:=⟨_,List.getElem?_eq_getElem hjl⟩
  have hl' : s[((j : Nat) : Int).toNat]? = some l:=hl
  have hll:=hs.nr l (List.mem_of_getElem? hl)
  obtain ⟨vs,s0,ts,h1,h2,h3⟩:=hR.ex
  have hlen:=h2.len.1
  rw [List.length_take,Nat.min_eq_left hj] at hlen
  repeat' (first | refine sk2 ?_ | (intro b;conv=>whnf))
  refine Ap.go rfl rfl rfl rfl (RowIs.e0 _ _ (some ⟨b,0,none⟩)) (List.Perm.refl ([] ++ τ)) (one_b l) (zs:=l.map fun b=>[bD b]) rfl (by simp;omega) (by simp;omega) (fun s'=>s' ++ τ) (fun s'=>List.Perm.refl _) (fun a1 c1 s' hr=>?_)
  repeat' (first | refine sk2 ?_ | (intro b;conv=>whnf))
  refine Ap.go rfl rfl rfl rfl h1 (show (s' ++ τ).Perm (s0 ++ (ts.flatten ++ s')) from (List.Perm.append_left s' h3).trans (List.perm_append_comm.trans (by simp))) rfl (zs:=vs.map (fun u=>[D.v u]) ++ [[D.v (.slice a1 (l.map fun b=>[bD b]).length c1)]]) rfl (by simp [hlen];omega) (by simp [hlen];omega) (fun s2=>s2 ++ (ts.flatten ++ s')) (fun s2=>List.Perm.refl _) (fun a2 c2 s2 hr2=>?_)
  repeat' (first | refine sk2 ?_ | (intro b;conv=>whnf))
  exact ⟨(j + 1,_,s2 ++ (ts.flatten ++ s')),(chk_of cl2),cl3,⟨by simp only;omega,by simp only;rw [take_succ_get hl];exact RowsOf.push h2 hr2 hr (List.Perm.refl _)⟩,by simp only;omega⟩
 ·obtain rfl : j = s.length:=by omega
  rw [List.take_of_length_le (Nat.le_refl _)] at hR
  repeat' (first | refine sk2 ?_ | (intro b;conv=>whnf))
  exact Rt.same ⟨_,rfl,hR⟩
end
section
open Go
theorem countP_less {α : Type} [DecidableEq α] {p : α → Bool} {a : α} : ∀ {l : List α},l.Nodup → a ∈ l → p a = true → l.countP (fun q=>p q && !decide (a = q)) + 1 = l.countP p
 | [],_,h,_=>by cases h
 | b :: l,hn,h,hp=>by
  rw [List.nodup_cons] at hn
  rw [List.countP_cons,List.countP_cons]
  by_cases e : a = b
  ·subst e
   have : l.countP (fun q=>p q && !decide (a = q)) = l.countP p:=by
    apply List.countP_congr
    intro q hq
    have : a ≠ q:=fun e=>hn.1 (e ▸ hq)
    simp [this]
   rw [this]
   simp [hp]
  ·have hm : a ∈ l:=by
    rcases List.mem_cons.1 h with h | h
    ·exact absurd h e
    ·exact h
   have:=countP_less hn.2 hm hp
   simp only [e,decide_false,Bool.not_false,Bool.and_true]
   omega
theorem clearB_lens (s : Sb) (k i : Nat) : (clearB s k i).map List.length = s.map List.length:=by
 apply List.ext_getElem?
 intro j
 simp only [clearB,List.getElem?_map,List.getElem?_set]
 by_cases h : k = j
 ·subst h
  by_cases hl : k < s.length
  ·simp [hl,List.getD_eq_getElem?_getD]
  ·simp [hl]
 ·simp [h]
theorem size_clear {s : Sb} {k i : Nat} (h : keptB s k i = true) : sizeE (clearB s k i) + 1 = sizeE s:=by
 rw [sizeE_pos,sizeE_pos]
 unfold keptL
 rw [← List.countP_eq_length_filter,← List.countP_eq_length_filter,posOf_clear]
 rw [← countP_less (p:=fun p=>keptB s p.1 p.2) (a:=(k,i)) (posOf_nodup s) (keptB_pos (p:=(k,i)) h) h]
 congr 1
 apply List.countP_congr
 intro q _
 rw [keptB_clear]
 have : (decide (k = q.1) && decide (i = q.2)) = decide ((k,i) = q):=by
  obtain ⟨a,b⟩:=q
  simp [Bool.decide_and]
 rw [this]
section
variable {x : Sch} {w : Wd}
theorem sweep1_lens (t : Sb × Bool) (p : Nat × Nat) : (sweep1 x w t p).1.map List.length = t.1.map List.length:=by
 unfold sweep1;split
 ·exact clearB_lens _ _ _
 ·rfl
theorem fold_lens (l : List (Nat × Nat)) (t : Sb × Bool) : (l.foldl (sweep1 x w) t).1.map List.length = t.1.map List.length:=by
 induction l generalizing t with
 | nil=>rfl
 | cons p l ih=>rw [List.foldl_cons,ih,sweep1_lens]
theorem sweep1_other {t : Sb × Bool} {p q : Nat × Nat} (h : q ≠ p) : keptB (sweep1 x w t p).1 q.1 q.2 = keptB t.1 q.1 q.2:=by
 unfold sweep1;split
 ·rw [keptB_clear]
  have : (decide (p.1 = q.1) && decide (p.2 = q.2)) = false:=by
   rw [Bool.eq_false_iff];intro e
   simp only [Bool.and_eq_true,decide_eq_true_eq] at e
   exact h (Prod.ext e.1.symm e.2.symm)
  simp [this]
 ·rfl
theorem fold_other {l : List (Nat × Nat)} {q : Nat × Nat} (h : q ∉ l) (t : Sb × Bool) : keptB (l.foldl (sweep1 x w) t).1 q.1 q.2 = keptB t.1 q.1 q.2:=by
 induction l generalizing t with
 | nil=>rfl
 | cons p l ih=>
  rw [List.foldl_cons,ih (fun hm=>h (List.mem_cons_of_mem _ hm)),sweep1_other (fun e=>h (by rw [e];exact List.mem_cons_self))]
theorem fold_inv (l : List (Nat × Nat)) (s : Sb) : ∀ t : Sb × Bool,(t.2 = false → t.1 = s) → sizeE t.1 ≤ sizeE s → (t.2 = true → sizeE t.1 < sizeE s) →
  ((l.foldl (sweep1 x w) t).2 = false → (l.foldl (sweep1 x w) t).1 = s) ∧ sizeE (l.foldl (sweep1 x w) t).1 ≤ sizeE s ∧ ((l.foldl (sweep1 x w) t).2 = true → sizeE (l.foldl (sweep1 x w) t).1 < sizeE s):=by
 induction l with
 | nil=>intro t h1 h2 h3;exact ⟨h1,h2,h3⟩
 | cons p l ih=>
  intro t h1 h2 h3
  rw [List.foldl_cons]
  have key : ((sweep1 x w t p).2 = false → (sweep1 x w t p).1 = s) ∧ sizeE (sweep1 x w t p).1 ≤ sizeE s ∧ ((sweep1 x w t p).2 = true → sizeE (sweep1 x w t p).1 < sizeE s):=by
   unfold sweep1
   split
   ·rename_i h
    simp only [Bool.and_eq_true] at h
    have:=size_clear h.1
    exact ⟨(fun h=>by cases h),by simp only;omega,fun _=>by simp only;omega⟩
   ·exact ⟨h1,h2,h3⟩
  exact ih _ key.1 key.2.1 key.2.2
theorem sweep_no {s : Sb} (h : (sweepE x w s).2 = false) : (sweepE x w s).1 = s:=(fold_inv (posOf s) s (s,false) (fun _=>rfl) (Nat.le_refl _) (fun h=>by cases h)).1 h
theorem sweep_lt {s : Sb} (h : (sweepE x w s).2 = true) : sizeE (sweepE x w s).1 < sizeE s:=(fold_inv (posOf s) s (s,false) (fun _=>rfl) (Nat.le_refl _) (fun h=>by cases h)).2.2 h
theorem shrinkN_any : ∀ (a b : Nat) (s : Sb),sizeE s < a → sizeE s < b → shrinkN x w a s = shrinkN x w b s
 | 0,_,s,h,_=>by omega
 | a + 1,0,s,_,h=>by omega
 | a + 1,b + 1,s,h1,h2=>by
  simp only [shrinkN]
  cases hs : (sweepE x w s).2 with
  | false=>rfl
  | true=>
   simp only [if_true]
   have:=sweep_lt hs
   exact shrinkN_any a b _ (by omega) (by omega)
theorem shrink_step (s : Sb) : shrinkE x w s = if (sweepE x w s).2 then shrinkE x w (sweepE x w s).1 else s:=by
 unfold shrinkE
 conv=>lhs;simp only [shrinkN]
 cases hs : (sweepE x w s).2 with
 | false=>simp only [Bool.false_eq_true,if_false];exact sweep_no hs
 | true=>
  simp only [if_true]
  have:=sweep_lt hs
  exact shrinkN_any _ _ _ (by omega) (by omega)
theorem shrink_lens (s : Sb) : ∀ n,(shrinkN x w n s).map List.length = s.map List.length:=by
 intro n
 induction n generalizing s with
 | zero=>rfl
 | succ n ih=>
  simp only [shrinkN]
  split
  ·rw [ih,sweepE,fold_lens]
  ·rw [sweepE,fold_lens]
theorem fold_kept {s : Sb} : ∀ (l : List (Nat × Nat)) (t : Sb × Bool),l.Nodup → (∀ p ∈ l,keptB t.1 p.1 p.2 = keptB s p.1 p.2) → (l.filter fun p=>keptB s p.1 p.2).foldl (sweep1 x w) t = l.foldl (sweep1 x w) t
 | [],t,_,_=>rfl
 | p :: l,t,hn,h=>by
  rw [List.nodup_cons] at hn
  have hp:=h p (by simp)
  have hrest : ∀ q ∈ l,keptB (sweep1 x w t p).1 q.1 q.2 = keptB s q.1 q.2:=fun q hq=>by
   rw [sweep1_other (fun e=>hn.1 (by rw [← e];exact hq))]
   exact h q (by simp [hq])
  rw [List.filter_cons]
  split
  ·rw [List.foldl_cons,List.foldl_cons]
   exact fold_kept l _ hn.2 hrest
  ·rename_i hk
   have e : sweep1 x w t p = t:=by
    unfold sweep1;rw [hp,(by simpa using hk : keptB s p.1 p.2 = false)];simp
   rw [List.foldl_cons,e]
   exact fold_kept l t hn.2 (fun q hq=>h q (by simp [hq]))
def swK (x : Sch) (w : Wd) (s : Sb) (m : Nat) : Sb × Bool:=((keptL s).take m).foldl (sweep1 x w) (s,false)
theorem swK_succ {s : Sb} {m : Nat} {p : Nat × Nat} (h : (keptL s)[m]? = some p) : swK x w s (m + 1) = sweep1 x w (swK x w s m) p:=by
 unfold swK;rw [List.take_add_one,h,List.foldl_append];rfl
theorem swK_all (s : Sb) : swK x w s (keptL s).length = sweepE x w s:=by
 unfold swK sweepE keptL
 rw [List.take_of_length_le (Nat.le_refl _)]
 exact fold_kept _ _ (posOf_nodup s) (fun _ _=>rfl)
theorem swK_kept {s : Sb} {m : Nat} {p : Nat × Nat} (h : (keptL s)[m]? = some p) : keptB (swK x w s m).1 p.1 p.2 = true:=by
 unfold swK
 rw [fold_other]
 ·exact keptL_mem.1 (List.mem_of_getElem? h)
 ·intro hm
  obtain ⟨j,hj⟩:=List.getElem?_of_mem hm
  rw [List.getElem?_take] at hj
  split at hj
  ·rename_i hlt
   have hnd:=keptL_nodup s
   obtain ⟨h1,e1⟩:=List.getElem?_eq_some_iff.1 hj
   obtain ⟨h2,e2⟩:=List.getElem?_eq_some_iff.1 h
   exact List.pairwise_iff_getElem.1 hnd j m h1 h2 hlt (e1.trans e2.symm)
  ·cases hj
theorem swK_lens (s : Sb) (m : Nat) : (swK x w s m).1.map List.length = s.map List.length:=fold_lens _ _
end
end
section
open Go
theorem ss_lens {s t : Sb} (h : t.map List.length = s.map List.length) (hs : Ss s) : Ss t:=by
 refine ⟨by have:=congrArg List.length h;simp at this;have:=hs.nk;omega,fun l hl=>?_⟩
 obtain ⟨k,hk⟩:=List.getElem?_of_mem hl
 obtain ⟨m,hm,e⟩:=lens_get h hk
 have:=hs.nr m (List.mem_of_getElem? hm)
 omega
theorem Fit.lens {x : Sch} {w : Wd} {s t : Sb} (hF : Fit x w s) (h : t.map List.length = s.map List.length) : Fit x w t:=⟨hF.snd,hF.ws,ss_lens h hF.ss,hF.fit,hF.shp.trans h.symm⟩
theorem clear_set {t : Sb} {j i : Nat} {l : List Bool} (hl : t[j]? = some l) : t.set j (l.set i false) = clearB t j i:=by unfold clearB;rw [getD_get hl]
def shI (x : Sch) (w : Wd) (s : Sb) (again : Bool) (t : Sb) : Prop:=t.map List.length = s.map List.length ∧ (if again = true then shrinkE x w t = shrinkE x w s else t = shrinkE x w s)
end
section
open Go
theorem fl_b (l : List Bool) (v : Value) (s : Store) (h : RB l v s) : FlS s:=FlS.row h (fun x hx d hd=>by obtain ⟨b,_,rfl⟩:=List.mem_map.1 hx;rw [List.mem_singleton] at hd;subst hd;rfl)
theorem fl_s (x : Sb) (v : Value) (s : Store) (h : RS x v s) : FlS s:=FlS.rows fl_b h
theorem rs_nil : RS [] (.slice none 0 0) []:=RowsOf.nil _ _
theorem great_no {x : Sch} {w : Wd} {s : Sb} (h : checkedE x w s ≠ 0) : greatE x w s = ([],checkedE x w s):=by unfold greatE;rw [if_pos h]
theorem great_yes {x : Sch} {w : Wd} {s : Sb} (h : checkedE x w s = 0) : greatE x w s = (shrinkE x w s,0):=by unfold greatE;rw [if_neg (by simpa using h)]
theorem wout_no {x : Sch} {w : Wd} {s : Sb} {k i : Int} (h : checkedE x w s ≠ 0) : withoutE x w s k i = ([],checkedE x w s):=by unfold withoutE;rw [if_pos h]
theorem wout_6 {x : Sch} {w : Wd} {s : Sb} {k i : Int} (h : checkedE x w s = 0) (h2 : keepsB s k i = false) : withoutE x w s k i = ([],6):=by unfold withoutE;rw [if_neg (by simpa using h),if_pos h2]
theorem wout_yes {x : Sch} {w : Wd} {s : Sb} {k i : Int} (h : checkedE x w s = 0) (h2 : keepsB s k i = true) : withoutE x w s k i = (shrinkE x w (clearB s k.toNat i.toNat),0):=by unfold withoutE;rw [if_neg (by simpa using h),if_neg (by simp [h2])]
theorem keeps_inv {s : Sb} {k i : Int} (h : keepsB s k i = true) : ∃ (a b : Nat) (l : List Bool),k = a ∧ i = b ∧ s[a]? = some l ∧ l[b]? = some true:=by
 unfold keepsB at h
 simp only [Bool.and_eq_true,decide_eq_true_eq] at h
 obtain ⟨⟨h1,h2⟩,h3⟩:=h
 obtain ⟨a,rfl⟩:=Int.eq_ofNat_of_zero_le h1
 obtain ⟨b,rfl⟩:=Int.eq_ofNat_of_zero_le h2
 simp only [Int.toNat_natCast] at h3
 unfold keptB at h3
 simp only [List.getD_eq_getElem?_getD] at h3
 cases h4 : s[a]? with
 | none=>simp [h4] at h3
 | some l=>
  simp only [h4,Option.getD_some] at h3
  refine ⟨a,b,l,rfl,rfl,h4,?_⟩
  cases h5 : l[b]? with
  | none=>simp [h5] at h3
  | some c=>simp only [h5,Option.getD_some] at h3;rw [h3]
theorem sk79 {A B : Prop} (k : B) (h : Hd7 B → A:=by intro hk7q;(first | refine sb0 ?_ | refine sb1 ?_ | ((with_reducible refine' Cp.by ?hc ?_);(case hc=>first | exact HC | exact HK)) | ((with_reducible refine' CE.pure ?hc ?_);(case hc=>first | exact HC | exact HK)));exact hk7q.run) : A:=h ⟨k⟩
end
section
open Go
theorem wout_lens {x : Sch} {w : Wd} {s : Sb} {k i : Int} (h : (withoutE x w s k i).2 = 0) : (withoutE x w s k i).1.map List.length = s.map List.length:=by
 unfold withoutE at h ⊢
 split at h
 ·rename_i h1;exact absurd h h1
 ·rename_i h1
  split at h
  ·cases h
  ·rename_i h2
   rw [if_neg h1,if_neg h2]
   exact (shrink_lens _ _).trans (clearB_lens _ _ _)
theorem wout_fit {x : Sch} {w : Wd} {s : Sb} {k i : Int} (hw : Ws w) (hs : Ss s) (h : (withoutE x w s k i).2 = 0) : Fit x w s:=by
 refine checked0 hw hs ?_
 unfold withoutE at h
 split at h
 ·exact h
 ·rename_i h1;simpa using h1
abbrev RA : ORep (List (Nat × Nat)):=fun l v s=>RowIs 33 2 (l.map fun p=>atC p.1 p.2) v s
theorem tog_no {x : Sch} {w : Wd} {s : Sb} {k i : Int} (h : (withoutE x w s k i).2 ≠ 0) : togetherE x w s k i = ([],(withoutE x w s k i).2):=by unfold togetherE;rw [if_pos h]
theorem tog_yes {x : Sch} {w : Wd} {s : Sb} {k i : Int} (h : (withoutE x w s k i).2 = 0) : togetherE x w s k i = ((keptL s).filter (fun p=>!keptB (withoutE x w s k i).1 p.1 p.2),0):=by unfold togetherE;rw [if_neg (by simpa using h)]
end
section
open Go Go.Maps Go.MapKept
theorem laid_out : laidOutB Tryz.prog = true:=by kernel_rfl
theorem at_keyed : Keyed Tryz.prog 33:=Keyed.of_law (deep_law_laid laid_out (m:=2) (by omega) (of_decide_eq_true (by kernel_rfl)) (by kernel_rfl) (by rw [Tryz.underlying33]))
theorem at_ktype : Tryz.prog.keyType 33 = true:=by kernel_rfl
def atV (a b : Int) : Value:=.agg #[.int .i64 a,.int .i64 b]
theorem at_cells : Tryz.prog.cellsOf 33 = 2:=by kernel_rfl
theorem cells_int1 : Tryz.prog.cellsOf 3 = 1:=by kernel_rfl
theorem at_formed (a b : Int) : (atV a b).formed Tryz.prog 33 = true:=by
 simp [atV,Value.formed,Tryz.underlying33,at_cells]
theorem int_lits (n : Nat) {a : Int} (ha : (Lit.int .i64 a).wf = true) : Tryz.prog.keyLits (n + 1) 3 [.int .i64 a] = some [.int .i64 a]:=by
 simp only [Program.keyLits,Tryz.underlying3,ha]
 simp
theorem at_key {a b : Int} (ha : (Lit.int .i64 a).wf = true) (hb : (Lit.int .i64 b).wf = true) : ∃ l,keyOf Tryz.prog 33 (atV a b) = some l:=by
 unfold keyOf
 rw [Tryz.underlying33]
 simp only [at_ktype,at_formed,Bool.and_self,if_true]
 have : ∃ n,Tryz.prog.types.size = n + 1:=⟨Tryz.prog.types.size - 1,by have : 0 < Tryz.prog.types.size:=of_decide_eq_true (by kernel_rfl);omega⟩
 obtain ⟨n,hn⟩:=this
 rw [hn]
 have : Tryz.prog.keyLits (n + 1 + 1) 33 (atV a b).cells.toList = some [.int .i64 a,.int .i64 b]:=by
  unfold Program.keyLits
  simp [atV,Value.cells,Tryz.underlying33,at_cells,cells_int1,int_lits n ha,int_lits n hb]
 rw [this]
 exact ⟨_,rfl⟩
theorem int_keyed' : Keyed Tryz.prog 3:=int_keyed Tryz.underlying3
theorem int_key {a : Int} (ha : (Lit.int .i64 a).wf = true) : keyOf Tryz.prog 3 (.int .i64 a) = some (.int .i64 a):=keyOf_int_mk Tryz.underlying3 ha
theorem wf64 {a : Int} (h1 : -9223372036854775808 ≤ a) (h2 : a ≤ 9223372036854775807) : (Lit.int .i64 a).wf = true:=by
 have e1 : IntKind.i64.min = -9223372036854775808:=rfl
 have e2 : IntKind.i64.max = 9223372036854775807:=rfl
 simp [Lit.wf,e1,e2,h1,h2]
theorem zero_int (w : World) : (zeroValue 3).run Tryz.prog w = .ok (.int .i64 0) w:=by kernel_rfl
theorem zero_map (w : World) : (zeroValue 116).run Tryz.prog w = .ok (.map none) w:=by kernel_rfl
theorem atV_inj {a b c d : Int} (h : atV a b = atV c d) : a = c ∧ b = d:=by
 simp only [atV,Value.agg.injEq] at h
 have:=congrArg Array.toList h
 simp at this
 exact this
def outF (bs : List Nat) : Value → Option Value
 | .int .i64 n=>if 0 ≤ n then (bs[n.toNat]?).map (fun b=>.map (some b)) else none
 | _=>none
theorem outF_nil : outF [] = fun _=>none:=by
 funext v
 unfold outF
 split <;> simp
theorem outF_push (bs : List Nat) (b : Nat) : updF (outF bs) (.int .i64 bs.length) (.map (some b)) = outF (bs ++ [b]):=by
 funext v
 unfold updF
 split
 ·rename_i h
  subst h
  simp [outF]
 ·rename_i h
  unfold outF
  split
  ·rename_i n
   split
   ·rename_i h0
    have : n.toNat ≠ bs.length:=fun e=>h (by rw [← e];congr 1;omega)
    rcases Nat.lt_or_ge n.toNat bs.length with h1 | h1
    ·rw [List.getElem?_append_left h1]
    ·rw [List.getElem?_append_right h1,List.getElem?_eq_none_iff.2 h1]
     have : n.toNat - bs.length ≠ 0:=by omega
     obtain ⟨d,hd⟩:=Nat.exists_eq_succ_of_ne_zero this
     rw [hd];rfl
   ·rfl
  ·rfl
theorem outF_get {bs : List Nat} {q b : Nat} (h : bs[q]? = some b) : outF bs (.int .i64 q) = some (.map (some b)):=by simp [outF,h]
abbrev Cnt:=Value → Option Value
def cnt (F : Cnt) (r : Rf) (i : Int) : Value:=(F (atV r.up i)).getD (.int .i64 0)
theorem cnt_upd (F : Cnt) (r : Rf) (i i0 : Int) (v : Value) : cnt (updF F (atV r.up i0) v) r i = if i = i0 then v else cnt F r i:=by
 unfold cnt updF
 by_cases h : i = i0
 ·subst h;simp
 ·have : atV r.up i ≠ atV r.up i0:=fun e=>h (atV_inj e).2
  simp [this,h]
def mapsS (ms : List (Nat × Cnt)) : Store:=ms.map fun p=>(p.1,.obj (MapO Tryz.prog 33 p.2))
structure MP (refs : List Rf) (c : Nat → Int → Int) (bl : Nat) (R : Store) : Prop where
 ex : ∃ ms : List (Nat × Cnt),ms.length = refs.length ∧ (∀ (n : Nat) r p,refs[n]? = some r → ms[n]? = some p → ∀ i,cnt p.2 r i = .int .i64 (c n i)) ∧ R.Perm ((bl,.obj (MapO Tryz.prog 3 (outF (ms.map Prod.fst)))) :: mapsS ms)
theorem MP.perm {refs : List Rf} {c : Nat → Int → Int} {bl : Nat} {R R' : Store} (h : MP refs c bl R) (hp : R'.Perm R) : MP refs c bl R':=by
 obtain ⟨ms,h1,h2,h3⟩:=h.ex
 exact ⟨ms,h1,h2,hp.trans h3⟩
theorem MP.cong {refs : List Rf} {c c' : Nat → Int → Int} {bl : Nat} {R : Store} (h : MP refs c bl R) (hc : ∀ n i,n < refs.length → c n i = c' n i) : MP refs c' bl R:=by
 obtain ⟨ms,h1,h2,h3⟩:=h.ex
 exact ⟨ms,h1,fun n r p q1 q2 i=>by rw [← hc n i (List.getElem?_eq_some_iff.1 q1).1];exact h2 n r p q1 q2 i,h3⟩
theorem MP.nil (c : Nat → Int → Int) (b : Nat) : MP [] c b [(b,.obj (MapO Tryz.prog 3 fun _=>none))]:=⟨[],rfl,fun n r p h=>by simp at h,by simp [mapsS,outF_nil]⟩
theorem MP.get {refs : List Rf} {c : Nat → Int → Int} {bl : Nat} {R : Store} (h : MP refs c bl R) {q : Nat} {r : Rf} (hq : refs[q]? = some r) :
  ∃ (b : Nat) (F : Cnt) (G : Value → Option Value) (ρ : Store),R.Perm ((bl,.obj (MapO Tryz.prog 3 G)) :: (b,.obj (MapO Tryz.prog 33 F)) :: ρ) ∧ G (.int .i64 q) = some (.map (some b)) ∧ (∀ i,cnt F r i = .int .i64 (c q i)) ∧
   ∀ (F' : Cnt) (c' : Int → Int),(∀ i,cnt F' r i = .int .i64 (c' i)) → MP refs (fun n i=>if n = q then c' i else c n i) bl ((bl,.obj (MapO Tryz.prog 3 G)) :: (b,.obj (MapO Tryz.prog 33 F')) :: ρ):=by
 obtain ⟨ms,h1,h2,h3⟩:=h.ex
 have hql:=(List.getElem?_eq_some_iff.1 hq).1
 obtain ⟨⟨b,F⟩,hm⟩ : ∃ p,ms[q]? = some p:=⟨_,List.getElem?_eq_getElem (by omega)⟩
 have hml:=(List.getElem?_eq_some_iff.1 hm).1
 have e4 : ms = ms.take q ++ (b,F) :: ms.drop (q + 1):=by
  have:=(List.getElem?_eq_some_iff.1 hm).2
  rw [← this,List.getElem_cons_drop,List.take_append_drop]
 refine ⟨b,F,outF (ms.map Prod.fst),mapsS (ms.take q) ++ mapsS (ms.drop (q + 1)),?_,outF_get (by rw [List.getElem?_map,hm];rfl),h2 q r _ hq hm,fun F' c' hc=>⟨ms.set q (b,F'),by simpa using h1,fun n r' p q1 q2 i=>?_,?_⟩⟩
 ·refine h3.trans (List.Perm.cons _ ?_)
  conv=>lhs;rw [e4]
  unfold mapsS
  rw [List.map_append,List.map_cons]
  exact List.perm_middle
 ·by_cases e : n = q
  ·subst e
   rw [List.getElem?_set_self hml] at q2
   cases q2
   cases hq.symm.trans q1
   rw [if_pos rfl];exact hc i
  ·rw [List.getElem?_set_ne (Ne.symm e)] at q2
   rw [if_neg e];exact h2 n r' p q1 q2 i
 ·have e5 : ms.set q (b,F') = ms.take q ++ (b,F') :: ms.drop (q + 1):=by rw [List.set_eq_take_append_cons_drop,if_pos hml]
  have e6 : (ms.set q (b,F')).map Prod.fst = ms.map Prod.fst:=by
   rw [List.map_set]
   exact set_get (by rw [List.getElem?_map,hm];rfl)
  rw [e6]
  refine List.Perm.cons _ ?_
  rw [e5]
  unfold mapsS
  rw [List.map_append,List.map_cons]
  exact List.perm_middle.symm
theorem MP.push {refs : List Rf} {c : Nat → Int → Int} {bl : Nat} {R : Store} (h : MP refs c bl R) (r : Rf) :
  ∃ (G : Value → Option Value) (ρ : Store),R.Perm ((bl,.obj (MapO Tryz.prog 3 G)) :: ρ) ∧
   ∀ b,MP (refs ++ [r]) (fun n i=>if n = refs.length then 0 else c n i) bl ((bl,.obj (MapO Tryz.prog 3 (updF G (.int .i64 refs.length) (.map (some b))))) :: (b,.obj (MapO Tryz.prog 33 fun _=>none)) :: ρ):=by
 obtain ⟨ms,h1,h2,h3⟩:=h.ex
 refine ⟨outF (ms.map Prod.fst),mapsS ms,h3,fun b=>⟨ms ++ [(b,fun _=>none)],by simp [h1],fun n r' p q1 q2 i=>?_,?_⟩⟩
 ·rcases Nat.lt_or_ge n refs.length with hn | hn
  ·rw [List.getElem?_append_left hn] at q1
   rw [List.getElem?_append_left (by omega)] at q2
   rw [if_neg (by omega)];exact h2 n r' p q1 q2 i
  ·have hnl:=(List.getElem?_eq_some_iff.1 q1).1
   simp at hnl
   obtain rfl : n = refs.length:=by omega
   rw [if_pos rfl]
   rw [List.getElem?_append_right (by omega),h1] at q2
   simp at q2
   subst q2
   rfl
 ·have:=outF_push (ms.map Prod.fst) b
  rw [List.length_map,h1] at this
  rw [this]
  have e : mapsS (ms ++ [(b,fun _=>none)]) = mapsS ms ++ [(b,.obj (MapO Tryz.prog 33 fun _=>none))]:=by simp [mapsS]
  have e2 : (ms ++ [(b,fun _=>none)] : List (Nat × Cnt)).map Prod.fst = ms.map Prod.fst ++ [b]:=by simp
  rw [e,e2]
  exact List.Perm.cons _ (List.perm_append_singleton _ _).symm
def cE (x : Sch) (w : Wd) (s : Sb) (n : Nat) (i : Int) : Int:=match (refsOf x)[n]? with
 | some r=>countE w s r i
 | none=>0
def CS (x : Sch) (w : Wd) (s : Sb) (v : Value) (bl : Nat) (σ : Store) : Prop:=∃ σs R J,RS s v σs ∧ MP (refsOf x) (cE x w s) bl R ∧ σ.Perm (σs ++ (R ++ J))
abbrev stC (x : Sch) (w : Wd) (v : Value) (bl : Nat) : List D:=[slRf (refsOf x),slW w,.v v,.v (.map (some bl))]
end
section
open Go Go.Maps Go.MapKept
theorem ACall.vs2 {P : Program} {f : FuncId} {args : List D} {σ : Store} {R R' : D → Store → Prop} (h : ACall P f args σ R) (k : ∀ d s,R d s → ∃ d' s',Vs s d s' d' ∧ R' d' s') : ACall P f args σ R':=
 ⟨h.ent,fun w X vs hv hs=>(h.run w X vs hv hs).mono fun e w' ⟨u,d,s,g1,g2,g3,g4,g5⟩=>by
  obtain ⟨d',s',q1,q2⟩:=k d s g2
  obtain ⟨q3,q4⟩:=q1.run w' X u g4 g3
  exact ⟨u,d',s',g1,q2,q4,q3,g5.fewer q1.sub⟩⟩
def cTo (w : Wd) (s : Sb) (r : Rf) (j : Nat) (i : Int) : Nat:=(List.range j).countP fun jj=>keptB s r.kind jj && decide (valOf w r.kind jj r.field = i)
theorem cTo_succ (w : Wd) (s : Sb) (r : Rf) (j : Nat) (i : Int) : cTo w s r (j + 1) i = cTo w s r j i + (if keptB s r.kind j = true ∧ valOf w r.kind j r.field = i then 1 else 0):=by
 unfold cTo
 rw [List.range_succ,List.countP_append]
 simp
theorem cTo_le (w : Wd) (s : Sb) (r : Rf) (j : Nat) (i : Int) : cTo w s r j i ≤ j:=by
 have:=List.countP_le_length (p:=fun jj=>keptB s r.kind jj && decide (valOf w r.kind jj r.field = i)) (l:=List.range j)
 simpa [cTo] using this
theorem cTo_all {w : Wd} {s : Sb} {r : Rf} {l : List (List Int)} (h : w[r.kind]? = some l) (i : Int) : cTo w s r l.length i = countE w s r i:=by
 unfold cTo countE
 rw [getD_get h]
theorem ref_key {x : Sch} {w : Wd} {s : Sb} (hF : Fit x w s) {r : Rf} (hr : r ∈ refsOf x) : (Lit.int .i64 r.up).wf = true:=by
 obtain ⟨u1,u2,u3⟩:=hF.snd.up r hr
 have:=hF.snd.vld.nk
 exact wf64 (by omega) (by omega)
theorem sb80 {A B : Prop} (k : B) (h : Hd7 B → A:=by intro hk7q;(first | (with_reducible refine Bc.l ?_) | (with_reducible refine Bx.l ?_) | ((with_reducible refine Dr.l ?h ?_);(case h=>decide +kernel)) | (with_reducible refine Dr.r ?_) | ((with_reducible refine Cb.go ?h ?_);(case h=>decide +kernel)));exact hk7q.run) : A:=h ⟨k⟩
theorem sk81 {A B : Prop} (k : B) (h : Hd7 B → A:=by intro hk7q;(first | refine sb0 ?_ | refine sb80 ?_ | ((with_reducible refine' Cp.by ?hc ?_);(case hc=>exact HR)) | ((with_reducible refine' CE.pure ?hc ?_);(case hc=>exact HR)));exact hk7q.run) : A:=h ⟨k⟩
theorem cl_begun (x : Sch) (w : Wd) (s : Sb) (hF : Fit x w s) : ACall Tryz.prog 40 [schD x,slW w,slS2 s] [] (fun d σ=>∃ a c bl,d = .ro (stC x w (.slice a s.length c) bl) ∧ CS x w s (.slice a s.length c) bl σ):=by
 have HR:=cl_refs x hF.snd.vld
 have hsl:=hF.ss.nk
 have hwl:=hF.ws.nk
 have hrl:=refs_len hF.snd.vld
 refine enterX mixed tget_ok Tryz.func40 (by kernel_rfl) rfl Tryz.ntmps40 rfl ?_;intro BB
 repeat' (first | refine sk81 ?_ | (intro b;conv=>whnf))
 refine CE.own (cl_copied s hF.ss) (List.Perm.refl []) (fun s'=>s') (fun s'=>by simp) ?_
 rintro _ σs ⟨v,rfl,hR⟩
 obtain ⟨a,c,rfl⟩:=hR.slice
 repeat' (first | refine sk81 ?_ | (intro b;conv=>whnf))
 refine OtE.makeMap (k:=3) rfl (fun bl=>?_)
 repeat' (first | refine sk81 ?_ | (intro b;conv=>whnf))
 refine lp_loopd mixed tget_ok (γ:=Nat × Store) (fun g=>[(25,iD g.1)]) (fun g=>g.2) (fun g=>g.1 ≤ (refsOf x).length ∧ ∃ R J,MP ((refsOf x).take g.1) (cE x w s) bl R ∧ g.2.Perm (σs ++ (R ++ J))) (fun g=>(refsOf x).length - g.1) (0,(bl,.obj (MapO Tryz.prog 3 fun _=>none)) :: σs) (chk_of cl2) cl3 ⟨Nat.zero_le _,_,[],MP.nil _ bl,by rw [List.append_nil];exact (List.perm_append_singleton _ _).symm⟩ ?_
 rintro ⟨q,σ⟩ ⟨hq,R,J,hM,hp⟩
 simp only at hq hM hp ⊢
 by_cases hql : q < (refsOf x).length
 ·obtain ⟨r,hr⟩ : ∃ r,(refsOf x)[q]? = some r:=⟨_,List.getElem?_eq_getElem hql⟩
  have hr' : (refsOf x)[((q : Nat) : Int).toNat]? = some r:=hr
  have hrm:=List.mem_of_getElem? hr
  obtain ⟨u1,u2,u3⟩:=hF.snd.up r hrm
  have hkl : r.kind < w.length:=by have:=(fits_inv hF.fit).1;omega
  obtain ⟨l,hl⟩ : ∃ l,w[r.kind]? = some l:=⟨_,List.getElem?_eq_getElem hkl⟩
  have hl' : w[((r.kind : Nat) : Int).toNat]? = some l:=hl
  obtain ⟨t,ht,htl⟩:=lens_get hF.shp hl
  have ht' : s[((r.kind : Nat) : Int).toNat]? = some t:=ht
  have hll:=hF.ws.nr l (List.mem_of_getElem? hl)
  obtain ⟨G,ρ,hG,hpush⟩:=hM.push r
  have hlen : ((refsOf x).take q).length = q:=by rw [List.length_take];omega
  rw [hlen] at hpush
  repeat' (first | refine sk81 ?_ | (intro b;conv=>whnf))
  refine OtE.makeMap (k:=33) rfl (fun bn=>?_)
  repeat' (first | refine sk81 ?_ | (intro b;conv=>whnf))
  refine OtE.mapUpdate (b:=bl) (F:=G) (k:=3) (e:=116) (kl:=.int .i64 q) (τ:=(bn,.obj (MapO Tryz.prog 33 fun _=>none)) :: (b,.cells 121 (rfC r)) :: (ρ ++ (σs ++ J))) rfl rfl (KeyD.v _) rfl ?_ int_keyed' Tryz.underlying132 (int_key (wf64 (by omega) (by omega))) ?_
  ·(refine perm_ct fun a=>?_;have e1:=And.intro (ct_perm hp a) (ct_perm hG a);simp only [List.append_eq,List.nil_append,ct_cons,ct_app,ct_nil,rfC,atC,iD,bD] at e1 ⊢;omega)
  repeat' (first | refine sk81 ?_ | (intro b;conv=>whnf))
  have hM0:=hpush bn
  have htk : (refsOf x).take (q + 1) = (refsOf x).take q ++ [r]:=take_succ_get hr
  rw [← htk] at hM0
  refine lp_loopd mixed tget_ok (γ:=Nat × Store) (fun g=>[(42,iD g.1)]) (fun g=>g.2) (fun g=>g.1 ≤ l.length ∧ ∃ R J,MP ((refsOf x).take (q + 1)) (fun n i=>if n = q then cTo w s r g.1 i else cE x w s n i) bl R ∧ g.2.Perm ((b,.cells 121 (rfC r)) :: (σs ++ (R ++ J)))) (fun g=>l.length - g.1) (0,_) (chk_of cl2) cl3 ⟨Nat.zero_le _,_,J,hM0.cong (fun n i _=>by by_cases e : n = q <;> simp [e,cTo]),by (refine perm_ct fun a=>?_;simp only [List.append_eq,List.nil_append,ct_cons,ct_app,ct_nil,rfC,atC,iD,bD];omega)⟩ ?_
  rintro ⟨j,σ2⟩ ⟨hj,R2,J2,hM2,hp2⟩
  simp only at hj hM2 hp2 ⊢
  have m9 : (b,Blk.cells 121 (rfC r)) ∈ σ2:=hp2.mem_iff.2 (by simp)
  by_cases hjl : j < l.length
  ·obtain ⟨y,hy⟩ : ∃ y,l[j]? = some y:=⟨_,List.getElem?_eq_getElem hjl⟩
   have hy' : l[((j : Nat) : Int).toNat]? = some y:=hy
   obtain ⟨kb,hkb⟩ : ∃ kb,t[j]? = some kb:=⟨_,List.getElem?_eq_getElem (by omega)⟩
   have hkb' : t[((j : Nat) : Int).toNat]? = some kb:=hkb
   obtain ⟨v,z,tz,g1,g2,g3,g4,g5,g6,g7⟩:=fit_ref hF hrm hl hy
   have g1' : y[((r.field : Nat) : Int).toNat]? = some v:=g1
   have hkk:=kept_of ht hkb
   have htz:=hF.ss.nr tz (List.mem_of_getElem? g5)
   obtain ⟨bm,Fm,G2,ρ2,hG2,hgq,hcnt,hset⟩:=hM2.get (show ((refsOf x).take (q + 1))[q]? = some r by rw [htk,List.getElem?_append_right (by rw [hlen];omega),hlen];simp)
   cases kb with
   | false=>
    repeat' (first | refine sk81 ?_ | (intro b;conv=>whnf) | ((with_reducible refine' Ld.cellm m9 ?h2 ?_);(case h2=>exact rfl)))
    have hst : ∀ i,cTo w s r (j + 1) i = cTo w s r j i:=fun i=>by rw [cTo_succ,hkk];simp
    exact ⟨(j + 1,σ2),(chk_of cl2),cl3,⟨by simp only;omega,R2,J2,by simp only [hst];exact hM2,hp2⟩,by simp only;omega⟩
   | true=>
    repeat' (first | refine sk81 ?_ | (intro b;conv=>whnf) | ((with_reducible refine' Ld.cellm m9 ?h2 ?_);(case h2=>exact rfl)))
    have hp3 : σ2.Perm ((bl,.obj (MapO Tryz.prog 3 G2)) :: (bm,.obj (MapO Tryz.prog 33 Fm)) :: ((b,.cells 121 (rfC r)) :: (ρ2 ++ (σs ++ J2)))):=by (refine perm_ct fun a=>?_;have e1:=And.intro (ct_perm hp2 a) (ct_perm hG2 a);simp only [List.append_eq,List.nil_append,ct_cons,ct_app,ct_nil,rfC,atC,iD,bD] at e1 ⊢;omega)
    have ml : (bl,Blk.obj (MapO Tryz.prog 3 G2)) ∈ σ2:=hp3.mem_iff.2 (by simp)
    have mm : (bm,Blk.obj (MapO Tryz.prog 33 Fm)) ∈ σ2:=hp3.mem_iff.2 (by simp)
    have hc0 : (Fm (atV r.up v)).getD (.int .i64 0) = .int .i64 (cTo w s r j v):=by have:=hcnt v;simp only [if_true] at this;exact this
    obtain ⟨kl,hkl⟩:=at_key (ref_key hF hrm) (show (Lit.int .i64 v).wf = true from wf64 (by omega) (by omega))
    have hp4 : σ2.Perm ((bm,.obj (MapO Tryz.prog 33 Fm)) :: ((bl,.obj (MapO Tryz.prog 3 G2)) :: (b,.cells 121 (rfC r)) :: (ρ2 ++ (σs ++ J2)))):=by (refine perm_ct fun a=>?_;have e1:=ct_perm hp3 a;simp only [List.append_eq,List.nil_append,ct_cons,ct_app,ct_nil,rfC,atC,iD,bD] at e1 ⊢;omega)
    have hle:=cTo_le w s r j v
    have hfin : ∃ R J,MP ((refsOf x).take (q + 1)) (fun n i=>if n = q then cTo w s r (j + 1) i else cE x w s n i) bl R ∧ ((bm,Blk.obj (MapO Tryz.prog 33 (updF (updF Fm (atV r.up v) (.int .i64 (cTo w s r j v))) (atV r.up v) (.int .i64 (cTo w s r j v + 1))))) :: ((bl,.obj (MapO Tryz.prog 3 G2)) :: (b,.cells 121 (rfC r)) :: (ρ2 ++ (σs ++ J2)))).Perm ((b,.cells 121 (rfC r)) :: (σs ++ (R ++ J))):=by
     refine ⟨_,J2,(hset (updF (updF Fm (atV r.up v) (.int .i64 (cTo w s r j v))) (atV r.up v) (.int .i64 (cTo w s r j v + 1))) (fun i=>cTo w s r (j + 1) i) (fun i=>?_)).cong (fun n i _=>by by_cases e : n = q <;> simp [e]),by (refine perm_ct fun a=>?_;simp only [List.append_eq,List.nil_append,ct_cons,ct_app,ct_nil,rfC,atC,iD,bD];omega)⟩
     rw [cnt_upd,cnt_upd,cTo_succ,hkk,g2]
     by_cases e : i = v
     ·subst e;simp
     ·have hci:=hcnt i
      simp only [if_true] at hci
      rw [if_neg e,if_neg e,hci,if_neg (by rintro ⟨_,e2⟩;exact e e2.symm)]
      simp
    refine Dm.r ?_
    refine W.mk ?_
    refine lp_ord mixed tget_ok rfl [0,1,2,3,4,5,6,7,8,9,10,11,12,13] 5 (.two 14 (.two 15 (.one 16 (.one 17 (.one 18 .done))) 16 (.two 15 (.one 17 (.one 18 .done)) 17 (.one 15 (.one 18 .done)))) 16 (.two 14 (.two 15 (.one 17 (.one 18 .done)) 17 (.one 15 (.one 18 .done))) 17 (.one 14 (.one 15 (.one 18 .done))))) (γ:=Value × Store) (fun g=>[(69,iD (cTo w s r j v)),(70,iD (cTo w s r j v + 1)),(71,.tup [iD (cTo w s r j v),.v g.1]),(72,.v g.1)]) (fun g=>g.2) (fun g=>∃ R J,MP ((refsOf x).take (q + 1)) (fun n i=>if n = q then cTo w s r (j + 1) i else cE x w s n i) bl R ∧ g.2.Perm ((b,.cells 121 (rfC r)) :: (σs ++ (R ++ J)))) (by decide +kernel) ?_ ?_
    ·repeat' (first | refine sk81 ?_ | (intro b;conv=>whnf) | ((with_reducible refine' Ld.cellm m9 ?h2 ?_);(case h2=>exact rfl)))
     refine Ot.yd (yd_lookup2 (u:=.map (some bm)) rfl rfl (KeyD.v _) ml (fun _ h=>h) int_keyed' Tryz.underlying132 zero_map (int_key (wf64 (by omega) (by omega))) (by rw [hgq];rfl)) ?_
     repeat' (first | refine sk81 ?_ | (intro b;conv=>whnf) | ((with_reducible refine' Ld.cellm m9 ?h2 ?_);(case h2=>exact rfl)))
     repeat' (first | refine sk81 ?_ | (intro b;conv=>whnf) | ((with_reducible refine' Ld.cellm m9 ?h2 ?_);(case h2=>exact rfl)) | (refine And.intro ?_ ?_ <;> (conv=>whnf)) | (refine OtE.yd rfl (yd_lookup2 (kv:=atV r.up v) (u:=.int .i64 (cTo w s r j v)) rfl rfl (KeyD.agg2 _ _) mm (fun _ h=>h) at_keyed Tryz.underlying116 zero_int hkl hc0) ?_) | (refine OtE.yd rfl (yd_lookup2 (kv:=atV r.up v) (u:=.int .i64 (cTo w s r j v)) rfl rfl (KeyD.agg2 _ _) (List.mem_cons_self) (fun _ h=>h.is) at_keyed Tryz.underlying116 zero_int hkl (updF_at _ _ _ _)) ?_) | (refine OtE.mapEntry2 (kv:=atV r.up v) (u:=.int .i64 (cTo w s r j v)) rfl rfl (KeyD.agg2 _ _) hp4 (fun _ h=>h) at_keyed Tryz.underlying116 zero_int hkl hc0 (fun st=>?_)) | (refine OtE.entryStore (kv:=atV r.up v) (xv:=.int .i64 (cTo w s r j v + 1)) rfl rfl rfl rfl (List.Perm.refl _) hkl ?_))
     all_goals exact ⟨(st,_),(chk_of cl2),rfl,hfin⟩
    ·rintro ⟨st,σ3⟩ ⟨R3,J3,hM3,hp3'⟩
     simp only at hM3 hp3' ⊢
     repeat' (first | refine sk81 ?_ | (intro b;conv=>whnf) | ((with_reducible refine' Ld.cellm m9 ?h2 ?_);(case h2=>exact rfl)))
     exact ⟨(j + 1,σ3),(chk_of cl2),cl3,⟨by simp only;omega,R3,J3,hM3,hp3'⟩,by simp only;omega⟩
  ·obtain rfl : j = l.length:=by omega
   repeat' (first | refine sk81 ?_ | (intro b;conv=>whnf) | ((with_reducible refine' Ld.cellm m9 ?h2 ?_);(case h2=>exact rfl)))
   exact ⟨(q + 1,σ2),(chk_of cl2),cl3,⟨by simp only;omega,R2,_,hM2.cong (fun n i hn=>by
    by_cases e : n = q
    ·subst e;rw [if_pos rfl,cTo_all hl];simp [cE,hr]
    ·rw [if_neg e]),hp2.trans (show List.Perm _ (σs ++ (R2 ++ (J2 ++ [(b,.cells 121 (rfC r))]))) by (refine perm_ct fun a=>?_;simp only [List.append_eq,List.nil_append,ct_cons,ct_app,ct_nil,rfC,atC,iD,bD];omega))⟩,by simp only;omega⟩
 ·obtain rfl : q = (refsOf x).length:=by omega
  rw [List.take_length] at hM
  repeat' (first | refine sk81 ?_ | (intro b;conv=>whnf))
  exact Rt.same ⟨_,_,bl,rfl,σs,R,J,hR,hM,hp⟩
end
end Go.Proofs.YtjbbmjjildhfbaaGreatDoor
