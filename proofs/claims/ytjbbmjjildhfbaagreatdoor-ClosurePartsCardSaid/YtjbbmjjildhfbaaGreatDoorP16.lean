/- A part of the proof: Kp Kq Kr Ks Ku Kv Kw Ct Kx Ky Kz Cw Va Shelf. -/
import Derived.Test.YtjbbmjjildhfbaaGreatDoorP15
import Derived.Shelf.Abstract
import Derived.WalkKit
import Derived.OwnWalkIn
import Derived.TacticsInMore
import Derived.LoopNIn
import Derived.LoopIn
import Derived.DeepKeys5
import Derived.Shelf.Strings.Builder1
import Derived.Shelf.Strconv.Itoa0
import Derived.Shelf.Strconv.Itoa1
import Derived.Shelf.LaysM
import Derived.Shelf.Strconv.Itoa2
import Derived.Shelf.Strconv.Itoa3
import Derived.Shelf.Bits.Mul64
import Derived.Ground.Names2Prog
import Derived.Shelf.Slices.Clone
import Derived.Ground.SlgnProg
import Derived.Shelf.SlicesE.Clone
import Derived.Test.YtjbbmjjildhfbaaGreatDoorProg
set_option maxRecDepth 100000
set_option maxHeartbeats 4000000
set_option linter.unusedVariables false
set_option linter.unusedSimpArgs false
namespace Go.Proofs.YtjbbmjjildhfbaaGreatDoor
section
open Go Go.RowKit Go.Shelf
attribute [local go_sem] Oper.semAt_some
theorem ay4 (s:Sb):APure Tryz.prog 46 [slS2 s] (.clo 69 [.ro [slS2 s]]):=by
 refine APure.of_call (aa4 mixed aa0 Tryz.func46 (by kernel_rfl) rfl Tryz.ntmps46 rfl ?_);intro BB
 repeat' (first|refine sk2 ?_|(intro b;conv=>whnf))
 exact Rt.pure rfl
theorem kept1_in (s:Sb) (hs:Ss s) (l:Nat) (O:Nat→Prop) (J Jx:Nat→World→Prop) (W:World) (b0 o0:Nat) (ad:Option Addr) (cap:Nat) (va:Nat→Value)
  (h0b:¬ O b0∧b0<W.heap.size) (h0:W.cell? ⟨b0,o0,none⟩=some (.slice ad s.length cap))
  (h1:∀ (k:Nat) m,s[k]?=some m→∃ b off a2 c2,ad=some ⟨b,off,none⟩∧¬ O b∧b<W.heap.size∧W.cell? ⟨b,off+k,none⟩=some (.slice a2 m.length c2) ∧
   ∀ (i:Nat) x,m[i]?=some x→∃ b' off',a2=some ⟨b',off',none⟩∧¬ O b'∧b' < W.heap.size∧W.cell? ⟨b',off' + i,none⟩=some (.bool x))
  (hY:∀ (k:Nat) (p:Nat × Nat) W1,(ae5 s)[k]?=some p→J k W1→YieldAt Fence.wide 7 Tryz.prog l #[.agg #[.int .i64 p.1,.int .i64 p.2]] W1 fun e W'=>
    (e = .returned (.bool true)∧J (k+1) W'∧W1.heap.size≤W'.heap.size∧∀ b,b<W.heap.size→¬ O b→W'.heap[b]?=W1.heap[b]?)∨(e = .returned (.bool false)∧Jx (k+1) W'))
  (hJ:J 0 W):CallsIn Fence.wide 8 Tryz.prog 69 #[.func (.yield l) #[] #[],.pointer (some ⟨b0,o0,none⟩)] W fun e W'=>∃ v,e = .returned v∧(J (ae5 s).length W'∨∃ k,Jx k W'):=by
 refine callsIn_of_wp Tryz.func69 rfl trivial ?_ rfl
 simp only [Tryz.ntmps69,List.size_toArray,List.length_cons,List.length_nil,Nat.reduceAdd,Nat.reduceSub,Array.replicate_succ,Array.replicate_zero,List.push_toArray,List.append_toArray,List.nil_append,List.cons_append]
 have cellK:∀ (wr:World),(∀ b,b<W.heap.size→¬ O b→wr.heap[b]?=W.heap[b]?)→∀ (b o:Nat) (v:Value),b<W.heap.size→¬ O b→W.cell? ⟨b,o,none⟩=some v→wr.cell? ⟨b,o,none⟩=some v:=
  fun wr h b o v hb hn hc=>(World.cell?_of_block (w:=W) (a:=⟨b,o,none⟩) (h b hb hn)).trans hc
 have hsl:=hs.nk
 gi_wp2
 gi_loopw [9] (fun i wr=>∃ k:Nat,k≤s.length∧i = .int .i64 k∧J (ak1 s k 0).length wr∧W.heap.size≤wr.heap.size∧∀ b,b<W.heap.size→¬ O b→wr.heap[b]?=W.heap[b]?) (fun i _=>s.length - (intOf i).toNat)
 case atStart=>exact ⟨0,Nat.zero_le _,rfl,hJ,Nat.le_refl _,fun _ _ _=>rfl⟩
 case round=>
  obtain ⟨k,hk,rfl,hJs,hzs,hks⟩:=hrel
  by_cases hlt:k<s.length
  ·obtain ⟨m,hm⟩:∃ m,s[k]?=some m:=⟨_,List.getElem?_eq_getElem hlt⟩
   have hml:=hs.nr m (List.mem_of_getElem? hm)
   obtain ⟨b,off,a2,c2,rfl,hb1,hb2,hb3,hb4⟩:=h1 k m hm
   have hrow:=cellK wr hks b (off+k) _ hb2 hb1 hb3
   gi_wp2
   gi_loopw [16] (fun i wr=>∃ j:Nat,j≤m.length∧i = .int .i64 j∧J (ak1 s k j).length wr∧W.heap.size≤wr.heap.size∧∀ b,b<W.heap.size→¬ O b→wr.heap[b]?=W.heap[b]?) (fun i _=>m.length - (intOf i).toNat)
   case atStart=>exact ⟨0,Nat.zero_le _,rfl,hJs,hzs,hks⟩
   case round=>
    clear hJs hzs hks hrow
    obtain ⟨j,hj,rfl,hJs,hzs,hks⟩:=hrel
    by_cases hjl:j<m.length
    ·obtain ⟨x,hx⟩:∃ x,m[j]?=some x:=⟨_,List.getElem?_eq_getElem hjl⟩
     obtain ⟨b',off',rfl,hc1,hc2,hc3⟩:=hb4 j x hx
     have hcell:=cellK wr hks b' (off' + j) _ hc2 hc1 hc3
     have hkb:=av8 hm hx
     cases x
     ·gi_wp2
      refine ⟨fun _ h=>(by cases h),?_⟩
      gi_wp2
      go_roundw
      case rel=>exact ⟨j+1,by omega,by simp,by rw [keptTo_no hkb];exact hJs,hzs,hks⟩
      case measure=>simp [intOf];omega
     ·obtain ⟨fn,tmps,assign,body,hy,hR⟩:=hY _ (k,j) wr (aT2 hm hjl hkb) hJs
      gi_wp2
      refine hR.mono ?_
      rintro e W3 (⟨rfl,hJ3,hz3,hk3⟩|⟨rfl,hJx3⟩)
      ·gi_wp2
       go_roundw
       case rel=>exact ⟨j+1,by omega,by simp,by rw [aS9 hkb,List.length_append];exact hJ3,Nat.le_trans hzs hz3,fun b hb hn=>(hk3 b hb hn).trans (hks b hb hn)⟩
       case measure=>simp [intOf];omega
      ·gi_wp2
       refine bodyPost_ret (results_none rfl _ _ _) rfl ?_
       exact ⟨_,rfl,.inr ⟨_,hJx3⟩⟩
    ·obtain rfl:j=m.length:=by omega
     gi_wp2
     go_roundw
     case rel=>exact ⟨k+1,by omega,by simp,by rw [keptTo_row hm];exact hJs,hzs,hks⟩
     case measure=>simp [intOf];omega
  ·obtain rfl:k=s.length:=by omega
   gi_wp2
   go_end0
   exact ⟨_,rfl,.inl (by rw [aT1] at hJs;exact hJs)⟩
theorem ax8 (s:Sb) (hs:Ss s):AIter Tryz.prog 69 [.ro [slS2 s]] ((ae5 s).map fun p=>[atD p.1 p.2]):=by
 refine ⟨enters_of Tryz.func69 (by kernel_rfl) rfl,fun O W lb hlb=>?_⟩
 refine ⟨(ae5 s).map fun p=>[.agg #[.int .i64 p.1,.int .i64 p.2]],by simp,fun k x vs hx hv=>?_,fun l J Jx hJs hJxs hY hJ=>?_⟩
 ·rw [List.getElem?_map,Option.map_eq_some_iff] at hx hv
  obtain ⟨p,hp,rfl⟩:=hx
  obtain ⟨q,hq,rfl⟩:=hv
  cases hp.symm.trans hq
  exact .cons (Rd.agg [iD p.1,iD p.2] [.int .i64 p.1,.int .i64 p.2] rfl (RdL.vals [.int .i64 p.1,.int .i64 p.2]).at_) .nil
 ·cases lb with
  | nil=>have:=hlb.len;simp at this
  | cons u lb=>
   have:lb=[]:=by have:=hlb.len;simpa using this
   subst this
   obtain ⟨b0,o0,va,rfl,g1,g2,g3,g4⟩:=(hlb.at_ 0 _ u rfl rfl).ro_inv
   obtain ⟨ad,cap,vs,e1,hcap,hk1,hc1,hr1⟩:=(g4 0 _ rfl).sl_inv
   have hcell:=g3 0 (by simp)
   rw [e1,List.length_map] at hcell
   refine CallsIn.mono (kept1_in s hs l O J Jx W b0 o0 ad cap va ⟨g1,g2⟩ (by simpa using hcell) (fun k m hm=>?_) (fun k p W1 hp hJ1=>hY k _ W1 (by rw [List.getElem?_map,hp];rfl) hJ1) hJ) (fun e W' h=>by simpa using h)
   have hkm:(s.map fun l=>[slB l])[k]?=some [slB m]:=by rw [List.getElem?_map,hm];rfl
   obtain ⟨b,off,ha,q1,q2,q3⟩:=hc1 k _ hkm
   obtain ⟨a2,c2,vs2,e2,hcap2,hk2,hc2,hr2⟩:=(hr1 k _ hkm 0 _ rfl).sl_inv
   have hcell2:=q3 0 (by omega)
   rw [e2,List.length_map] at hcell2
   refine ⟨b,off,a2,c2,ha,q1,q2,by simpa using hcell2,fun i x hx=>?_⟩
   have hix:(m.map fun b=>[bD b])[i]?=some [bD x]:=by rw [List.getElem?_map,hx];rfl
   obtain ⟨b',off',ha',r1,r2,r3⟩:=hc2 i _ hix
   have hcell3:=r3 0 (by omega)
   rw [(hr2 i _ hix 0 _ rfl).val rfl] at hcell3
   exact ⟨b',off',ha',r1,r2,by simpa using hcell3⟩
end
section
open Go
theorem aO2 {s:Sb} {x:List D} (h:x∈(ae5 s).map fun p=>[atD p.1 p.2]):x.length=1:=by
 obtain ⟨p,_,rfl⟩:=List.mem_map.1 h;rfl
theorem aO3 {s:Sb} {k:Nat} {x:List D} (h:((ae5 s).map fun p=>[atD p.1 p.2])[k]?=some x):∃ p:Nat × Nat,(ae5 s)[k]?=some p∧x=[atD p.1 p.2]:=by
 rw [List.getElem?_map,Option.map_eq_some_iff] at h
 obtain ⟨p,hp,rfl⟩:=h
 exact ⟨p,hp,rfl⟩
theorem aE5 {s:Sb} (hs:Ss s):(ae5 s).length≤1000000:=by
 rw [← aC7]
 have h1:=aB9 hs.nr s.length
 rw [List.take_of_length_le (Nat.le_refl _)] at h1
 have:=hs.nk
 unfold al8;omega
theorem sk75 {A B:Prop} (k:B) (h:Hd7 B→A:=by intro hk7q;(first|refine sb0 ?_|refine sb1 ?_|((with_reducible refine' Cp.by ?hc ?_);(case hc=>exact ay4 _))|((with_reducible refine' CE.pure ?hc ?_);(case hc=>exact ay4 _)));exact hk7q.run):A:=h ⟨k⟩
theorem cl_size (s:Sb) (hs:Ss s):APure Tryz.prog 17 [slS2 s] (iD (al8 s)):=by
 have hkl:=aE5 hs
 refine APure.of_call (aa4 mixed aa0 Tryz.func17 (by kernel_rfl) rfl Tryz.ntmps17 rfl ?_);intro BB
 repeat' (first|refine sk75 ?_|(intro b;conv=>whnf))
 generalize b=b3
 refine aE0 mixed aa0 rfl (ax8 _ (by assumption)) (fun x hx=>aO2 hx) rfl (γ:=Unit) (fun k _=>[(b3,.cells 3 [iD k])]) (fun _ _=>True) () cl3 trivial ?_ ?_
 ·rintro l k _ x hx -
  obtain ⟨p,hp,rfl⟩:=aO3 hx
  have hlt:=(List.getElem?_eq_some_iff.1 hp).1
  repeat' (first|refine sk75 ?_|(intro b;conv=>whnf))
  exact ⟨(),cl3,trivial⟩
 ·rintro _ -
  repeat' (first|refine sk75 ?_|(intro b;conv=>whnf))
  refine Rt.pure (congrArg iD ?_)
  rw [List.length_map,aC7]
theorem sk76 {A B:Prop} (k:B) (h:Hd7 B→A:=by intro hk7q;(first|refine sb0 ?_|refine sb1 ?_|((with_reducible refine' Cp.by ?hc ?_);(case hc=>first|exact eqf_ss _ _ (by assumption)|exact cl_size _ (by assumption)))|((with_reducible refine' CE.pure ?hc ?_);(case hc=>first|exact eqf_ss _ _ (by assumption)|exact cl_size _ (by assumption))));exact hk7q.run):A:=h ⟨k⟩
theorem sk77 {A B:Prop} (k:B) (h:Hd7 B→A:=by intro hk7q;(first|refine sb0 ?_|refine sb1 ?_|((with_reducible refine' Cp.by ?hc ?_);(case hc=>exact r31_size _ (by assumption)))|((with_reducible refine' CE.pure ?hc ?_);(case hc=>exact r31_size _ (by assumption))));exact hk7q.run):A:=h ⟨k⟩
end
section
open Go
structure Fit (x:Sch) (w:Wd) (s:Sb):Prop where
 snd:Snd x
 ws:Ws w
 ss:Ss s
 fit:aw8 x w=true
 shp:w.map List.length=s.map List.length
theorem aj6 {x:Sch} {w:Wd} (h:aw8 x w=true):w.length=x.kinds.length∧(∀ (k:Nat) l,w[k]?=some l→l.any (fun r=>!lenOk x k r)=false)∧(∀ r∈aa6 x,∀ l∈w.getD r.kind [],refOk w r l=true)∧aA6 w≤512:=by
 unfold aw8 at h
 simp only [Bool.and_eq_true,decide_eq_true_eq,List.all_eq_true] at h
 obtain ⟨⟨⟨h1,h2⟩,h3⟩,h4⟩:=h
 refine ⟨h1,fun k l hl=>?_,h3,h4⟩
 unfold be7 at h2
 rw [List.all_eq_true] at h2
 have:=h2 k (List.mem_range.2 (List.getElem?_eq_some_iff.1 hl).1)
 rw [aa3 hl,List.all_eq_true] at this
 rw [List.any_eq_false]
 intro r hr
 simp [this r hr]
theorem fit_ref {x:Sch} {w:Wd} {s:Sb} (hF:Fit x w s) {r:Rf} (hr:r∈aa6 x) {l:List (List Int)} (hl:w[r.kind]?=some l) {i:Nat} {y:List Int} (hy:l[i]?=some y) :
  ∃ v z t,y[r.field]?=some v∧am0 w r.kind i r.field=v∧0≤v∧w[r.up.toNat]?=some z∧s[r.up.toNat]?=some t∧t.length=z.length∧v.toNat<t.length:=by
 obtain ⟨h1,h2,h3,_⟩:=aj6 hF.fit
 obtain ⟨u1,u2,u3⟩:=hF.snd.up r hr
 have hym:=List.mem_of_getElem? hy
 have hfl:=aG3 hr h2 hl hym
 have hok:=h3 r hr y (by rw [aa3 hl];exact hym)
 obtain ⟨z,hz⟩:∃ z,w[r.up.toNat]?=some z:=⟨_,List.getElem?_eq_getElem (by omega)⟩
 obtain ⟨t,ht,htl⟩:=ah8 hF.shp hz
 have hv:y[r.field]?=some y[r.field]:=List.getElem?_eq_getElem hfl
 unfold refOk at hok
 rw [aa3 hv,aa3 hz] at hok
 simp only [Bool.not_eq_true',Bool.or_eq_false_iff,decide_eq_false_iff_not] at hok
 exact ⟨_,z,t,hv,by unfold am0 ar5;rw [aa3 hl,aa3 hy,aa3 hv],by omega,hz,ht,htl,by omega⟩
theorem av0 {p:Nat→Bool} {n:Nat}:(List.range (n+1)).countP p=(List.range n).countP p+(if p n=true then 1 else 0):=by
 rw [List.range_succ,List.countP_append];cases h:p n <;> simp [h]
end
section
open Go
theorem aA2 {x:Sch} {w:Wd} {s:Sb} (hw:Ws w) (hs:Ss s) (h:ab8 x w s=0):Fit x w s:=by
 unfold ab8 at h
 split at h
 ·cases h
 ·rename_i h1
  split at h
  ·cases h
  ·rename_i h2
   split at h
   ·cases h
   ·rename_i h3
    exact ⟨snd_of (List.length_eq_zero_iff.1 (by omega)),hw,hs,by simpa using h2,by have h4:ap2 w s=true:=(by simpa using h3);exact of_decide_eq_true h4⟩
theorem valid_no {x:Sch} {w:Wd} {s:Sb} (h:ab8 x w s≠0):ai0 x w s=false:=by unfold ai0;rw [decide_eq_false h];rfl
theorem sk78 {A B:Prop} (k:B) (h:Hd7 B→A:=by intro hk7q;(first|refine sb0 ?_|refine sb1 ?_|((with_reducible refine' Cp.by ?hc ?_);(case hc=>first|exact HC|exact HW))|((with_reducible refine' CE.pure ?hc ?_);(case hc=>first|exact HC|exact HW)));exact hk7q.run):A:=h ⟨k⟩
end
section
open Go
abbrev RB:ORep (List Bool):=fun l v s=>RowIs 4 1 (l.map fun b=>[bD b]) v s
abbrev RI:ORep (List Int):=fun l v s=>RowIs 3 1 (l.map fun n=>[iD n]) v s
abbrev RS:ORep Sb:=RowsOf 62 RB
abbrev RW1:ORep (List (List Int)):=RowsOf 22 RI
abbrev RW:ORep Wd:=RowsOf 75 RW1
theorem frz_b:Frz RB slB:=frz_row _ _ _
theorem frz_i:Frz RI slI:=frz_row _ _ _
theorem frz_s:Frz RS slS2:=aZ2 frz_b
theorem frz_w1:Frz RW1 slW1:=aZ2 frz_i
theorem frz_w:Frz RW slW:=aZ2 frz_w1
theorem one_b (l:List Bool):((l.map fun b=>[bD b]).all fun y=>y.all oneD)=true:=by rw [List.all_eq_true];intro y hy;obtain ⟨b,_,rfl⟩:=List.mem_map.1 hy;rfl
theorem one_i (l:List Int):((l.map fun b=>[iD b]).all fun y=>y.all oneD)=true:=by rw [List.all_eq_true];intro y hy;obtain ⟨b,_,rfl⟩:=List.mem_map.1 hy;rfl
theorem clone_b (l:List Bool) (hl:l.length≤1000000):ACall Tryz.prog 93 [slB l] [] (fun d s=>∃ v,d = .v v∧RB l v s):=by
 refine aa4 mixed aa0 Tryz.func93 (by kernel_rfl) rfl Tryz.ntmps93 rfl ?_;intro BB
 repeat' (first|refine sk2 ?_|(intro b;conv=>whnf))
 refine OtE.nilsl aa0 rfl rfl rfl rfl rfl (fun e he=>?_)
 repeat' (first|refine sk2 ?_|(intro b;conv=>whnf)|(with_reducible refine Br.d (fun hc=>?_) (fun hc=>?_))|(with_reducible refine Br.b (fun hc=>?_) (fun hc=>?_)))
 ·have:l=[]:=by simpa using he (by assumption)
  subst this
  exact Rt.same ⟨_,rfl,RowIs.nil _ _⟩
 ·refine Ap.go rfl rfl rfl rfl (RowIs.e0 _ _ (some ⟨b,0,none⟩)) (List.Perm.refl _) (one_b l) (zs:=l.map fun b=>[bD b]) rfl (by simp;omega) (by simp;omega) (fun s'=>s') (fun s'=>by simp) (fun a c s' hr=>?_)
  repeat' (first|refine sk2 ?_|(intro b;conv=>whnf))
  exact Rt.same ⟨_,rfl,hr⟩
theorem clone_i (l:List Int) (hl:l.length≤1000000):ACall Tryz.prog 58 [slI l] [] (fun d s=>∃ v,d = .v v∧RI l v s):=by
 refine aa4 mixed aa0 Tryz.func58 (by kernel_rfl) rfl Tryz.ntmps58 rfl ?_;intro BB
 repeat' (first|refine sk2 ?_|(intro b;conv=>whnf))
 refine OtE.nilsl aa0 rfl rfl rfl rfl rfl (fun e he=>?_)
 repeat' (first|refine sk2 ?_|(intro b;conv=>whnf)|(with_reducible refine Br.d (fun hc=>?_) (fun hc=>?_))|(with_reducible refine Br.b (fun hc=>?_) (fun hc=>?_)))
 ·have:l=[]:=by simpa using he (by assumption)
  subst this
  exact Rt.same ⟨_,rfl,RowIs.nil _ _⟩
 ·refine Ap.go rfl rfl rfl rfl (RowIs.e0 _ _ (some ⟨b,0,none⟩)) (List.Perm.refl _) (one_i l) (zs:=l.map fun b=>[iD b]) rfl (by simp;omega) (by simp;omega) (fun s'=>s') (fun s'=>by simp) (fun a c s' hr=>?_)
  repeat' (first|refine sk2 ?_|(intro b;conv=>whnf))
  exact Rt.same ⟨_,rfl,hr⟩
end
section
open Go
def part {α:Type} (x0:α) (xs:List α) (j:Nat):List α:=xs.take j ++ List.replicate (xs.length - j) x0
theorem aX8 {α:Type} (x0:α) (xs:List α) {j:Nat} (h:j≤xs.length):(part x0 xs j).length=xs.length:=by simp [part];omega
theorem aM9 {α:Type} (x0:α) (xs:List α):part x0 xs 0=List.replicate xs.length x0:=by simp [part]
theorem aY0 {α:Type} (x0:α) (xs:List α):part x0 xs xs.length=xs:=by simp [part]
theorem aX9 {α:Type} (x0:α) (xs:List α) {j:Nat} (h:j<xs.length):(part x0 xs j)[j]?=some x0:=by
 unfold part
 rw [List.getElem?_append_right (by simp;omega),List.getElem?_replicate]
 simp;omega
theorem aX7 {α:Type} (x0:α) (xs:List α) {j:Nat} {x:α} (h:xs[j]?=some x):(part x0 xs j).set j x=part x0 xs (j+1):=by
 have hj:=(List.getElem?_eq_some_iff.1 h).1
 unfold part
 rw [List.set_append_right _ _ (by simp;omega),List.take_add_one,h]
 have e:j - (xs.take j).length=0:=by simp;omega
 rw [e]
 obtain ⟨d,hd⟩:∃ d,xs.length - j=d+1:=⟨xs.length - j - 1,by omega⟩
 rw [hd,show xs.length - (j+1)=d by omega,List.replicate_succ]
 simp
theorem Mk.go {T:TypeId→Option TI} {σ:aa1} {t e:TypeId} {i j:TI} {ag:Bool} {by_ m':Nat} {z:ZV} {K:D→aa1→Prop} (m:Nat) (h1:T t=some i) (h2:i.sl=some (e,ag,1,by_)) (h3:T e=some j) (h4:j.zero=[z]) (h5:j.size=1) (hm:m'=m) (hb:by_*m≤281474976710656) (hl:m≤1000000000)
  (k:∀ b,W (K (.v (.slice (some ⟨b,0,none⟩) m m)) ((b,.cells e (List.replicate m (.v (zv z)))) :: σ))):Mk T σ t (.v (.int .i64 m')) (.v (.int .i64 m')) K:=by
 subst hm
 exact ⟨e,i,j,ag,by_,m',z,h1,h2,h3,h4,h5,rfl,rfl,hb,hl,fun b=>(k b).h⟩
theorem bh2 (s:Sb) (hs:Ss s):ACall Tryz.prog 67 [slS2 s] [] (fun d σ=>∃ v,d = .v v∧RS s v σ):=by
 have hsl:=hs.nk
 refine aa4 mixed aa0 Tryz.func67 (by kernel_rfl) rfl Tryz.ntmps67 rfl ?_;intro BB
 repeat' (first|refine sk2 ?_|(intro b;conv=>whnf))
 refine Mk.go s.length rfl rfl rfl rfl rfl (by simp) (by omega) (by omega) (fun b=>?_)
 repeat' (first|refine sk2 ?_|(intro b;conv=>whnf))
 refine aa9 mixed aa0 (γ:=Nat × aa1) (fun g=>[(11,iD g.1)]) (fun g=>g.2) (fun g=>g.1≤s.length∧RS (part [] s g.1) (.slice (some ⟨b,0,none⟩) s.length s.length) g.2) (fun g=>s.length - g.1) (0,[(b,.cells 62 (List.replicate s.length (.v (.slice none 0 0))))]) (aa2 cl2) cl3 ⟨Nat.zero_le _,by rw [aM9];exact RowsOf.made (R:=RB) (x0:=[]) (RowIs.nil _ _) s.length b (by unfold maxLen;omega)⟩ ?_
 rintro ⟨j,τ⟩ ⟨hj,hR⟩
 simp only at hj hR ⊢
 by_cases hjl:j<s.length
 ·obtain ⟨l,hl⟩:∃ l,s[j]?=some l:=⟨_,List.getElem?_eq_getElem hjl⟩
  have hl':s[((j:Nat):Int).toNat]?=some l:=hl
  have hll:=hs.nr l (List.mem_of_getElem? hl)
  obtain ⟨b',cap,cs,u,t,ρ,e1,h2,h3,h4,h5⟩:=hR.at (aX9 [] s hjl)
  rw [aX8 _ _ hj] at e1
  cases e1
  repeat' (first|refine sk2 ?_|(intro b;conv=>whnf))
  refine CE.own (clone_b l (by omega)) (List.Perm.refl ([] ++ τ)) (fun s'=>s' ++ τ) (fun s'=>List.Perm.refl _) ?_
  rintro _ s' ⟨v',rfl,hr'⟩
  obtain ⟨a1,c1,rfl⟩:=hr'.slice
  repeat' (first|refine sk2 ?_|(intro b;conv=>whnf))
  have hcl:=(List.getElem?_eq_some_iff.1 h3).1
  have ho:0+((j:Nat):Int).toNat*1=j:=by simp
  refine Sv.cellm (cs:=cs) (cs':=cs.set j (.v (.slice a1 (l.map fun b=>[bD b]).length c1))) (τ:=s' ++ (t ++ ρ)) ((List.Perm.append_left s' h2).trans List.perm_middle) (by rw [ho];exact hcl) rfl (by rw [ho]) ?_
  repeat' (first|refine sk2 ?_|(intro b;conv=>whnf))
  exact ⟨(j+1,(b,.cells 62 (cs.set j (.v (.slice a1 (l.map fun b=>[bD b]).length c1)))) :: (s' ++ ρ)),(aa2 cl2),(List.Sublist.refl s').append (List.sublist_append_right _ _) |>.cons_cons _,⟨by simp only;omega,by simp only;rw [← aX7 [] s hl];exact h5 _ _ _ _ hr' (List.Perm.refl _)⟩,by simp only;omega⟩
 ·obtain rfl:j=s.length:=by omega
  rw [aY0] at hR
  repeat' (first|refine sk2 ?_|(intro b;conv=>whnf))
  exact Rt.same ⟨_,rfl,hR⟩
end
section
open Go
theorem af4 {α:Type} {l:List α} {j:Nat} {x:α} (h:l[j]?=some x):l.take (j+1)=l.take j ++ [x]:=by rw [List.take_add_one,h];rfl
theorem RowsOf.push {α:Type} {R:ORep α} {e:TypeId} {xs:List α} {vs:List Value} {s0 t s':aa1} {ts:List aa1} {v u:Value} {x:α} (h2:All3 R xs vs ts) (h1:RowIs e 1 (vs.map (fun u=>[D.v u]) ++ [[D.v u]]) v s0) (hx:R x u t) (hp:s'.Perm (s0 ++ (ts.flatten ++ t))):RowsOf e R (xs ++ [x]) v s':=
 ⟨vs ++ [u],s0,ts ++ [t],by simpa using h1,h2.append (.cons hx .nil),hp.trans (by simp)⟩
theorem r31_copied (s:Sb) (hs:Ss s):ACall Tryz.prog 27 [slS2 s] [] (fun d σ=>∃ v,d = .v v∧RS s v σ):=by
 have hsl:=hs.nk
 refine aa4 mixed aa0 Tryz.func27 (by kernel_rfl) rfl Tryz.ntmps27 rfl ?_;intro BB
 repeat' (first|refine sk2 ?_|(intro b;conv=>whnf))
 refine aa9 mixed aa0 (γ:=Nat × Value × aa1) (fun g=>[(3,.v g.2.1),(4,iD g.1)]) (fun g=>g.2.2) (fun g=>g.1≤s.length∧RS (s.take g.1) g.2.1 g.2.2) (fun g=>s.length - g.1) (0,.slice none 0 0,[]) (aa2 cl2) cl3 ⟨Nat.zero_le _,RowsOf.nil _ _⟩ ?_
 rintro ⟨j,v,τ⟩ ⟨hj,hR⟩
 simp only at hj hR ⊢
 by_cases hjl:j<s.length
 ·obtain ⟨l,hl⟩:∃ l,s[j]?=some l:=⟨_,List.getElem?_eq_getElem hjl⟩
  have hl':s[((j:Nat):Int).toNat]?=some l:=hl
  have hll:=hs.nr l (List.mem_of_getElem? hl)
  obtain ⟨vs,s0,ts,h1,h2,h3⟩:=hR.ex
  have hlen:=h2.len.1
  rw [List.length_take,Nat.min_eq_left hj] at hlen
  repeat' (first|refine sk2 ?_|(intro b;conv=>whnf))
  refine Ap.go rfl rfl rfl rfl (RowIs.e0 _ _ (some ⟨b,0,none⟩)) (List.Perm.refl ([] ++ τ)) (one_b l) (zs:=l.map fun b=>[bD b]) rfl (by simp;omega) (by simp;omega) (fun s'=>s' ++ τ) (fun s'=>List.Perm.refl _) (fun a1 c1 s' hr=>?_)
  repeat' (first|refine sk2 ?_|(intro b;conv=>whnf))
  refine Ap.go rfl rfl rfl rfl h1 (show (s' ++ τ).Perm (s0 ++ (ts.flatten ++ s')) from (List.Perm.append_left s' h3).trans (List.perm_append_comm.trans (by simp))) rfl (zs:=vs.map (fun u=>[D.v u]) ++ [[D.v (.slice a1 (l.map fun b=>[bD b]).length c1)]]) rfl (by simp [hlen];omega) (by simp [hlen];omega) (fun s2=>s2 ++ (ts.flatten ++ s')) (fun s2=>List.Perm.refl _) (fun a2 c2 s2 hr2=>?_)
  repeat' (first|refine sk2 ?_|(intro b;conv=>whnf))
  exact ⟨(j+1,_,s2 ++ (ts.flatten ++ s')),(aa2 cl2),cl3,⟨by simp only;omega,by simp only;rw [af4 hl];exact RowsOf.push h2 hr2 hr (List.Perm.refl _)⟩,by simp only;omega⟩
 ·obtain rfl:j=s.length:=by omega
  rw [List.take_of_length_le (Nat.le_refl _)] at hR
  repeat' (first|refine sk2 ?_|(intro b;conv=>whnf))
  exact Rt.same ⟨_,rfl,hR⟩
end
section
open Go
theorem aB8 {α:Type} [DecidableEq α] {p:α→Bool} {a:α}:∀ {l:List α},l.Nodup→a∈l→p a=true→l.countP (fun q=>p q && !decide (a=q))+1=l.countP p
 | [],_,h,_=>by cases h
 | b :: l,hn,h,hp=>by
  rw [List.nodup_cons] at hn
  rw [List.countP_cons,List.countP_cons]
  by_cases e:a=b
  ·subst e
   have:l.countP (fun q=>p q && !decide (a=q))=l.countP p:=by
    apply List.countP_congr
    intro q hq
    have:a≠q:=fun e=>hn.1 (e ▸ hq)
    simp [this]
   rw [this]
   simp [hp]
  ·have hm:a∈l:=by
    rcases List.mem_cons.1 h with h|h
    ·exact absurd h e
    ·exact h
   have:=aB8 hn.2 hm hp
   simp only [e,decide_false,Bool.not_false,Bool.and_true]
   omega
theorem aC0 (s:Sb) (k i:Nat):(ah6 s k i).map List.length=s.map List.length:=by
 apply List.ext_getElem?
 intro j
 simp only [ah6,List.getElem?_map,List.getElem?_set]
 by_cases h:k=j
 ·subst h
  by_cases hl:k<s.length
  ·simp [hl,List.getD_eq_getElem?_getD]
  ·simp [hl]
 ·simp [h]
theorem size_clear {s:Sb} {k i:Nat} (h:keptB s k i=true):al8 (ah6 s k i)+1=al8 s:=by
 rw [aC7,aC7]
 unfold ae5
 rw [← List.countP_eq_length_filter,← List.countP_eq_length_filter,posOf_clear]
 rw [← aB8 (p:=fun p=>keptB s p.1 p.2) (a:=(k,i)) (aB1 s) (ax9 (p:=(k,i)) h) h]
 congr 1
 apply List.countP_congr
 intro q _
 rw [aq7]
 have:(decide (k=q.1) && decide (i=q.2))=decide ((k,i)=q):=by
  obtain ⟨a,b⟩:=q
  simp [Bool.decide_and]
 rw [this]
section
variable {x:Sch} {w:Wd}
theorem sweep1_lens (t:Sb × Bool) (p:Nat × Nat):(ad8 x w t p).1.map List.length=t.1.map List.length:=by
 unfold ad8;split
 ·exact aC0 _ _ _
 ·rfl
theorem ay1 (l:List (Nat × Nat)) (t:Sb × Bool):(l.foldl (ad8 x w) t).1.map List.length=t.1.map List.length:=by
 induction l generalizing t with
 | nil=>rfl
 | cons p l ih=>rw [List.foldl_cons,ih,sweep1_lens]
theorem aH0 {t:Sb × Bool} {p q:Nat × Nat} (h:q≠p):keptB (ad8 x w t p).1 q.1 q.2=keptB t.1 q.1 q.2:=by
 unfold ad8;split
 ·rw [aq7]
  have:(decide (p.1=q.1) && decide (p.2=q.2))=false:=by
   rw [Bool.eq_false_iff];intro e
   simp only [Bool.and_eq_true,decide_eq_true_eq] at e
   exact h (Prod.ext e.1.symm e.2.symm)
  simp [this]
 ·rfl
theorem fold_other {l:List (Nat × Nat)} {q:Nat × Nat} (h:q ∉ l) (t:Sb × Bool):keptB (l.foldl (ad8 x w) t).1 q.1 q.2=keptB t.1 q.1 q.2:=by
 induction l generalizing t with
 | nil=>rfl
 | cons p l ih=>
  rw [List.foldl_cons,ih (fun hm=>h (List.mem_cons_of_mem _ hm)),aH0 (fun e=>h (by rw [e];exact List.mem_cons_self))]
theorem fold_inv (l:List (Nat × Nat)) (s:Sb):∀ t:Sb × Bool,(t.2=false→t.1=s)→al8 t.1≤al8 s→(t.2=true→al8 t.1<al8 s) →
  ((l.foldl (ad8 x w) t).2=false→(l.foldl (ad8 x w) t).1=s)∧al8 (l.foldl (ad8 x w) t).1≤al8 s∧((l.foldl (ad8 x w) t).2=true→al8 (l.foldl (ad8 x w) t).1<al8 s):=by
 induction l with
 | nil=>intro t h1 h2 h3;exact ⟨h1,h2,h3⟩
 | cons p l ih=>
  intro t h1 h2 h3
  rw [List.foldl_cons]
  have key:((ad8 x w t p).2=false→(ad8 x w t p).1=s)∧al8 (ad8 x w t p).1≤al8 s∧((ad8 x w t p).2=true→al8 (ad8 x w t p).1<al8 s):=by
   unfold ad8
   split
   ·rename_i h
    simp only [Bool.and_eq_true] at h
    have:=size_clear h.1
    exact ⟨(fun h=>by cases h),by simp only;omega,fun _=>by simp only;omega⟩
   ·exact ⟨h1,h2,h3⟩
  exact ih _ key.1 key.2.1 key.2.2
theorem sweep_no {s:Sb} (h:(al4 x w s).2=false):(al4 x w s).1=s:=(fold_inv (aw7 s) s (s,false) (fun _=>rfl) (Nat.le_refl _) (fun h=>by cases h)).1 h
theorem aJ5 {s:Sb} (h:(al4 x w s).2=true):al8 (al4 x w s).1<al8 s:=(fold_inv (aw7 s) s (s,false) (fun _=>rfl) (Nat.le_refl _) (fun h=>by cases h)).2.2 h
theorem aL7:∀ (a b:Nat) (s:Sb),al8 s<a→al8 s<b→ax1 x w a s=ax1 x w b s
 | 0,_,s,h,_=>by omega
 | a+1,0,s,_,h=>by omega
 | a+1,b+1,s,h1,h2=>by
  simp only [ax1]
  cases hs:(al4 x w s).2 with
  | false=>rfl
  | true=>
   simp only [if_true]
   have:=aJ5 hs
   exact aL7 a b _ (by omega) (by omega)
theorem aL5 (s:Sb):ah0 x w s=if (al4 x w s).2 then ah0 x w (al4 x w s).1 else s:=by
 unfold ah0
 conv=>lhs;simp only [ax1]
 cases hs:(al4 x w s).2 with
 | false=>simp only [Bool.false_eq_true,if_false];exact sweep_no hs
 | true=>
  simp only [if_true]
  have:=aJ5 hs
  exact aL7 _ _ _ (by omega) (by omega)
theorem aL6 (s:Sb):∀ n,(ax1 x w n s).map List.length=s.map List.length:=by
 intro n
 induction n generalizing s with
 | zero=>rfl
 | succ n ih=>
  simp only [ax1]
  split
  ·rw [ih,al4,ay1]
  ·rw [al4,ay1]
theorem aO9 {s:Sb}:∀ (l:List (Nat × Nat)) (t:Sb × Bool),l.Nodup→(∀ p∈l,keptB t.1 p.1 p.2=keptB s p.1 p.2)→(l.filter fun p=>keptB s p.1 p.2).foldl (ad8 x w) t=l.foldl (ad8 x w) t
 | [],t,_,_=>rfl
 | p :: l,t,hn,h=>by
  rw [List.nodup_cons] at hn
  have hp:=h p (by simp)
  have hrest:∀ q∈l,keptB (ad8 x w t p).1 q.1 q.2=keptB s q.1 q.2:=fun q hq=>by
   rw [aH0 (fun e=>hn.1 (by rw [← e];exact hq))]
   exact h q (by simp [hq])
  rw [List.filter_cons]
  split
  ·rw [List.foldl_cons,List.foldl_cons]
   exact aO9 l _ hn.2 hrest
  ·rename_i hk
   have e:ad8 x w t p=t:=by
    unfold ad8;rw [hp,(by simpa using hk:keptB s p.1 p.2=false)];simp
   rw [List.foldl_cons,e]
   exact aO9 l t hn.2 (fun q hq=>h q (by simp [hq]))
def swK (x:Sch) (w:Wd) (s:Sb) (m:Nat):Sb × Bool:=((ae5 s).take m).foldl (ad8 x w) (s,false)
theorem swK_succ {s:Sb} {m:Nat} {p:Nat × Nat} (h:(ae5 s)[m]?=some p):swK x w s (m+1)=ad8 x w (swK x w s m) p:=by
 unfold swK;rw [List.take_add_one,h,List.foldl_append];rfl
theorem swK_all (s:Sb):swK x w s (ae5 s).length=al4 x w s:=by
 unfold swK al4 ae5
 rw [List.take_of_length_le (Nat.le_refl _)]
 exact aO9 _ _ (aB1 s) (fun _ _=>rfl)
theorem swK_kept {s:Sb} {m:Nat} {p:Nat × Nat} (h:(ae5 s)[m]?=some p):keptB (swK x w s m).1 p.1 p.2=true:=by
 unfold swK
 rw [fold_other]
 ·exact aq6.1 (List.mem_of_getElem? h)
 ·intro hm
  obtain ⟨j,hj⟩:=List.getElem?_of_mem hm
  rw [List.getElem?_take] at hj
  split at hj
  ·rename_i hlt
   have hnd:=aO1 s
   obtain ⟨h1,e1⟩:=List.getElem?_eq_some_iff.1 hj
   obtain ⟨h2,e2⟩:=List.getElem?_eq_some_iff.1 h
   exact List.pairwise_iff_getElem.1 hnd j m h1 h2 hlt (e1.trans e2.symm)
  ·cases hj
theorem swK_lens (s:Sb) (m:Nat):(swK x w s m).1.map List.length=s.map List.length:=ay1 _ _
end
end
section
open Go
theorem ss_lens {s t:Sb} (h:t.map List.length=s.map List.length) (hs:Ss s):Ss t:=by
 refine ⟨by have:=congrArg List.length h;simp at this;have:=hs.nk;omega,fun l hl=>?_⟩
 obtain ⟨k,hk⟩:=List.getElem?_of_mem hl
 obtain ⟨m,hm,e⟩:=ah8 h hk
 have:=hs.nr m (List.mem_of_getElem? hm)
 omega
theorem Fit.lens {x:Sch} {w:Wd} {s t:Sb} (hF:Fit x w s) (h:t.map List.length=s.map List.length):Fit x w t:=⟨hF.snd,hF.ws,ss_lens h hF.ss,hF.fit,hF.shp.trans h.symm⟩
theorem clear_set {t:Sb} {j i:Nat} {l:List Bool} (hl:t[j]?=some l):t.set j (l.set i false)=ah6 t j i:=by unfold ah6;rw [aa3 hl]
def shI (x:Sch) (w:Wd) (s:Sb) (again:Bool) (t:Sb):Prop:=t.map List.length=s.map List.length∧(if again=true then ah0 x w t=ah0 x w s else t=ah0 x w s)
end
section
open Go
theorem fl_b (l:List Bool) (v:Value) (s:aa1) (h:RB l v s):FlS s:=FlS.row h (fun x hx d hd=>by obtain ⟨b,_,rfl⟩:=List.mem_map.1 hx;rw [List.mem_singleton] at hd;subst hd;rfl)
theorem fl_s (x:Sb) (v:Value) (s:aa1) (h:RS x v s):FlS s:=FlS.rows fl_b h
theorem aM1:RS [] (.slice none 0 0) []:=RowsOf.nil _ _
theorem great_no {x:Sch} {w:Wd} {s:Sb} (h:ab8 x w s≠0):aI1 x w s=([],ab8 x w s):=by unfold aI1;rw [if_pos h]
theorem aO6 {x:Sch} {w:Wd} {s:Sb} (h:ab8 x w s=0):aI1 x w s=(ah0 x w s,0):=by unfold aI1;rw [if_neg (by simpa using h)]
theorem wout_no {x:Sch} {w:Wd} {s:Sb} {k i:Int} (h:ab8 x w s≠0):ad1 x w s k i=([],ab8 x w s):=by unfold ad1;rw [if_pos h]
theorem wout_6 {x:Sch} {w:Wd} {s:Sb} {k i:Int} (h:ab8 x w s=0) (h2:ao6 s k i=false):ad1 x w s k i=([],6):=by unfold ad1;rw [if_neg (by simpa using h),if_pos h2]
theorem wout_yes {x:Sch} {w:Wd} {s:Sb} {k i:Int} (h:ab8 x w s=0) (h2:ao6 s k i=true):ad1 x w s k i=(ah0 x w (ah6 s k.toNat i.toNat),0):=by unfold ad1;rw [if_neg (by simpa using h),if_neg (by simp [h2])]
theorem au9 {s:Sb} {k i:Int} (h:ao6 s k i=true):∃ (a b:Nat) (l:List Bool),k=a∧i=b∧s[a]?=some l∧l[b]?=some true:=by
 unfold ao6 at h
 simp only [Bool.and_eq_true,decide_eq_true_eq] at h
 obtain ⟨⟨h1,h2⟩,h3⟩:=h
 obtain ⟨a,rfl⟩:=Int.eq_ofNat_of_zero_le h1
 obtain ⟨b,rfl⟩:=Int.eq_ofNat_of_zero_le h2
 simp only [Int.toNat_natCast] at h3
 unfold keptB at h3
 simp only [List.getD_eq_getElem?_getD] at h3
 cases h4:s[a]? with
 | none=>simp [h4] at h3
 | some l=>
  simp only [h4,Option.getD_some] at h3
  refine ⟨a,b,l,rfl,rfl,h4,?_⟩
  cases h5:l[b]? with
  | none=>simp [h5] at h3
  | some c=>simp only [h5,Option.getD_some] at h3;rw [h3]
theorem sk79 {A B:Prop} (k:B) (h:Hd7 B→A:=by intro hk7q;(first|refine sb0 ?_|refine sb1 ?_|((with_reducible refine' Cp.by ?hc ?_);(case hc=>first|exact HC|exact HK))|((with_reducible refine' CE.pure ?hc ?_);(case hc=>first|exact HC|exact HK)));exact hk7q.run):A:=h ⟨k⟩
end
section
open Go
theorem wout_lens {x:Sch} {w:Wd} {s:Sb} {k i:Int} (h:(ad1 x w s k i).2=0):(ad1 x w s k i).1.map List.length=s.map List.length:=by
 unfold ad1 at h ⊢
 split at h
 ·rename_i h1;exact absurd h h1
 ·rename_i h1
  split at h
  ·cases h
  ·rename_i h2
   rw [if_neg h1,if_neg h2]
   exact (aL6 _ _).trans (aC0 _ _ _)
theorem wout_fit {x:Sch} {w:Wd} {s:Sb} {k i:Int} (hw:Ws w) (hs:Ss s) (h:(ad1 x w s k i).2=0):Fit x w s:=by
 refine aA2 hw hs ?_
 unfold ad1 at h
 split at h
 ·exact h
 ·rename_i h1;simpa using h1
abbrev RA:ORep (List (Nat × Nat)):=fun l v s=>RowIs 33 2 (l.map fun p=>atC p.1 p.2) v s
theorem tog_no {x:Sch} {w:Wd} {s:Sb} {k i:Int} (h:(ad1 x w s k i).2≠0):am2 x w s k i=([],(ad1 x w s k i).2):=by unfold am2;rw [if_pos h]
theorem tog_yes {x:Sch} {w:Wd} {s:Sb} {k i:Int} (h:(ad1 x w s k i).2=0):am2 x w s k i=((ae5 s).filter (fun p=>!keptB (ad1 x w s k i).1 p.1 p.2),0):=by unfold am2;rw [if_neg (by simpa using h)]
end
section
open Go Go.Maps Go.MapKept
theorem laid_out:laidOutB Tryz.prog=true:=by kernel_rfl
theorem ap8:Keyed Tryz.prog 33:=Keyed.of_law (deep_law_laid laid_out (m:=2) (by omega) (of_decide_eq_true (by kernel_rfl)) (by kernel_rfl) (by rw [Tryz.underlying33]))
theorem at_ktype:Tryz.prog.keyType 33=true:=by kernel_rfl
def atV (a b:Int):Value:=.agg #[.int .i64 a,.int .i64 b]
theorem at_cells:Tryz.prog.cellsOf 33=2:=by kernel_rfl
theorem cells_int1:Tryz.prog.cellsOf 3=1:=by kernel_rfl
theorem at_formed (a b:Int):(atV a b).formed Tryz.prog 33=true:=by
 simp [atV,Value.formed,Tryz.underlying33,at_cells]
theorem int_lits (n:Nat) {a:Int} (ha:(Lit.int .i64 a).wf=true):Tryz.prog.keyLits (n+1) 3 [.int .i64 a]=some [.int .i64 a]:=by
 simp only [Program.keyLits,Tryz.underlying3,ha]
 simp
theorem bh9 {a b:Int} (ha:(Lit.int .i64 a).wf=true) (hb:(Lit.int .i64 b).wf=true):∃ l,keyOf Tryz.prog 33 (atV a b)=some l:=by
 unfold keyOf
 rw [Tryz.underlying33]
 simp only [at_ktype,at_formed,Bool.and_self,if_true]
 have:∃ n,Tryz.prog.types.size=n+1:=⟨Tryz.prog.types.size - 1,by have:0<Tryz.prog.types.size:=of_decide_eq_true (by kernel_rfl);omega⟩
 obtain ⟨n,hn⟩:=this
 rw [hn]
 have:Tryz.prog.keyLits (n+1+1) 33 (atV a b).cells.toList=some [.int .i64 a,.int .i64 b]:=by
  unfold Program.keyLits
  simp [atV,Value.cells,Tryz.underlying33,at_cells,cells_int1,int_lits n ha,int_lits n hb]
 rw [this]
 exact ⟨_,rfl⟩
theorem az7:Keyed Tryz.prog 3:=int_keyed Tryz.underlying3
theorem aY9 {a:Int} (ha:(Lit.int .i64 a).wf=true):keyOf Tryz.prog 3 (.int .i64 a)=some (.int .i64 a):=keyOf_int_mk Tryz.underlying3 ha
theorem wf64 {a:Int} (h1:-9223372036854775808≤a) (h2:a≤9223372036854775807):(Lit.int .i64 a).wf=true:=by
 have e1:IntKind.i64.min = -9223372036854775808:=rfl
 have e2:IntKind.i64.max=9223372036854775807:=rfl
 simp [Lit.wf,e1,e2,h1,h2]
theorem ar8 (w:World):(zeroValue 3).run Tryz.prog w = .ok (.int .i64 0) w:=by kernel_rfl
theorem aU6 (w:World):(zeroValue 116).run Tryz.prog w = .ok (.map none) w:=by kernel_rfl
theorem atV_inj {a b c d:Int} (h:atV a b=atV c d):a=c∧b=d:=by
 simp only [atV,Value.agg.injEq] at h
 have:=congrArg Array.toList h
 simp at this
 exact this
def outF (bs:List Nat):Value→Option Value
 | .int .i64 n=>if 0≤n then (bs[n.toNat]?).map (fun b=>.map (some b)) else none
 | _=>none
theorem outF_nil:outF []=fun _=>none:=by
 funext v
 unfold outF
 split <;> simp
theorem outF_push (bs:List Nat) (b:Nat):updF (outF bs) (.int .i64 bs.length) (.map (some b))=outF (bs ++ [b]):=by
 funext v
 unfold updF
 split
 ·rename_i h
  subst h
  simp [outF]
 ·rename_i h
  unfold outF
  split
  ·rename_i n
   split
   ·rename_i h0
    have:n.toNat≠bs.length:=fun e=>h (by rw [← e];congr 1;omega)
    rcases Nat.lt_or_ge n.toNat bs.length with h1|h1
    ·rw [List.getElem?_append_left h1]
    ·rw [List.getElem?_append_right h1,List.getElem?_eq_none_iff.2 h1]
     have:n.toNat - bs.length≠0:=by omega
     obtain ⟨d,hd⟩:=Nat.exists_eq_succ_of_ne_zero this
     rw [hd];rfl
   ·rfl
  ·rfl
theorem outF_get {bs:List Nat} {q b:Nat} (h:bs[q]?=some b):outF bs (.int .i64 q)=some (.map (some b)):=by simp [outF,h]
abbrev Cnt:=Value→Option Value
def cnt (F:Cnt) (r:Rf) (i:Int):Value:=(F (atV r.up i)).getD (.int .i64 0)
theorem aZ6 (F:Cnt) (r:Rf) (i i0:Int) (v:Value):cnt (updF F (atV r.up i0) v) r i=if i=i0 then v else cnt F r i:=by
 unfold cnt updF
 by_cases h:i=i0
 ·subst h;simp
 ·have:atV r.up i≠atV r.up i0:=fun e=>h (atV_inj e).2
  simp [this,h]
def aQ6 (ms:List (Nat × Cnt)):aa1:=ms.map fun p=>(p.1,.obj (MapO Tryz.prog 33 p.2))
structure MP (refs:List Rf) (c:Nat→Int→Int) (bl:Nat) (R:aa1):Prop where
 ex:∃ ms:List (Nat × Cnt),ms.length=refs.length∧(∀ (n:Nat) r p,refs[n]?=some r→ms[n]?=some p→∀ i,cnt p.2 r i = .int .i64 (c n i))∧R.Perm ((bl,.obj (MapO Tryz.prog 3 (outF (ms.map Prod.fst)))) :: aQ6 ms)
theorem MP.perm {refs:List Rf} {c:Nat→Int→Int} {bl:Nat} {R R':aa1} (h:MP refs c bl R) (hp:R'.Perm R):MP refs c bl R':=by
 obtain ⟨ms,h1,h2,h3⟩:=h.ex
 exact ⟨ms,h1,h2,hp.trans h3⟩
theorem MP.cong {refs:List Rf} {c c':Nat→Int→Int} {bl:Nat} {R:aa1} (h:MP refs c bl R) (hc:∀ n i,n<refs.length→c n i=c' n i):MP refs c' bl R:=by
 obtain ⟨ms,h1,h2,h3⟩:=h.ex
 exact ⟨ms,h1,fun n r p q1 q2 i=>by rw [← hc n i (List.getElem?_eq_some_iff.1 q1).1];exact h2 n r p q1 q2 i,h3⟩
theorem MP.nil (c:Nat→Int→Int) (b:Nat):MP [] c b [(b,.obj (MapO Tryz.prog 3 fun _=>none))]:=⟨[],rfl,fun n r p h=>by simp at h,by simp [aQ6,outF_nil]⟩
theorem MP.get {refs:List Rf} {c:Nat→Int→Int} {bl:Nat} {R:aa1} (h:MP refs c bl R) {q:Nat} {r:Rf} (hq:refs[q]?=some r) :
  ∃ (b:Nat) (F:Cnt) (G:Value→Option Value) (ρ:aa1),R.Perm ((bl,.obj (MapO Tryz.prog 3 G)) :: (b,.obj (MapO Tryz.prog 33 F)) :: ρ)∧G (.int .i64 q)=some (.map (some b))∧(∀ i,cnt F r i = .int .i64 (c q i)) ∧
   ∀ (F':Cnt) (c':Int→Int),(∀ i,cnt F' r i = .int .i64 (c' i))→MP refs (fun n i=>if n=q then c' i else c n i) bl ((bl,.obj (MapO Tryz.prog 3 G)) :: (b,.obj (MapO Tryz.prog 33 F')) :: ρ):=by
 obtain ⟨ms,h1,h2,h3⟩:=h.ex
 have hql:=(List.getElem?_eq_some_iff.1 hq).1
 obtain ⟨⟨b,F⟩,hm⟩:∃ p,ms[q]?=some p:=⟨_,List.getElem?_eq_getElem (by omega)⟩
 have hml:=(List.getElem?_eq_some_iff.1 hm).1
 have e4:ms=ms.take q ++ (b,F) :: ms.drop (q+1):=by
  have:=(List.getElem?_eq_some_iff.1 hm).2
  rw [← this,List.getElem_cons_drop,List.take_append_drop]
 refine ⟨b,F,outF (ms.map Prod.fst),aQ6 (ms.take q) ++ aQ6 (ms.drop (q+1)),?_,outF_get (by rw [List.getElem?_map,hm];rfl),h2 q r _ hq hm,fun F' c' hc=>⟨ms.set q (b,F'),by simpa using h1,fun n r' p q1 q2 i=>?_,?_⟩⟩
 ·refine h3.trans (List.Perm.cons _ ?_)
  conv=>lhs;rw [e4]
  unfold aQ6
  rw [List.map_append,List.map_cons]
  exact List.perm_middle
 ·by_cases e:n=q
  ·subst e
   rw [List.getElem?_set_self hml] at q2
   cases q2
   cases hq.symm.trans q1
   rw [if_pos rfl];exact hc i
  ·rw [List.getElem?_set_ne (Ne.symm e)] at q2
   rw [if_neg e];exact h2 n r' p q1 q2 i
 ·have e5:ms.set q (b,F')=ms.take q ++ (b,F') :: ms.drop (q+1):=by rw [List.set_eq_take_append_cons_drop,if_pos hml]
  have e6:(ms.set q (b,F')).map Prod.fst=ms.map Prod.fst:=by
   rw [List.map_set]
   exact aV9 (by rw [List.getElem?_map,hm];rfl)
  rw [e6]
  refine List.Perm.cons _ ?_
  rw [e5]
  unfold aQ6
  rw [List.map_append,List.map_cons]
  exact List.perm_middle.symm
theorem MP.push {refs:List Rf} {c:Nat→Int→Int} {bl:Nat} {R:aa1} (h:MP refs c bl R) (r:Rf) :
  ∃ (G:Value→Option Value) (ρ:aa1),R.Perm ((bl,.obj (MapO Tryz.prog 3 G)) :: ρ) ∧
   ∀ b,MP (refs ++ [r]) (fun n i=>if n=refs.length then 0 else c n i) bl ((bl,.obj (MapO Tryz.prog 3 (updF G (.int .i64 refs.length) (.map (some b))))) :: (b,.obj (MapO Tryz.prog 33 fun _=>none)) :: ρ):=by
 obtain ⟨ms,h1,h2,h3⟩:=h.ex
 refine ⟨outF (ms.map Prod.fst),aQ6 ms,h3,fun b=>⟨ms ++ [(b,fun _=>none)],by simp [h1],fun n r' p q1 q2 i=>?_,?_⟩⟩
 ·rcases Nat.lt_or_ge n refs.length with hn|hn
  ·rw [List.getElem?_append_left hn] at q1
   rw [List.getElem?_append_left (by omega)] at q2
   rw [if_neg (by omega)];exact h2 n r' p q1 q2 i
  ·have hnl:=(List.getElem?_eq_some_iff.1 q1).1
   simp at hnl
   obtain rfl:n=refs.length:=by omega
   rw [if_pos rfl]
   rw [List.getElem?_append_right (by omega),h1] at q2
   simp at q2
   subst q2
   rfl
 ·have:=outF_push (ms.map Prod.fst) b
  rw [List.length_map,h1] at this
  rw [this]
  have e:aQ6 (ms ++ [(b,fun _=>none)])=aQ6 ms ++ [(b,.obj (MapO Tryz.prog 33 fun _=>none))]:=by simp [aQ6]
  have e2:(ms ++ [(b,fun _=>none)]:List (Nat × Cnt)).map Prod.fst=ms.map Prod.fst ++ [b]:=by simp
  rw [e,e2]
  exact List.Perm.cons _ (List.perm_append_singleton _ _).symm
def cE (x:Sch) (w:Wd) (s:Sb) (n:Nat) (i:Int):Int:=match (aa6 x)[n]? with
 | some r=>ad4 w s r i
 | none=>0
def CS (x:Sch) (w:Wd) (s:Sb) (v:Value) (bl:Nat) (σ:aa1):Prop:=∃ σs R J,RS s v σs∧MP (aa6 x) (cE x w s) bl R∧σ.Perm (σs ++ (R ++ J))
abbrev stC (x:Sch) (w:Wd) (v:Value) (bl:Nat):List D:=[slRf (aa6 x),slW w,.v v,.v (.map (some bl))]
end
section
open Go Go.Maps Go.MapKept
theorem ACall.vs2 {P:Program} {f:FuncId} {args:List D} {σ:aa1} {R R':D→aa1→Prop} (h:ACall P f args σ R) (k:∀ d s,R d s→∃ d' s',Vs s d s' d'∧R' d' s'):ACall P f args σ R':=
 ⟨h.ent,fun w X vs hv hs=>(h.run w X vs hv hs).mono fun e w' ⟨u,d,s,g1,g2,g3,g4,g5⟩=>by
  obtain ⟨d',s',q1,q2⟩:=k d s g2
  obtain ⟨q3,q4⟩:=q1.run w' X u g4 g3
  exact ⟨u,d',s',g1,q2,q4,q3,g5.fewer q1.sub⟩⟩
def cTo (w:Wd) (s:Sb) (r:Rf) (j:Nat) (i:Int):Nat:=(List.range j).countP fun jj=>keptB s r.kind jj && decide (am0 w r.kind jj r.field=i)
theorem cTo_succ (w:Wd) (s:Sb) (r:Rf) (j:Nat) (i:Int):cTo w s r (j+1) i=cTo w s r j i+(if keptB s r.kind j=true∧am0 w r.kind j r.field=i then 1 else 0):=by
 unfold cTo
 rw [List.range_succ,List.countP_append]
 simp
theorem cTo_le (w:Wd) (s:Sb) (r:Rf) (j:Nat) (i:Int):cTo w s r j i≤j:=by
 have:=List.countP_le_length (p:=fun jj=>keptB s r.kind jj && decide (am0 w r.kind jj r.field=i)) (l:=List.range j)
 simpa [cTo] using this
theorem cTo_all {w:Wd} {s:Sb} {r:Rf} {l:List (List Int)} (h:w[r.kind]?=some l) (i:Int):cTo w s r l.length i=ad4 w s r i:=by
 unfold cTo ad4
 rw [aa3 h]
theorem ref_key {x:Sch} {w:Wd} {s:Sb} (hF:Fit x w s) {r:Rf} (hr:r∈aa6 x):(Lit.int .i64 r.up).wf=true:=by
 obtain ⟨u1,u2,u3⟩:=hF.snd.up r hr
 have:=hF.snd.vld.nk
 exact wf64 (by omega) (by omega)
theorem sb80 {A B:Prop} (k:B) (h:Hd7 B→A:=by intro hk7q;(first|(with_reducible refine Bc.l ?_)|(with_reducible refine Bx.l ?_)|((with_reducible refine Dr.l ?h ?_);(case h=>decide +kernel))|(with_reducible refine Dr.r ?_)|((with_reducible refine Cb.go ?h ?_);(case h=>decide +kernel)));exact hk7q.run):A:=h ⟨k⟩
theorem sk81 {A B:Prop} (k:B) (h:Hd7 B→A:=by intro hk7q;(first|refine sb0 ?_|refine sb80 ?_|((with_reducible refine' Cp.by ?hc ?_);(case hc=>exact HR))|((with_reducible refine' CE.pure ?hc ?_);(case hc=>exact HR)));exact hk7q.run):A:=h ⟨k⟩
theorem aZ9 (x:Sch) (w:Wd) (s:Sb) (hF:Fit x w s):ACall Tryz.prog 40 [schD x,slW w,slS2 s] [] (fun d σ=>∃ a c bl,d = .ro (stC x w (.slice a s.length c) bl)∧CS x w s (.slice a s.length c) bl σ):=by
 have HR:=aZ8 x hF.snd.vld
 have hsl:=hF.ss.nk
 have hwl:=hF.ws.nk
 have hrl:=az0 hF.snd.vld
 refine aa4 mixed aa0 Tryz.func40 (by kernel_rfl) rfl Tryz.ntmps40 rfl ?_;intro BB
 repeat' (first|refine sk81 ?_|(intro b;conv=>whnf))
 refine CE.own (bh2 s hF.ss) (List.Perm.refl []) (fun s'=>s') (fun s'=>by simp) ?_
 rintro _ σs ⟨v,rfl,hR⟩
 obtain ⟨a,c,rfl⟩:=hR.slice
 repeat' (first|refine sk81 ?_|(intro b;conv=>whnf))
 refine OtE.makeMap (k:=3) rfl (fun bl=>?_)
 repeat' (first|refine sk81 ?_|(intro b;conv=>whnf))
 refine aa9 mixed aa0 (γ:=Nat × aa1) (fun g=>[(25,iD g.1)]) (fun g=>g.2) (fun g=>g.1≤(aa6 x).length∧∃ R J,MP ((aa6 x).take g.1) (cE x w s) bl R∧g.2.Perm (σs ++ (R ++ J))) (fun g=>(aa6 x).length - g.1) (0,(bl,.obj (MapO Tryz.prog 3 fun _=>none)) :: σs) (aa2 cl2) cl3 ⟨Nat.zero_le _,_,[],MP.nil _ bl,by rw [List.append_nil];exact (List.perm_append_singleton _ _).symm⟩ ?_
 rintro ⟨q,σ⟩ ⟨hq,R,J,hM,hp⟩
 simp only at hq hM hp ⊢
 by_cases hql:q<(aa6 x).length
 ·obtain ⟨r,hr⟩:∃ r,(aa6 x)[q]?=some r:=⟨_,List.getElem?_eq_getElem hql⟩
  have hr':(aa6 x)[((q:Nat):Int).toNat]?=some r:=hr
  have hrm:=List.mem_of_getElem? hr
  obtain ⟨u1,u2,u3⟩:=hF.snd.up r hrm
  have hkl:r.kind<w.length:=by have:=(aj6 hF.fit).1;omega
  obtain ⟨l,hl⟩:∃ l,w[r.kind]?=some l:=⟨_,List.getElem?_eq_getElem hkl⟩
  have hl':w[((r.kind:Nat):Int).toNat]?=some l:=hl
  obtain ⟨t,ht,htl⟩:=ah8 hF.shp hl
  have ht':s[((r.kind:Nat):Int).toNat]?=some t:=ht
  have hll:=hF.ws.nr l (List.mem_of_getElem? hl)
  obtain ⟨G,ρ,hG,hpush⟩:=hM.push r
  have hlen:((aa6 x).take q).length=q:=by rw [List.length_take];omega
  rw [hlen] at hpush
  repeat' (first|refine sk81 ?_|(intro b;conv=>whnf))
  refine OtE.makeMap (k:=33) rfl (fun bn=>?_)
  repeat' (first|refine sk81 ?_|(intro b;conv=>whnf))
  refine OtE.mapUpdate (b:=bl) (F:=G) (k:=3) (e:=116) (kl:=.int .i64 q) (τ:=(bn,.obj (MapO Tryz.prog 33 fun _=>none)) :: (b,.cells 121 (rfC r)) :: (ρ ++ (σs ++ J))) rfl rfl (KeyD.v _) rfl ?_ az7 Tryz.underlying132 (aY9 (wf64 (by omega) (by omega))) ?_
  ·(refine ac3 fun a=>?_;have e1:=And.intro (aj8 hp a) (aj8 hG a);simp only [List.append_eq,List.nil_append,ac4,ae4,ae6,rfC,atC,iD,bD] at e1 ⊢;omega)
  repeat' (first|refine sk81 ?_|(intro b;conv=>whnf))
  have hM0:=hpush bn
  have htk:(aa6 x).take (q+1)=(aa6 x).take q ++ [r]:=af4 hr
  rw [← htk] at hM0
  refine aa9 mixed aa0 (γ:=Nat × aa1) (fun g=>[(42,iD g.1)]) (fun g=>g.2) (fun g=>g.1≤l.length∧∃ R J,MP ((aa6 x).take (q+1)) (fun n i=>if n=q then cTo w s r g.1 i else cE x w s n i) bl R∧g.2.Perm ((b,.cells 121 (rfC r)) :: (σs ++ (R ++ J)))) (fun g=>l.length - g.1) (0,_) (aa2 cl2) cl3 ⟨Nat.zero_le _,_,J,hM0.cong (fun n i _=>by by_cases e:n=q <;> simp [e,cTo]),by (refine ac3 fun a=>?_;simp only [List.append_eq,List.nil_append,ac4,ae4,ae6,rfC,atC,iD,bD];omega)⟩ ?_
  rintro ⟨j,σ2⟩ ⟨hj,R2,J2,hM2,hp2⟩
  simp only at hj hM2 hp2 ⊢
  have m9:(b,Blk.cells 121 (rfC r))∈σ2:=hp2.mem_iff.2 (by simp)
  by_cases hjl:j<l.length
  ·obtain ⟨y,hy⟩:∃ y,l[j]?=some y:=⟨_,List.getElem?_eq_getElem hjl⟩
   have hy':l[((j:Nat):Int).toNat]?=some y:=hy
   obtain ⟨kb,hkb⟩:∃ kb,t[j]?=some kb:=⟨_,List.getElem?_eq_getElem (by omega)⟩
   have hkb':t[((j:Nat):Int).toNat]?=some kb:=hkb
   obtain ⟨v,z,tz,g1,g2,g3,g4,g5,g6,g7⟩:=fit_ref hF hrm hl hy
   have g1':y[((r.field:Nat):Int).toNat]?=some v:=g1
   have hkk:=av8 ht hkb
   have htz:=hF.ss.nr tz (List.mem_of_getElem? g5)
   obtain ⟨bm,Fm,G2,ρ2,hG2,hgq,hcnt,hset⟩:=hM2.get (show ((aa6 x).take (q+1))[q]?=some r by rw [htk,List.getElem?_append_right (by rw [hlen];omega),hlen];simp)
   cases kb with
   | false=>
    repeat' (first|refine sk81 ?_|(intro b;conv=>whnf)|((with_reducible refine' Ld.cellm m9 ?h2 ?_);(case h2=>exact rfl)))
    have hst:∀ i,cTo w s r (j+1) i=cTo w s r j i:=fun i=>by rw [cTo_succ,hkk];simp
    exact ⟨(j+1,σ2),(aa2 cl2),cl3,⟨by simp only;omega,R2,J2,by simp only [hst];exact hM2,hp2⟩,by simp only;omega⟩
   | true=>
    repeat' (first|refine sk81 ?_|(intro b;conv=>whnf)|((with_reducible refine' Ld.cellm m9 ?h2 ?_);(case h2=>exact rfl)))
    have hp3:σ2.Perm ((bl,.obj (MapO Tryz.prog 3 G2)) :: (bm,.obj (MapO Tryz.prog 33 Fm)) :: ((b,.cells 121 (rfC r)) :: (ρ2 ++ (σs ++ J2)))):=by (refine ac3 fun a=>?_;have e1:=And.intro (aj8 hp2 a) (aj8 hG2 a);simp only [List.append_eq,List.nil_append,ac4,ae4,ae6,rfC,atC,iD,bD] at e1 ⊢;omega)
    have ml:(bl,Blk.obj (MapO Tryz.prog 3 G2))∈σ2:=hp3.mem_iff.2 (by simp)
    have mm:(bm,Blk.obj (MapO Tryz.prog 33 Fm))∈σ2:=hp3.mem_iff.2 (by simp)
    have hc0:(Fm (atV r.up v)).getD (.int .i64 0) = .int .i64 (cTo w s r j v):=by have:=hcnt v;simp only [if_true] at this;exact this
    obtain ⟨kl,hkl⟩:=bh9 (ref_key hF hrm) (show (Lit.int .i64 v).wf=true from wf64 (by omega) (by omega))
    have hp4:σ2.Perm ((bm,.obj (MapO Tryz.prog 33 Fm)) :: ((bl,.obj (MapO Tryz.prog 3 G2)) :: (b,.cells 121 (rfC r)) :: (ρ2 ++ (σs ++ J2)))):=by (refine ac3 fun a=>?_;have e1:=aj8 hp3 a;simp only [List.append_eq,List.nil_append,ac4,ae4,ae6,rfC,atC,iD,bD] at e1 ⊢;omega)
    have hle:=cTo_le w s r j v
    have hfin:∃ R J,MP ((aa6 x).take (q+1)) (fun n i=>if n=q then cTo w s r (j+1) i else cE x w s n i) bl R∧((bm,Blk.obj (MapO Tryz.prog 33 (updF (updF Fm (atV r.up v) (.int .i64 (cTo w s r j v))) (atV r.up v) (.int .i64 (cTo w s r j v+1))))) :: ((bl,.obj (MapO Tryz.prog 3 G2)) :: (b,.cells 121 (rfC r)) :: (ρ2 ++ (σs ++ J2)))).Perm ((b,.cells 121 (rfC r)) :: (σs ++ (R ++ J))):=by
     refine ⟨_,J2,(hset (updF (updF Fm (atV r.up v) (.int .i64 (cTo w s r j v))) (atV r.up v) (.int .i64 (cTo w s r j v+1))) (fun i=>cTo w s r (j+1) i) (fun i=>?_)).cong (fun n i _=>by by_cases e:n=q <;> simp [e]),by (refine ac3 fun a=>?_;simp only [List.append_eq,List.nil_append,ac4,ae4,ae6,rfC,atC,iD,bD];omega)⟩
     rw [aZ6,aZ6,cTo_succ,hkk,g2]
     by_cases e:i=v
     ·subst e;simp
     ·have hci:=hcnt i
      simp only [if_true] at hci
      rw [if_neg e,if_neg e,hci,if_neg (by rintro ⟨_,e2⟩;exact e e2.symm)]
      simp
    refine Dm.r ?_
    refine W.mk ?_
    refine ax6 mixed aa0 rfl [0,1,2,3,4,5,6,7,8,9,10,11,12,13] 5 (.two 14 (.two 15 (.one 16 (.one 17 (.one 18 .done))) 16 (.two 15 (.one 17 (.one 18 .done)) 17 (.one 15 (.one 18 .done)))) 16 (.two 14 (.two 15 (.one 17 (.one 18 .done)) 17 (.one 15 (.one 18 .done))) 17 (.one 14 (.one 15 (.one 18 .done))))) (γ:=Value × aa1) (fun g=>[(69,iD (cTo w s r j v)),(70,iD (cTo w s r j v+1)),(71,.tup [iD (cTo w s r j v),.v g.1]),(72,.v g.1)]) (fun g=>g.2) (fun g=>∃ R J,MP ((aa6 x).take (q+1)) (fun n i=>if n=q then cTo w s r (j+1) i else cE x w s n i) bl R∧g.2.Perm ((b,.cells 121 (rfC r)) :: (σs ++ (R ++ J)))) (by decide +kernel) ?_ ?_
    ·repeat' (first|refine sk81 ?_|(intro b;conv=>whnf)|((with_reducible refine' Ld.cellm m9 ?h2 ?_);(case h2=>exact rfl)))
     refine Ot.yd (aj0 (u:=.map (some bm)) rfl rfl (KeyD.v _) ml (fun _ h=>h) az7 Tryz.underlying132 aU6 (aY9 (wf64 (by omega) (by omega))) (by rw [hgq];rfl)) ?_
     repeat' (first|refine sk81 ?_|(intro b;conv=>whnf)|((with_reducible refine' Ld.cellm m9 ?h2 ?_);(case h2=>exact rfl)))
     repeat' (first|refine sk81 ?_|(intro b;conv=>whnf)|((with_reducible refine' Ld.cellm m9 ?h2 ?_);(case h2=>exact rfl))|(refine And.intro ?_ ?_ <;> (conv=>whnf))|(refine OtE.yd rfl (aj0 (kv:=atV r.up v) (u:=.int .i64 (cTo w s r j v)) rfl rfl (KeyD.agg2 _ _) mm (fun _ h=>h) ap8 Tryz.underlying116 ar8 hkl hc0) ?_)|(refine OtE.yd rfl (aj0 (kv:=atV r.up v) (u:=.int .i64 (cTo w s r j v)) rfl rfl (KeyD.agg2 _ _) (List.mem_cons_self) (fun _ h=>h.is) ap8 Tryz.underlying116 ar8 hkl (updF_at _ _ _ _)) ?_)|(refine OtE.mapEntry2 (kv:=atV r.up v) (u:=.int .i64 (cTo w s r j v)) rfl rfl (KeyD.agg2 _ _) hp4 (fun _ h=>h) ap8 Tryz.underlying116 ar8 hkl hc0 (fun st=>?_))|(refine OtE.entryStore (kv:=atV r.up v) (xv:=.int .i64 (cTo w s r j v+1)) rfl rfl rfl rfl (List.Perm.refl _) hkl ?_))
     all_goals exact ⟨(st,_),(aa2 cl2),rfl,hfin⟩
    ·rintro ⟨st,σ3⟩ ⟨R3,J3,hM3,hp3'⟩
     simp only at hM3 hp3' ⊢
     repeat' (first|refine sk81 ?_|(intro b;conv=>whnf)|((with_reducible refine' Ld.cellm m9 ?h2 ?_);(case h2=>exact rfl)))
     exact ⟨(j+1,σ3),(aa2 cl2),cl3,⟨by simp only;omega,R3,J3,hM3,hp3'⟩,by simp only;omega⟩
  ·obtain rfl:j=l.length:=by omega
   repeat' (first|refine sk81 ?_|(intro b;conv=>whnf)|((with_reducible refine' Ld.cellm m9 ?h2 ?_);(case h2=>exact rfl)))
   exact ⟨(q+1,σ2),(aa2 cl2),cl3,⟨by simp only;omega,R2,_,hM2.cong (fun n i hn=>by
    by_cases e:n=q
    ·subst e;rw [if_pos rfl,cTo_all hl];simp [cE,hr]
    ·rw [if_neg e]),hp2.trans (show List.Perm _ (σs ++ (R2 ++ (J2 ++ [(b,.cells 121 (rfC r))]))) by (refine ac3 fun a=>?_;simp only [List.append_eq,List.nil_append,ac4,ae4,ae6,rfC,atC,iD,bD];omega))⟩,by simp only;omega⟩
 ·obtain rfl:q=(aa6 x).length:=by omega
  rw [List.take_length] at hM
  repeat' (first|refine sk81 ?_|(intro b;conv=>whnf))
  exact Rt.same ⟨_,_,bl,rfl,σs,R,J,hR,hM,hp⟩
end
end Go.Proofs.YtjbbmjjildhfbaaGreatDoor
namespace Go.Proofs
open Go.Shelf
def Tryz.lays169_ren:Go.Shelf.Ren:=⟨fun | 169=>142|n=>n,fun | 70=>203 | 9=>9 | 0=>0 | 72=>206 | 37=>204 | 127=>230 | 3=>3 | 5=>5|n=>n,fun|n=>n⟩
theorem Tryz.lays169:Go.Proofs.Lays.n169 Tryz.prog Tryz.lays169_ren:={
 mixed:=by kernel_rfl
 f169:=Tryz.func142.trans (congrArg some (by kernel_rfl))
 t0:=Tryz.underlying0
 a0:=Tryz.isAgg0
 z0:=Tryz.sizeOf0
 v0:=Tryz.zeroValue0
 t3:=Tryz.underlying3
 a3:=Tryz.isAgg3
 z3:=Tryz.sizeOf3
 v3:=Tryz.zeroValue3
 t9:=Tryz.underlying9
 a9:=Tryz.isAgg9
 z9:=Tryz.sizeOf9
 v9:=Tryz.zeroValue9
 t37:=Tryz.underlying204
 a37:=Tryz.isAgg204
 z37:=Tryz.sizeOf204
 v37:=Tryz.zeroValue204
 t70:=Tryz.underlying203
 a70:=Tryz.isAgg203
 z70:=Tryz.sizeOf203
 v70:=Tryz.zeroValue203
 t72:=Tryz.underlying206
 a72:=Tryz.isAgg206
 z72:=Tryz.sizeOf206
 v72:=Tryz.zeroValue206
 t127:=Tryz.underlying230
 a127:=Tryz.isAgg230
 z127:=Tryz.sizeOf230
 v127:=Tryz.zeroValue230 }
theorem Tryz.Builder_Extra_169:Builder.Extra Tryz.prog Tryz.lays169_ren:={
 sizeBuilder:=by kernel_rfl
 liesBuilder:=by kernel_rfl
 t5:=Tryz.underlying5
 a5:=Tryz.isAgg5
 z5:=Tryz.sizeOf5
 v5:=Tryz.zeroValue5
 infoByte:=by kernel_rfl
 cellsByte:=by kernel_rfl
 sizeByte:=by kernel_rfl
 neB5:=by decide }
open Go.RowKit in
theorem Tryz.Builder_String_any (B b:Nat) (l:List UInt8) (w:World) (h:Lib.IsBuilder 206 5 B b (Lib.byteCells l) w) (hBw:B≤w.heap.size) :
  Calls Tryz.prog 142 #[.pointer (some ⟨b,0,none⟩)] w fun e w'=>e = .returned (.string ⟨l.toArray⟩)∧Below B w w':=Any.Builder_String_any Tryz.lays169 Tryz.Builder_Extra_169 B b l w h hBw
def Tryz.laysM246_ren:Go.Shelf.Ren:=⟨fun | 246=>182 | 283=>183 | 284=>184 | 285=>185 | 286=>186 | 129=>188 | 317=>187 | 318=>189 | 319=>190 | 320=>191 | 337=>192 | 338=>193|n=>n,fun | 2=>2 | 3=>3 | 9=>9 | 4=>4 | 171=>241 | 0=>0 | 53=>175 | 37=>204 | 5=>5 | 173=>244 | 212=>247 | 51=>172 | 20=>20 | 213=>248 | 46=>143 | 232=>252 | 233=>253|n=>n,fun | 17=>2 | 18=>3 | 19=>4|n=>n⟩
def Tryz.laysM243_ren:Go.Shelf.Ren:=⟨fun | 243=>181 | 246=>182 | 283=>183 | 284=>184 | 285=>185 | 286=>186 | 129=>188 | 317=>187 | 318=>189 | 319=>190 | 320=>191 | 337=>192 | 338=>193|n=>n,fun | 3=>3 | 9=>9 | 2=>2 | 4=>4 | 171=>241 | 0=>0 | 53=>175 | 37=>204 | 5=>5 | 173=>244 | 212=>247 | 51=>172 | 20=>20 | 213=>248 | 46=>143 | 232=>252 | 233=>253|n=>n,fun | 17=>2 | 18=>3 | 19=>4|n=>n⟩
def Tryz.laysM171_ren:Go.Shelf.Ren:=⟨fun | 171=>167 | 243=>181 | 246=>182 | 283=>183 | 284=>184 | 285=>185 | 286=>186 | 129=>188 | 317=>187 | 318=>189 | 319=>190 | 320=>191 | 337=>192 | 338=>193|n=>n,fun | 3=>3 | 9=>9 | 2=>2 | 4=>4 | 171=>241 | 0=>0 | 53=>175 | 37=>204 | 5=>5 | 173=>244 | 212=>247 | 51=>172 | 20=>20 | 213=>248 | 46=>143 | 232=>252 | 233=>253|n=>n,fun | 17=>2 | 18=>3 | 19=>4|n=>n⟩
theorem Tryz.laysM171:Go.Proofs.LaysM.n171 Tryz.prog Tryz.laysM171_ren:={
 mixed:=by kernel_rfl
 f129:=Tryz.func188.trans (congrArg some (by kernel_rfl))
 f171:=Tryz.func167.trans (congrArg some (by kernel_rfl))
 f243:=Tryz.func181.trans (congrArg some (by kernel_rfl))
 f246:=Tryz.func182.trans (congrArg some (by kernel_rfl))
 f283:=Tryz.func183.trans (congrArg some (by kernel_rfl))
 f284:=Tryz.func184.trans (congrArg some (by kernel_rfl))
 f285:=Tryz.func185.trans (congrArg some (by kernel_rfl))
 f286:=Tryz.func186.trans (congrArg some (by kernel_rfl))
 f317:=Tryz.func187.trans (congrArg some (by kernel_rfl))
 f318:=Tryz.func189.trans (congrArg some (by kernel_rfl))
 f319:=Tryz.func190.trans (congrArg some (by kernel_rfl))
 f320:=Tryz.func191.trans (congrArg some (by kernel_rfl))
 f337:=Tryz.func192.trans (congrArg some (by kernel_rfl))
 f338:=Tryz.func193.trans (congrArg some (by kernel_rfl))
 t0:=Tryz.underlying0
 a0:=Tryz.isAgg0
 z0:=Tryz.sizeOf0
 v0:=Tryz.zeroValue0
 t2:=Tryz.underlying2
 a2:=Tryz.isAgg2
 z2:=Tryz.sizeOf2
 v2:=Tryz.zeroValue2
 t3:=Tryz.underlying3
 a3:=Tryz.isAgg3
 z3:=Tryz.sizeOf3
 v3:=Tryz.zeroValue3
 t4:=Tryz.underlying4
 a4:=Tryz.isAgg4
 z4:=Tryz.sizeOf4
 v4:=Tryz.zeroValue4
 t5:=Tryz.underlying5
 a5:=Tryz.isAgg5
 z5:=Tryz.sizeOf5
 v5:=Tryz.zeroValue5
 t9:=Tryz.underlying9
 a9:=Tryz.isAgg9
 z9:=Tryz.sizeOf9
 v9:=Tryz.zeroValue9
 t20:=Tryz.underlying20
 a20:=Tryz.isAgg20
 z20:=Tryz.sizeOf20
 v20:=Tryz.zeroValue20
 t37:=Tryz.underlying204
 a37:=Tryz.isAgg204
 z37:=Tryz.sizeOf204
 v37:=Tryz.zeroValue204
 t46:=Tryz.underlying143
 a46:=Tryz.isAgg143
 z46:=Tryz.sizeOf143
 v46:=Tryz.zeroValue143
 t51:=Tryz.underlying172
 a51:=Tryz.isAgg172
 z51:=Tryz.sizeOf172
 v51:=Tryz.zeroValue172
 t53:=Tryz.underlying175
 a53:=Tryz.isAgg175
 z53:=Tryz.sizeOf175
 v53:=Tryz.zeroValue175
 t171:=Tryz.underlying241
 a171:=Tryz.isAgg241
 z171:=Tryz.sizeOf241
 v171:=Tryz.zeroValue241
 t173:=Tryz.underlying244
 a173:=Tryz.isAgg244
 z173:=Tryz.sizeOf244
 v173:=Tryz.zeroValue244
 t212:=Tryz.underlying247
 a212:=Tryz.isAgg247
 z212:=Tryz.sizeOf247
 v212:=Tryz.zeroValue247
 t213:=Tryz.underlying248
 a213:=Tryz.isAgg248
 z213:=Tryz.sizeOf248
 t232:=Tryz.underlying252
 a232:=Tryz.isAgg252
 z232:=Tryz.sizeOf252
 v232:=Tryz.zeroValue252
 t233:=Tryz.underlying253
 a233:=Tryz.isAgg253
 z233:=Tryz.sizeOf253
 v233:=Tryz.zeroValue253
 g17:=by kernel_rfl
 g18:=by kernel_rfl
 g19:=by kernel_rfl
 i0:=by kernel_rfl
 i2:=by kernel_rfl
 i3:=by kernel_rfl
 i4:=by kernel_rfl
 i5:=by kernel_rfl
 i9:=by kernel_rfl
 i20:=by kernel_rfl
 i37:=by kernel_rfl
 i46:=by kernel_rfl
 i51:=by kernel_rfl
 i53:=by kernel_rfl
 i171:=by kernel_rfl
 i173:=by kernel_rfl
 i212:=by kernel_rfl
 i232:=by kernel_rfl
 i233:=by kernel_rfl
 m17:=by kernel_rfl
 m18:=by kernel_rfl
 m19:=by kernel_rfl }
open Go.RowKit Go.Sort Go.Lib in
theorem Tryz.strconv_Itoa (n:Int) (h0:-9223372036854775808≤n) (h1:n≤9223372036854775807) (w:World) (htab:Lib.TabIs Tryz.prog w "internal/strconv.uint64pow10" .u64 Lib.pow10Tab) :
  Calls Tryz.prog 167 #[.int .i64 n] w fun e w'=>e = .returned (.string ⟨(Lib.itoa n).toArray⟩)∧∃ k os,w'=grow (w.drewN k) os:=Any.strconv_Itoa Tryz.laysM171 n h0 h1 w htab
def Tryz.lays212_ren:Go.Shelf.Ren:=⟨fun | 212=>76 | 263=>99 | 264=>100|n=>n,fun | 46=>143 | 51=>172 | 146=>173 | 53=>175 | 148=>176|n=>n,fun|n=>n⟩
theorem Tryz.lays212:Go.Proofs.Lays.n212 Tryz.prog Tryz.lays212_ren:={
 mixed:=by kernel_rfl
 f212:=Tryz.func76.trans (congrArg some (by kernel_rfl))
 f263:=Tryz.func99.trans (congrArg some (by kernel_rfl))
 f264:=Tryz.func100.trans (congrArg some (by kernel_rfl))
 t46:=Tryz.underlying143
 a46:=Tryz.isAgg143
 z46:=Tryz.sizeOf143
 v46:=Tryz.zeroValue143
 t51:=Tryz.underlying172
 a51:=Tryz.isAgg172
 z51:=Tryz.sizeOf172
 v51:=Tryz.zeroValue172
 t53:=Tryz.underlying175
 a53:=Tryz.isAgg175
 z53:=Tryz.sizeOf175
 v53:=Tryz.zeroValue175
 t146:=Tryz.underlying173
 a146:=Tryz.isAgg173
 z146:=Tryz.sizeOf173
 v146:=Tryz.zeroValue173
 t148:=Tryz.underlying176
 a148:=Tryz.isAgg176
 z148:=Tryz.sizeOf176
 v148:=Tryz.zeroValue176 }
open Go.RowKit Go.Lib in
theorem Tryz.bits_Mul (x y:Nat) (hx:x<18446744073709551616) (hy:y<18446744073709551616) (w:World) :
  Calls Tryz.prog 76 #[.int .u64 x,.int .u64 y] w fun e w'=>e = .returned (.tuple #[.int .u64 ((x*y / 18446744073709551616:Nat):Int),.int .u64 ((x*y % 18446744073709551616:Nat):Int)])∧w'=w:=Any.bits_Mul Tryz.lays212 x y hx hy w
end Go.Proofs
namespace Go.Proofs.YtjbbmjjildhfbaaGreatDoor
end Go.Proofs.YtjbbmjjildhfbaaGreatDoor
