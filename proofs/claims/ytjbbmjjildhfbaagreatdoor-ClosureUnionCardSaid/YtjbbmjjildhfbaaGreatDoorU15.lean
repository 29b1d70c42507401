/- A part of the proof: Ka Kb Kc Kd Tb Tc Td Te Ml R10f. -/
import Derived.Test.YtjbbmjjildhfbaaGreatDoorU14
set_option maxRecDepth 100000
set_option maxHeartbeats 4000000
set_option linter.unusedVariables false
set_option linter.unusedSimpArgs false
namespace Go.Proofs.YtjbbmjjildhfbaaGreatDoor
section
open Go
theorem vld_small {x : Sch} (hV : Vld x) : x.kinds.length ≤ 1000000 ∧ (∀ k ∈ x.kinds,k.fields.length ≤ 1000000):=⟨by have:=hV.nk;omega,fun k hk=>by have:=hV.nf k hk;omega⟩
theorem sk50 {A B : Prop} (k : B) (h : Hd7 B → A:=by intro hk7q;(first | refine sb0 ?_ | refine sb1 ?_ | ((with_reducible refine' Cp.by ?hc ?_);(case hc=>exact ty_up _ _ _ (by assumption) (by assumption))) | ((with_reducible refine' CE.pure ?hc ?_);(case hc=>exact ty_up _ _ _ (by assumption) (by assumption))));exact hk7q.run) : A:=h ⟨k⟩
theorem cl18 {p : Prop} (h : p:=by simp only [List.length_map,List.length_append,hS2,List.length_cons,List.length_nil];omega) : p:=h
theorem cl_refs (x : Sch) (hV : Vld x) : APure Tryz.prog 59 [schD x] (slRf (refsOf x)):=by
 obtain ⟨hl,hf⟩:=vld_small hV
 have hnk:=hV.nk
 have hkl : ∀ k,(refK x k).length ≤ 1000:=fun k=>refK_len x k (fun k hk=>by have:=hV.nf k hk;omega)
 refine APure.of_call (enterX mixed tget_ok Tryz.func59 (by kernel_rfl) rfl Tryz.ntmps59 rfl ?_);intro BB
 repeat' (first | refine sk50 ?_ | (intro b;conv=>whnf) | refine IxM.mk fun y hy=>?_)
 refine lp_loopd mixed tget_ok (γ:=Nat × Value × Store) (fun g=>[(3,.v g.2.1),(11,iD g.1)]) (fun g=>g.2.2) (fun g=>g.1 ≤ x.kinds.length ∧ RowIs 121 4 ((upTo g.1 (refK x)).map rfC) g.2.1 g.2.2) (fun g=>x.kinds.length - g.1) (0,.slice none 0 0,[]) (chk_of cl2) cl3 ⟨Nat.zero_le _,RowIs.nil _ _⟩ ?_
 rintro ⟨q,v,s⟩ ⟨hq,hrow⟩
 simp only at hq hrow ⊢
 have hlen:=upTo_len hkl q
 repeat' (first | refine sk50 ?_ | (intro b;conv=>whnf) | refine IxM.mk fun y hy=>?_ | (with_reducible refine Br.d (fun hc=>?_) (fun hc=>?_)) | (with_reducible refine Br.b (fun hc=>?_) (fun hc=>?_)))
 ·have hy : x.kinds[q]? = some y:=hy
  have hyf:=hV.nf y (List.mem_of_getElem? hy)
  have hS:=upTo_succ q (refK x)
  rw [show refK x q = upTo y.fields.length (refF x q y) by simp only [refK,hy]] at hS
  generalize b = b5
  refine lp_loopd mixed tget_ok (γ:=Nat × Value × Store) (fun g=>[(3,.v g.2.1),(19,iD g.1)]) (fun g=>(b5,.cells 97 (kndC y)) :: g.2.2) (fun g=>g.1 ≤ y.fields.length ∧ RowIs 121 4 ((upTo q (refK x) ++ upTo g.1 (refF x q y)).map rfC) g.2.1 g.2.2) (fun g=>y.fields.length - g.1) (0,v,s) (chk_of cl2) cl3 ⟨Nat.zero_le _,by simpa [upTo] using hrow⟩ ?_
  rintro ⟨j,v,s⟩ ⟨hj,hrow⟩
  simp only at hj hrow ⊢
  have hlen2:=upTo_len (refF_len x q y) j
  have hS2:=upTo_succ j (refF x q y)
  by_cases hjl : j < y.fields.length
  ·obtain ⟨f,hf0⟩ : ∃ f,y.fields[j]? = some f:=⟨_,List.getElem?_eq_getElem hjl⟩
   have hf0' : y.fields[((j : Nat) : Int).toNat]? = some f:=hf0
   rw [show refF x q y j = if f.kind = 1 then [⟨q,j,upIx x q j,f.lo⟩] else [] by simp only [refF,hf0]] at hS2
   repeat' (first | refine sk50 ?_ | (intro b;conv=>whnf) | refine IxM.mk fun y hy=>?_ | (with_reducible refine Br.d (fun hc=>?_) (fun hc=>?_)) | (with_reducible refine Br.b (fun hc=>?_) (fun hc=>?_)))
   ·rw [if_pos (by assumption)] at hS2
    refine Ap.go rfl rfl rfl rfl hrow (perm2 _ _ _) rfl (zs:=(upTo q (refK x) ++ upTo (j + 1) (refF x q y)).map rfC) (by rw [hS2,← List.append_assoc];simp [rfC]) cl18 cl18 (fun s'=>_ :: _ :: s') (perm2' _ _) (fun a' c' s' hr'=>?_)
    repeat' (first | refine sk50 ?_ | (intro b;conv=>whnf) | refine IxM.mk fun y hy=>?_)
    exact ⟨(j + 1,_,s'),(chk_of cl2),cl3,⟨by simp only;omega,hr'⟩,by simp only;omega⟩
   ·rw [if_neg (by assumption),List.append_nil] at hS2
    exact ⟨(j + 1,v,s),(chk_of cl2),cl3,⟨by simp only;omega,by simp only;rw [hS2];exact hrow⟩,by simp only;omega⟩
  ·obtain rfl : j = y.fields.length:=by omega
   repeat' (first | refine sk50 ?_ | (intro b;conv=>whnf) | refine IxM.mk fun y hy=>?_ | (with_reducible refine Br.d (fun hc=>?_) (fun hc=>?_)) | (with_reducible refine Br.b (fun hc=>?_) (fun hc=>?_)))
   exact ⟨(q + 1,v,s),(chk_of cl2),cl3,⟨by simp only;omega,by simp only;rw [hS];exact hrow⟩,by simp only;omega⟩
 ·obtain rfl : q = x.kinds.length:=by omega
  exact Rt.vs (Vs.row hrow (perm0 _))
theorem sk51 {A B : Prop} (k : B) (h : Hd7 B → A:=by intro hk7q;(first | refine sb0 ?_ | refine sb1 ?_ | ((with_reducible refine' Cp.by ?hc ?_);(case hc=>exact r10_up _ _ _ (by assumption) (by assumption))) | ((with_reducible refine' CE.pure ?hc ?_);(case hc=>exact r10_up _ _ _ (by assumption) (by assumption))));exact hk7q.run) : A:=h ⟨k⟩
theorem r31_refs (x : Sch) (hV : Vld x) : APure Tryz.prog 61 [schD x] (slRf (refsOf x)):=by
 obtain ⟨hl,hf⟩:=vld_small hV
 have hnk:=hV.nk
 have hkl : ∀ k,(refK x k).length ≤ 1000:=fun k=>refK_len x k (fun k hk=>by have:=hV.nf k hk;omega)
 refine APure.of_call (enterX mixed tget_ok Tryz.func61 (by kernel_rfl) rfl Tryz.ntmps61 rfl ?_);intro BB
 repeat' (first | refine sk51 ?_ | (intro b;conv=>whnf))
 refine lp_loopd mixed tget_ok (γ:=Nat × Value × Store) (fun g=>[(3,.v g.2.1),(4,iD g.1)]) (fun g=>g.2.2) (fun g=>g.1 ≤ x.kinds.length ∧ RowIs 125 4 ((upTo g.1 (refK x)).map rfC) g.2.1 g.2.2) (fun g=>x.kinds.length - g.1) (0,.slice none 0 0,[]) (chk_of cl2) cl3 ⟨Nat.zero_le _,RowIs.nil _ _⟩ ?_
 rintro ⟨q,v,s⟩ ⟨hq,hrow⟩
 simp only at hq hrow ⊢
 have hlen:=upTo_len hkl q
 by_cases hql : q < x.kinds.length
 ·obtain ⟨y,hy⟩ : ∃ y,x.kinds[q]? = some y:=⟨_,List.getElem?_eq_getElem hql⟩
  have hy' : x.kinds[((q : Nat) : Int).toNat]? = some y:=hy
  have hyf:=hV.nf y (List.mem_of_getElem? hy)
  have hS:=upTo_succ q (refK x)
  rw [show refK x q = upTo y.fields.length (refF x q y) by simp only [refK,hy]] at hS
  repeat' (first | refine sk51 ?_ | (intro b;conv=>whnf))
  refine lp_loopd mixed tget_ok (γ:=Nat × Value × Store) (fun g=>[(3,.v g.2.1),(5,iD g.1)]) (fun g=>g.2.2) (fun g=>g.1 ≤ y.fields.length ∧ RowIs 125 4 ((upTo q (refK x) ++ upTo g.1 (refF x q y)).map rfC) g.2.1 g.2.2) (fun g=>y.fields.length - g.1) (0,v,s) (chk_of cl2) cl3 ⟨Nat.zero_le _,by simpa [upTo] using hrow⟩ ?_
  rintro ⟨j,v,s⟩ ⟨hj,hrow⟩
  simp only at hj hrow ⊢
  have hlen2:=upTo_len (refF_len x q y) j
  have hS2:=upTo_succ j (refF x q y)
  by_cases hjl : j < y.fields.length
  ·obtain ⟨f,hf0⟩ : ∃ f,y.fields[j]? = some f:=⟨_,List.getElem?_eq_getElem hjl⟩
   have hf0' : y.fields[((j : Nat) : Int).toNat]? = some f:=hf0
   rw [show refF x q y j = if f.kind = 1 then [⟨q,j,upIx x q j,f.lo⟩] else [] by simp only [refF,hf0]] at hS2
   repeat' (first | refine sk51 ?_ | (intro b;conv=>whnf) | (with_reducible refine Br.d (fun hc=>?_) (fun hc=>?_)) | (with_reducible refine Br.b (fun hc=>?_) (fun hc=>?_)))
   ·rw [if_pos (by assumption)] at hS2
    refine Ap.go rfl rfl rfl rfl hrow (perm0 _) rfl (zs:=(upTo q (refK x) ++ upTo (j + 1) (refF x q y)).map rfC) (by rw [hS2,← List.append_assoc];simp [rfC]) cl18 cl18 (fun s'=>s') perm0' (fun a' c' s' hr'=>?_)
    repeat' (first | refine sk51 ?_ | (intro b;conv=>whnf))
    exact ⟨(j + 1,_,s'),(chk_of cl2),cl3,⟨by simp only;omega,hr'⟩,by simp only;omega⟩
   ·rw [if_neg (by assumption),List.append_nil] at hS2
    exact ⟨(j + 1,v,s),(chk_of cl2),cl3,⟨by simp only;omega,by simp only;rw [hS2];exact hrow⟩,by simp only;omega⟩
  ·obtain rfl : j = y.fields.length:=by omega
   repeat' (first | refine sk51 ?_ | (intro b;conv=>whnf) | (with_reducible refine Br.d (fun hc=>?_) (fun hc=>?_)) | (with_reducible refine Br.b (fun hc=>?_) (fun hc=>?_)))
   exact ⟨(q + 1,v,s),(chk_of cl2),cl3,⟨by simp only;omega,by simp only;rw [hS];exact hrow⟩,by simp only;omega⟩
 ·obtain rfl : q = x.kinds.length:=by omega
  repeat' (first | refine sk51 ?_ | (intro b;conv=>whnf) | (with_reducible refine Br.d (fun hc=>?_) (fun hc=>?_)) | (with_reducible refine Br.b (fun hc=>?_) (fun hc=>?_)))
  exact Rt.vs (Vs.row hrow (perm0 _))
end
section
open Go
structure Snd (x : Sch) : Prop where
 no : probs x = []
 vld : Vld x
 up : ∀ r ∈ refsOf x,0 ≤ r.up ∧ r.up < r.kind ∧ r.kind < x.kinds.length
theorem upIx_ltk (x : Sch) (k i : Int) (h : 0 ≤ upIx x k i) : upIx x k i < k:=by
 unfold upIx at h ⊢
 have key : ∀ f,0 ≤ refUp x k f → refUp x k f < k:=fun f h=>by
  unfold refUp at h ⊢
  split
  ·assumption
  ·rename_i hn;rw [if_neg hn] at h;omega
 split
 ·rename_i e;rw [e] at h;simp at h
 ·rename_i f e
  rw [e] at h
  simp only at h
  split
  ·rename_i h1
   rw [if_pos h1] at h
   cases hu : upField x k i f with
   | none=>rw [hu] at h;simp [orNone] at h
   | some g=>rw [hu] at h;exact key g h
  ·rename_i h1
   rw [if_neg h1] at h
   split
   ·rename_i h2;rw [if_pos h2] at h;exact key f h
   ·rename_i h2;rw [if_neg h2] at h;omega
theorem one_nil {k f r e : Int} (h : one k f r e = []) : e = 0:=by
 unfold one at h;split at h
 ·assumption
 ·cases h
theorem upTo_nil {α : Type} {q : Nat} {g : Nat → List α} (h : upTo q g = []) (i : Nat) (hi : i < q) : g i = []:=by
 unfold upTo at h
 rw [List.flatMap_eq_nil_iff] at h
 exact h i (List.mem_range.2 hi)
theorem snd_leads {x : Sch} (h : probs x = []) {k : Nat} {kd : Knd} {i : Nat} {f : Fld} (hk : x.kinds[k]? = some kd) (hf : kd.fields[i]? = some f) : ¬ fieldIx kd f.name < i ∧ leadsE x k i f = 0:=by
 unfold probs at h
 split at h
 ·simp only [List.append_eq_nil_iff] at h
  have h1:=upTo_nil h.1.2 k (List.getElem?_eq_some_iff.1 hk).1
  simp only [kindP,hk,List.append_eq_nil_iff] at h1
  have h2:=upTo_nil h1.2 i (List.getElem?_eq_some_iff.1 hf).1
  simp only [fieldP,hf] at h2
  have h3:=one_nil h2
  unfold fieldE at h3
  split at h3
  ·omega
  ·exact ⟨by assumption,h3⟩
 ·cases h
theorem snd_valid {x : Sch} (h : probs x = []) : validE x = 0:=by
 unfold probs at h
 split at h
 ·assumption
 ·cases h
theorem snd_of {x : Sch} (h : probs x = []) : Snd x:=by
 refine ⟨h,vld_of0 (snd_valid h),fun r hr=>?_⟩
 obtain ⟨kd,f,h1,h2,h3,h4,_⟩:=mem_refs hr
 have h5:=(snd_leads h h1 h2).2
 have h6 : 0 ≤ upIx x r.kind r.field:=by
  unfold leadsE at h5
  rw [if_neg (by omega),if_neg (by omega),if_pos h3] at h5
  split at h5
  ·cases h5
  ·omega
 rw [h4]
 exact ⟨h6,upIx_ltk x _ _ h6,(List.getElem?_eq_some_iff.1 h1).1⟩
theorem ix_w1 {f : FuncId} {c1 c2 : List D} (l : List (List Int)) (p : List Int → Bool) (hl : l.length ≤ 1000000) (hp : ∀ y ∈ l,APure Tryz.prog f [slI y,.ro c1,.ro c2] (bD (p y))) : APure Tryz.prog 118 [slW1 l,.clo f [.ro c1,.ro c2]] (iD (idx p l)):=by
 refine APure.of_call (enterX mixed tget_ok Tryz.func118 (by kernel_rfl) rfl Tryz.ntmps118 rfl ?_);intro BB
 repeat' (first | refine sk41 ?_ | (intro b;conv=>whnf))
 refine lp_loop mixed tget_ok (γ:=Nat) (fun k=>[(8,iD k)]) (fun _=>[]) (fun k=>k ≤ l.length ∧ ∀ i y,i < k → l[i]? = some y → p y = false) (fun k=>l.length - k) 0 rfl rfl ⟨by omega,by omega⟩ ?_
 rintro k ⟨hk,hno⟩
 by_cases hlt : k < l.length
 ·obtain ⟨y,hy⟩ : ∃ y,l[(k : Int).toNat]? = some y:=⟨_,List.getElem?_eq_getElem hlt⟩
  repeat' (first | refine sk41 ?_ | (intro b;conv=>whnf) | (with_reducible refine Br.d (fun hc=>?_) (fun hc=>?_)) | (with_reducible refine Br.b (fun hc=>?_) (fun hc=>?_)))
  ·refine Rt.pure (congrArg iD ?_)
   exact (idx_found hy ‹_› hno).symm
  ·exact ⟨k + 1,rfl,rfl,⟨by omega,fun i z hi hz=>by
    by_cases e : i = k
    ·subst e;rw [show ((i : Int)).toNat = i from rfl,hz] at hy;cases hy;assumption
    ·exact hno i z (by omega) hz⟩,by omega⟩
 ·repeat' (first | refine sk41 ?_ | (intro b;conv=>whnf))
  refine Rt.pure (congrArg iD ?_)
  exact (idx_none fun i y hy=>hno i y (by have:=(List.getElem?_eq_some_iff.1 hy).1;omega) hy).symm
theorem sk52 {A B : Prop} (k : B) (h : Hd7 B → A:=by intro hk7q;(first | refine sb0 ?_ | refine sb1 ?_ | ((with_reducible refine' Cp.by ?hc ?_);(case hc=>exact ix_w1 l p hl hp)) | ((with_reducible refine' CE.pure ?hc ?_);(case hc=>exact ix_w1 l p hl hp)));exact hk7q.run) : A:=h ⟨k⟩
theorem any_w1 {f : FuncId} {c1 c2 : List D} (l : List (List Int)) (p : List Int → Bool) (hl : l.length ≤ 1000000) (hp : ∀ y ∈ l,APure Tryz.prog f [slI y,.ro c1,.ro c2] (bD (p y))) : APure Tryz.prog 88 [slW1 l,.clo f [.ro c1,.ro c2]] (bD (l.any p)):=by
 refine APure.of_call (enterX mixed tget_ok Tryz.func88 (by kernel_rfl) rfl Tryz.ntmps88 rfl ?_);intro BB
 repeat' (first | refine sk52 ?_ | (intro b;conv=>whnf))
 refine Rt.pure (congrArg bD ?_)
 exact idx_any p l
theorem cl_fits1 (x : Sch) (k : Nat) (r : List Int) (hk : k < x.kinds.length) : APure Tryz.prog 89 [slI r,.ro (schC x),.ro [iD k]] (bD (!lenOk x k r)):=by
 obtain ⟨y,hy⟩ : ∃ y,x.kinds[k]? = some y:=⟨_,List.getElem?_eq_getElem hk⟩
 have hy' : x.kinds[((k : Nat) : Int).toNat]? = some y:=hy
 refine APure.of_call (enterX mixed tget_ok Tryz.func89 (by kernel_rfl) rfl Tryz.ntmps89 rfl ?_);intro BB
 repeat' (first | refine sk2 ?_ | (intro b;conv=>whnf))
 refine Rt.pure (congrArg bD ?_)
 simp [lenOk,hy]
 omega
theorem cl_fits2 (w : Wd) (r : Rf) (l : List Int) (hf : r.field < l.length) (h0 : 0 ≤ r.up) (hu : r.up < w.length) : APure Tryz.prog 90 [slI l,.ro (rfC r),.ro [slW w]] (bD (!refOk w r l)):=by
 obtain ⟨v,hv⟩ : ∃ v,l[r.field]? = some v:=⟨_,List.getElem?_eq_getElem hf⟩
 have hv' : l[((r.field : Nat) : Int).toNat]? = some v:=hv
 obtain ⟨z,hz⟩ : ∃ z,w[r.up.toNat]? = some z:=⟨_,List.getElem?_eq_getElem (by omega)⟩
 refine APure.of_call (enterX mixed tget_ok Tryz.func90 (by kernel_rfl) rfl Tryz.ntmps90 rfl ?_);intro BB
 repeat' (first | refine sk2 ?_ | (intro b;conv=>whnf) | (with_reducible refine Br.d (fun hc=>?_) (fun hc=>?_)) | (with_reducible refine Br.b (fun hc=>?_) (fun hc=>?_)))
 all_goals (refine Rt.pure (congrArg bD ?_);simp only [refOk,getD_get hv,getD_get hz];simp [*])
end
section
open Go
structure Ws (w : Wd) : Prop where
 nk : w.length ≤ 1000
 nr : ∀ l ∈ w,l.length ≤ 1000
 nf : ∀ l ∈ w,∀ r ∈ l,r.length ≤ 1000
theorem sum_take_le : ∀ {w : Wd} (_ : ∀ l ∈ w,l.length ≤ 1000) (j : Nat),((w.take j).map List.length).sum ≤ j * 1000
 | [],_,j=>by simp
 | l :: w,_,0=>by simp
 | l :: w,h,j + 1=>by
  have h1:=h l (by simp)
  have h2:=sum_take_le (w:=w) (fun l hl=>h l (by simp [hl])) j
  simp only [List.take_succ_cons,List.map_cons,List.sum_cons]
  omega
theorem sum_take_succ {w : Wd} {j : Nat} {l : List (List Int)} (h : w[j]? = some l) : ((w.take (j + 1)).map List.length).sum = ((w.take j).map List.length).sum + l.length:=by
 rw [List.take_add_one,h];simp
theorem fits_lens_no {x : Sch} {w : Wd} {k : Nat} {l : List (List Int)} (hk : w[k]? = some l) (h : l.any (fun r=>!lenOk x k r) = true) : fitsB x w = false:=by
 have : lensB x w = false:=by
  unfold lensB
  rw [List.all_eq_false]
  refine ⟨k,List.mem_range.2 (List.getElem?_eq_some_iff.1 hk).1,?_⟩
  rw [getD_get hk]
  rw [List.any_eq_true] at h
  obtain ⟨r,hr,hn⟩:=h
  simp only [Bool.not_eq_true,List.all_eq_false]
  exact ⟨r,hr,by simpa using hn⟩
 unfold fitsB;rw [this];simp
theorem fits_len_no {x : Sch} {w : Wd} (h : w.length ≠ x.kinds.length) : fitsB x w = false:=by unfold fitsB;simp [h]
theorem fits_ref_no {x : Sch} {w : Wd} {r : Rf} (hr : r ∈ refsOf x) (h : (w.getD r.kind []).any (fun l=>!refOk w r l) = true) : fitsB x w = false:=by
 have : (refsOf x).all (fun r=>(w.getD r.kind []).all (refOk w r)) = false:=by
  rw [List.all_eq_false]
  refine ⟨r,hr,?_⟩
  rw [List.any_eq_true] at h
  obtain ⟨l,hl,hn⟩:=h
  simp only [Bool.not_eq_true,List.all_eq_false]
  exact ⟨l,hl,by simpa using hn⟩
 unfold fitsB;rw [this];simp
theorem fits_yes {x : Sch} {w : Wd} (h1 : w.length = x.kinds.length) (h2 : ∀ (k : Nat) l,w[k]? = some l → l.any (fun r=>!lenOk x k r) = false) (h3 : ∀ (q : Nat) r,(refsOf x)[q]? = some r → (w.getD r.kind []).any (fun l=>!refOk w r l) = false) : fitsB x w = decide ((totalW w : Int) ≤ 512):=by
 have e1 : lensB x w = true:=by
  unfold lensB
  rw [List.all_eq_true]
  intro k hk
  obtain ⟨l,hl⟩ : ∃ l,w[k]? = some l:=⟨_,List.getElem?_eq_getElem (List.mem_range.1 hk)⟩
  rw [getD_get hl,List.all_eq_true]
  intro r hr
  have:=h2 k l hl
  rw [List.any_eq_false] at this
  simpa using this r hr
 have e2 : (refsOf x).all (fun r=>(w.getD r.kind []).all (refOk w r)) = true:=by
  rw [List.all_eq_true]
  intro r hr
  obtain ⟨q,hq⟩:=List.getElem?_of_mem hr
  rw [List.all_eq_true]
  intro l hl
  have:=h3 q r hq
  rw [List.any_eq_false] at this
  simpa using this l hl
 unfold fitsB
 rw [e1,e2]
 simp [h1]
 omega
theorem fits_field {x : Sch} {w : Wd} {r : Rf} (hr : r ∈ refsOf x) (h2 : ∀ (k : Nat) l,w[k]? = some l → l.any (fun r=>!lenOk x k r) = false) {l : List (List Int)} (hl : w[r.kind]? = some l) {y : List Int} (hy : y ∈ l) : r.field < y.length:=by
 obtain ⟨kd,f,h1,h3,_⟩:=mem_refs hr
 have:=h2 _ _ hl
 rw [List.any_eq_false] at this
 have h5 : lenOk x r.kind y = true:=by simpa using this y hy
 simp only [lenOk,h1,decide_eq_true_eq] at h5
 rw [h5]
 exact (List.getElem?_eq_some_iff.1 h3).1
theorem refs_len {x : Sch} (hV : Vld x) : (refsOf x).length ≤ 6000:=by
 have h1:=upTo_len (fun k=>refK_len x k (fun k hk=>by have:=hV.nf k hk;omega)) x.kinds.length
 have:=hV.nk
 unfold refsOf;omega
theorem sk53 {A B : Prop} (k : B) (h : Hd7 B → A:=by intro hk7q;(first | refine sb0 ?_ | refine sb1 ?_ | ((with_reducible refine' Cp.by ?hc ?_);(case hc=>first | exact cl_refs _ (by assumption) | exact HR)) | ((with_reducible refine' CE.pure ?hc ?_);(case hc=>first | exact cl_refs _ (by assumption) | exact HR)));exact hk7q.run) : A:=h ⟨k⟩
theorem cl_fits (x : Sch) (hS : Snd x) (w : Wd) (hw : Ws w) : APure Tryz.prog 65 [schD x,slW w] (bD (fitsB x w)):=by
 have hV:=hS.vld
 have hnk:=hV.nk
 have hwl:=hw.nk
 have hrl:=refs_len hV
 refine APure.of_call (enterX mixed tget_ok Tryz.func65 (by kernel_rfl) rfl Tryz.ntmps65 rfl ?_);intro BB
 repeat' (first | refine sk53 ?_ | (intro b;conv=>whnf) | (with_reducible refine Br.d (fun hc=>?_) (fun hc=>?_)) | (with_reducible refine Br.b (fun hc=>?_) (fun hc=>?_)))
 rotate_left
 ·refine Rt.pure (congrArg bD ?_);exact (fits_len_no (by omega)).symm
 ·have hlen : w.length = x.kinds.length:=by omega
  refine lp_loopd mixed tget_ok (γ:=Nat) (fun j=>[(5,iD ((w.take j).map List.length).sum),(18,iD j)]) (fun _=>[]) (fun j=>j ≤ w.length ∧ ∀ (k : Nat) l,k < j → w[k]? = some l → l.any (fun r=>!lenOk x k r) = false) (fun j=>w.length - j) 0 (chk_of cl2) cl3 ⟨Nat.zero_le _,fun k l h=>by omega⟩ ?_
  rintro j ⟨hj,hno⟩
  by_cases hjl : j < w.length
  ·obtain ⟨l,hl⟩ : ∃ l,w[j]? = some l:=⟨_,List.getElem?_eq_getElem hjl⟩
   have hl' : w[((j : Nat) : Int).toNat]? = some l:=hl
   have hs1:=sum_take_le hw.nr j
   have hs2:=sum_take_succ hl
   have hll:=hw.nr l (List.mem_of_getElem? hl)
   have HR : APure Tryz.prog 88 [slW1 l,.clo 89 [.ro (schC x),.ro [iD j]]] (bD (l.any fun r=>!lenOk x j r)):=any_w1 l _ (by omega) (fun y hy=>cl_fits1 x j y (by omega))
   repeat' (first | refine sk53 ?_ | (intro b;conv=>whnf))
   refine CE.pk (APk.peek (.cons (Pk.same _) (.cons (Pk.clo (.cons (Pk.same _) (.cons (Pk.ptr (j:=0) rfl (PkL.refl _)) .nil))) .nil)) HR rfl) ?_
   clear HR
   repeat' (first | refine sk53 ?_ | (intro b;conv=>whnf) | (with_reducible refine Br.d (fun hc=>?_) (fun hc=>?_)) | (with_reducible refine Br.b (fun hc=>?_) (fun hc=>?_)))
   ·refine Rt.pure (congrArg bD ?_);exact (fits_lens_no hl ‹_›).symm
   ·refine ⟨j + 1,(chk_of cl7),cl3,⟨by omega,fun k l' hk hl2=>?_⟩,by omega⟩
    by_cases e : k = j
    ·subst e;cases hl.symm.trans hl2;assumption
    ·exact hno k l' (by omega) hl2
  ·obtain rfl : j = w.length:=by omega
   have hall : ∀ (k : Nat) l,w[k]? = some l → l.any (fun r=>!lenOk x k r) = false:=fun k l hk=>hno k l (List.getElem?_eq_some_iff.1 hk).1 hk
   have hs1:=sum_take_le hw.nr w.length
   repeat' (first | refine sk53 ?_ | (intro b;conv=>whnf))
   refine lp_loopd mixed tget_ok (γ:=Nat) (fun q=>[(34,iD q)]) (fun _=>[]) (fun q=>q ≤ (refsOf x).length ∧ ∀ (k : Nat) r,k < q → (refsOf x)[k]? = some r → (w.getD r.kind []).any (fun l=>!refOk w r l) = false) (fun q=>(refsOf x).length - q) 0 (chk_of cl2) cl3 ⟨Nat.zero_le _,fun k r h=>by omega⟩ ?_
   rintro q ⟨hq,hno2⟩
   by_cases hql : q < (refsOf x).length
   ·obtain ⟨r,hr⟩ : ∃ r,(refsOf x)[q]? = some r:=⟨_,List.getElem?_eq_getElem hql⟩
    have hr' : (refsOf x)[((q : Nat) : Int).toNat]? = some r:=hr
    have hrm:=List.mem_of_getElem? hr
    obtain ⟨u1,u2,u3⟩:=hS.up r hrm
    obtain ⟨l,hl⟩ : ∃ l,w[r.kind]? = some l:=⟨_,List.getElem?_eq_getElem (by omega)⟩
    have hl' : w[((r.kind : Nat) : Int).toNat]? = some l:=hl
    have hll:=hw.nr l (List.mem_of_getElem? hl)
    have HR : APure Tryz.prog 88 [slW1 l,.clo 90 [.ro (rfC r),.ro [slW w]]] (bD (l.any fun y=>!refOk w r y)):=any_w1 l _ (by omega) (fun y hy=>cl_fits2 w r y (fits_field hrm hall hl hy) u1 (by omega))
    repeat' (first | refine sk53 ?_ | (intro b;conv=>whnf))
    refine CE.pk (APk.peek (.cons (Pk.same _) (.cons (Pk.clo (.cons (Pk.ptr (j:=0) rfl (PkL.refl _)) (.cons (Pk.same _) .nil))) .nil)) HR rfl) ?_
    clear HR
    repeat' (first | refine sk53 ?_ | (intro b;conv=>whnf) | (with_reducible refine Br.d (fun hc=>?_) (fun hc=>?_)) | (with_reducible refine Br.b (fun hc=>?_) (fun hc=>?_)))
    ·refine Rt.pure (congrArg bD ?_);exact (fits_ref_no hrm (by rw [getD_get hl];assumption)).symm
    ·refine ⟨q + 1,(chk_of cl2),cl3,⟨by omega,fun k r' hk hr2=>?_⟩,by omega⟩
     by_cases e : k = q
     ·subst e;cases hr.symm.trans hr2;rw [getD_get hl];assumption
     ·exact hno2 k r' (by omega) hr2
   ·obtain rfl : q = (refsOf x).length:=by omega
    repeat' (first | refine sk53 ?_ | (intro b;conv=>whnf))
    refine Rt.pure (congrArg bD ?_)
    rw [fits_yes hlen hall (fun q r h=>hno2 q r (List.getElem?_eq_some_iff.1 h).1 h)]
    unfold totalW
    rw [List.take_of_length_le (Nat.le_refl _)]
end
section
open Go
theorem any_at {α : Type} {p : α → Bool} {l : List α} {i : Nat} {y : α} (h : l[i]? = some y) (hp : p y = true) : l.any p = true:=List.any_eq_true.2 ⟨y,List.mem_of_getElem? h,hp⟩
theorem sk54 {A B : Prop} (k : B) (h : Hd7 B → A:=by intro hk7q;(first | refine sb0 ?_ | refine sb1 ?_ | ((with_reducible refine' Cp.by ?hc ?_);(case hc=>exact r31_refs _ (by assumption))) | ((with_reducible refine' CE.pure ?hc ?_);(case hc=>exact r31_refs _ (by assumption))));exact hk7q.run) : A:=h ⟨k⟩
end
section
open Go
theorem sk55 {A B : Prop} (k : B) (h : Hd7 B → A:=by intro hk7q;(first | refine sb0 ?_ | refine sb1 ?_ | ((with_reducible refine' Cp.by ?hc ?_);(case hc=>first | exact ty_kind _ _ (by assumption) | exact ty_up _ _ _ (by assumption) (by assumption))) | ((with_reducible refine' CE.pure ?hc ?_);(case hc=>first | exact ty_kind _ _ (by assumption) | exact ty_up _ _ _ (by assumption) (by assumption))));exact hk7q.run) : A:=h ⟨k⟩
theorem ty_shares0 (x : Sch) (i : Int) (f : Fld) (hi : 0 ≤ i) (hl : x.kinds.length ≤ 1000000) (hf : ∀ k ∈ x.kinds,k.fields.length ≤ 1000000) : APure Tryz.prog 103 [schD x,iD i,fldD f] (.tup [iD (sumsR x i f).1,slI (sumsR x i f).2]):=by
 refine APure.of_call (enterX mixed tget_ok Tryz.func103 (by kernel_rfl) rfl Tryz.ntmps103 rfl ?_);intro BB
 have hkl:=kindIx_lt x f.of
 have hno : f.kind ≠ 6 ∨ kindIx x f.of ≤ i → sumsR x i f = (-1,[]):=fun h=>by unfold sumsR;rw [sharesNo_yes h];rfl
 repeat' (first | refine sk55 ?_ | (intro b;conv=>whnf) | refine IxM.mk fun y hy=>?_ | (with_reducible refine Br.d (fun hc=>?_) (fun hc=>?_)) | (with_reducible refine Br.b (fun hc=>?_) (fun hc=>?_)))
 ·rw [hno (by omega)]
  exact Rt.vs (Vs.tup (VsL.cons (Vs.refl _ _) (VsL.cons (vs_nil _ _) (VsL.nil _))))
 ·obtain ⟨ko,rfl⟩ : ∃ ko,ko = y:=⟨_,rfl⟩
  have hko:=hy
  clear hy
  have h6 : f.kind = 6:=by omega
  have hno':=sharesNo_not (x:=x) (i:=i) h6 (by omega)
  obtain ⟨o,ho⟩:=Int.eq_ofNat_of_zero_le (show 0 ≤ kindIx x f.of by omega)
  rw [ho] at hko
  have hko : x.kinds[o]? = some ko:=hko
  have hS : sumsR x i f = ((o : Int),sharesTo x o i f ko.fields ko.fields.length):=by
   unfold sumsR;rw [hno',sharesOf_to x i f o ko ho hko,ho];rfl
  have hfk:=hf ko (List.mem_of_getElem? hko)
  rw [ho]
  refine lp_loopd mixed tget_ok (γ:=Nat × Value × Store) (fun g=>[(9,.v g.2.1),(31,iD g.1)]) (fun g=>g.2.2) (fun g=>g.1 ≤ ko.fields.length ∧ RowIs 3 1 (slN (sharesTo x o i f ko.fields g.1)) g.2.1 g.2.2) (fun g=>ko.fields.length - g.1) (0,.slice none 0 0,[]) rfl cl3 ⟨Nat.zero_le _,RowIs.nil _ _⟩ ?_
  rintro ⟨q,v,s⟩ ⟨hq,hrow⟩
  simp only at hq hrow ⊢
  repeat' (first | refine sk55 ?_ | (intro b;conv=>whnf) | refine IxM.mk fun y hy=>?_ | (with_reducible refine Br.d (fun hc=>?_) (fun hc=>?_)) | (with_reducible refine Br.b (fun hc=>?_) (fun hc=>?_)))
  ·have hsh : isShare x o i f y q = true:=by simp [isShare,seq, *]
   have Hs:=sharesTo_succ x o i f ko.fields q y hy
   rw [hsh,if_pos rfl] at Hs
   have hlen:=sharesTo_len x o i f ko.fields (q + 1)
   refine Ap.go rfl rfl rfl rfl hrow (perm1 _ _) rfl (zs:=slN (sharesTo x o i f ko.fields (q + 1))) (by rw [Hs];simp only [slN,List.map_append];rfl) (by simp [slN];omega) (by simp [slN];omega) (fun s'=>_ :: s') (perm1' _) (fun a c s' hr=>?_)
   repeat' (first | refine sk55 ?_ | (intro b;conv=>whnf) | refine IxM.mk fun y hy=>?_)
   exact ⟨(q + 1,_,s'),rfl,List.Sublist.cons _ (List.Sublist.refl _),⟨by simp only;omega,hr⟩,by simp only;omega⟩
  iterate 3
   have hsh : isShare x o i f y q = false:=by simp [isShare,seq, *]
   have Hs:=sharesTo_succ x o i f ko.fields q y hy
   rw [hsh,if_neg (by simp),List.append_nil] at Hs
   exact ⟨(q + 1,v,s),rfl,List.Sublist.cons _ (List.Sublist.refl _),⟨by simp only;omega,by simp only;rw [Hs];exact hrow⟩,by simp only;omega⟩
  ·obtain rfl : q = ko.fields.length:=by omega
   rw [hS]
   exact Rt.vs (Vs.tup (VsL.cons (Vs.refl _ _) (VsL.cons (Vs.row hrow (perm0 _)) (VsL.nil _))))
 ·rw [hno (by omega)]
  exact Rt.vs (Vs.tup (VsL.cons (Vs.refl _ _) (VsL.cons (vs_nil _ _) (VsL.nil _))))
theorem HS1 {x : Sch} {i j : Int} {f : Fld} {o : Int} {l : List Int} (hfa : fieldAt x i j = some f) (hs : sumsR x i f = (o,l)) : sharesR x i j = pick1 o l:=by
 simp only [sharesR,hfa,hs]
theorem sk56 {A B : Prop} (k : B) (h : Hd7 B → A:=by intro hk7q;(first | refine sb0 ?_ | refine sb1 ?_ | ((with_reducible refine' Cp.by ?hc ?_);(case hc=>first | exact HA | exact HS)) | ((with_reducible refine' CE.pure ?hc ?_);(case hc=>first | exact HA | exact HS)));exact hk7q.run) : A:=h ⟨k⟩
end
section
open Go
theorem ty_first (fs : List (Bool × Int)) (hl : fs.length ≤ 1000) : APure Tryz.prog 85 [.sl 2 (fs.map fun p=>[bD p.1,iD p.2])] (iD (firstC fs)):=by
 refine APure.of_call (enterX mixed tget_ok Tryz.func85 (by kernel_rfl) rfl Tryz.ntmps85 rfl ?_);intro BB
 repeat' (first | refine sk2 ?_ | (intro b;conv=>whnf) | refine IxM.mk fun y hy=>?_)
 refine lp_loopd mixed tget_ok (γ:=Nat) (fun q=>[(7,iD q)]) (fun _=>[]) (fun q=>q ≤ fs.length ∧ ∀ (m : Nat) y,m < q → fs[m]? = some y → y.1 = false) (fun q=>fs.length - q) 0 rfl cl3 ⟨by omega,fun m y hm=>by omega⟩ ?_
 rintro q ⟨hq,hno⟩
 repeat' (first | refine sk2 ?_ | (intro b;conv=>whnf) | refine IxM.mk fun y hy=>?_ | (with_reducible refine Br.d (fun hc=>?_) (fun hc=>?_)) | (with_reducible refine Br.b (fun hc=>?_) (fun hc=>?_)))
 ·refine Rt.pure (congrArg iD ?_);exact (firstC_at hno hy (by assumption)).symm
 ·exact ⟨q + 1,rfl,cl3,⟨by omega,fun m z hm hz=>by
   by_cases e : m = q
   ·subst e;rw [show ((m : Int)).toNat = m from rfl,hz] at hy;cases hy;assumption
   ·exact hno m z (by omega) hz⟩,by omega⟩
 ·refine Rt.pure (congrArg iD ?_);exact (firstC_none (fun m y hy=>hno m y (by have:=(List.getElem?_eq_some_iff.1 hy).1;omega) hy)).symm
theorem ty_first1 (b : Bool) (c : Int) : APure Tryz.prog 85 [.sl 2 [[bD b,iD c]]] (iD (firstC [(b,c)])):=ty_first [(b,c)] (by simp)
theorem ty_first2 (b : Bool) (c : Int) (b' : Bool) (c' : Int) : APure Tryz.prog 85 [.sl 2 [[bD b,iD c],[bD b',iD c']]] (iD (firstC [(b,c),(b',c')])):=ty_first [(b,c),(b',c')] (by simp)
theorem ty_first4 (b1 b2 b3 b4 : Bool) (c1 c2 c3 c4 : Int) : APure Tryz.prog 85 [.sl 2 [[bD b1,iD c1],[bD b2,iD c2],[bD b3,iD c3],[bD b4,iD c4]]] (iD (firstC [(b1,c1),(b2,c2),(b3,c3),(b4,c4)])):=ty_first [(b1,c1),(b2,c2),(b3,c3),(b4,c4)] (by simp)
def spotC (x : Sch) (i j : Int) (f : Fld) : List D:=[iD x.version,slK x.kinds,slL x.lives,slR x.rules,iD i,iD j,sD f.name,sD f.of,sD f.up,iD f.kind,iD f.lo,iD f.hi,slS f.words,slI f.weights]
abbrev spotD (x : Sch) (i j : Int) (f : Fld) : D:=.agg (spotC x i j f)
theorem sk57 {A B : Prop} (k : B) (h : Hd7 B → A:=by intro hk7q;(first | refine sb0 ?_ | refine sb1 ?_ | ((with_reducible refine' Cp.by ?hc ?_);(case hc=>exact ty_up x _ _ hl hf)) | ((with_reducible refine' CE.pure ?hc ?_);(case hc=>exact ty_up x _ _ hl hf)));exact hk7q.run) : A:=h ⟨k⟩
theorem ty_lost (x : Sch) (i j : Int) (f : Fld) (hl : x.kinds.length ≤ 1000000) (hf : ∀ k ∈ x.kinds,k.fields.length ≤ 1000000) : APure Tryz.prog 209 [spotD x i j f] (bD (decide (upIx x i j < 0))):=by
 refine APure.of_call (enterX mixed tget_ok Tryz.func209 (by kernel_rfl) rfl Tryz.ntmps209 rfl ?_);intro BB
 repeat' (first | refine sk57 ?_ | (intro b;conv=>whnf))
 refine Rt.pure (congrArg bD ?_);rfl
theorem sk58 {A B : Prop} (k : B) (h : Hd7 B → A:=by intro hk7q;(first | refine sb0 ?_ | refine sb1 ?_ | ((with_reducible refine' Cp.by ?hc ?_);(case hc=>first | exact ty_up x _ _ hl hf | exact HA | exact ty_field _ _ (by assumption))) | ((with_reducible refine' CE.pure ?hc ?_);(case hc=>first | exact ty_up x _ _ hl hf | exact HA | exact ty_field _ _ (by assumption))));exact hk7q.run) : A:=h ⟨k⟩
theorem ty_top (x : Sch) (i j : Int) (f : Fld) (hl : x.kinds.length ≤ 1000000) (hf : ∀ k ∈ x.kinds,k.fields.length ≤ 1000000) : APure Tryz.prog 219 [spotD x i j f] (.tup [fldD (topR x i j f).1,bD (topR x i j f).2]):=by
 have hul:=upIx_lt x i j
 refine APure.of_call (enterX mixed tget_ok Tryz.func219 (by kernel_rfl) rfl Tryz.ntmps219 rfl ?_);intro BB
 by_cases hu : upIx x i j < 0
 ·have ht : topR x i j f = (zeroF,false):=by unfold topR;rw [topF_no hu]
  repeat' (first | refine sk58 ?_ | (intro b;conv=>whnf) | (with_reducible refine Br.d (fun hc=>?_) (fun hc=>?_)) | (with_reducible refine Br.b (fun hc=>?_) (fun hc=>?_)))
  rw [ht]
  exact Rt.vs (Vs.tup (VsL.cons (Vs.le le_zeroF) (VsL.cons (Vs.refl _ _) (VsL.nil _))))
 ·obtain ⟨ko,hko⟩ : ∃ ko,x.kinds[(upIx x i j).toNat]? = some ko:=⟨_,List.getElem?_eq_getElem (by omega)⟩
  have hfk:=hf ko (List.mem_of_getElem? hko)
  have htf:=topF_at (f:=f) hu hko
  have HA:=ty_at x (upIx x i j) (fieldIx ko f.of)
  have ht : topR x i j f = atR x (upIx x i j) (fieldIx ko f.of):=by unfold topR atR;rw [htf]
  repeat' (first | refine sk58 ?_ | (intro b;conv=>whnf) | (with_reducible refine Br.d (fun hc=>?_) (fun hc=>?_)) | (with_reducible refine Br.b (fun hc=>?_) (fun hc=>?_)))
  rw [ht]
  exact Rt.vs (Vs.refl _ _)
end
section
open Go
theorem first1_eq (b : Bool) (c : Int) : firstC [(b,c)] = if b = true then c else 0:=by cases b <;> rfl
theorem first2_eq (b b' : Bool) (c c' : Int) : firstC [(b,c),(b',c')] = if b = true then c else if b' = true then c' else 0:=by cases b <;> cases b' <;> rfl
theorem leads0 {x : Sch} {i j : Int} {f : Fld} (hk : f.kind = 0) : leadsE x i j f = if 0 < j then 13 else 0:=by
 unfold leadsE;by_cases h : 0 < j <;> simp [hk,h]
theorem leads1 {x : Sch} {i j : Int} {f : Fld} (hk : f.kind = 1) : leadsE x i j f = if upIx x i j < 0 then 12 else 0:=by simp [leadsE,hk]
theorem leads4 {x : Sch} {i j : Int} {f : Fld} (hk : f.kind = 4) : leadsE x i j f = dayE x i j f:=by simp [leadsE,hk]
theorem leads5 {x : Sch} {i j : Int} {f : Fld} (hk : f.kind = 5) : leadsE x i j f = if x.lives.any (fun l=>seq l.name f.of) then 0 else 12:=by simp only [leadsE,hk];simp
theorem leads6 {x : Sch} {i j : Int} {f : Fld} (hk : f.kind = 6) : leadsE x i j f = if (sumsR x i f).1 < 0 then 12 else if (sumsR x i f).2.length = 1 then 0 else 11:=by simp [leadsE,hk]
theorem leads7 {x : Sch} {i j : Int} {f : Fld} (hk : f.kind = 7) : leadsE x i j f = if upIx x i j < 0 then 12 else if (abvR x i j f).1 = 6 ∧ kindIx x (abvR x i j f).2.of = i then 0 else 13:=by simp [leadsE,aboveE,hk]
theorem leads8 {x : Sch} {i j : Int} {f : Fld} (hk : f.kind = 8) : leadsE x i j f = if upIx x i j < 0 then 12 else if (abvR x i j f).1 < 0 ∨ (abvR x i j f).1 = 0 ∨ (abvR x i j f).1 = 1 ∨ (abvR x i j f).1 = 6 ∨ (abvR x i j f).1 = 7 then 13 else 0:=by simp [leadsE,aboveE,hk]
theorem sk59 {A B : Prop} (k : B) (h : Hd7 B → A:=by intro hk7q;(first | refine sb0 ?_ | refine sb1 ?_ | ((with_reducible refine' Cp.by ?hc ?_);(case hc=>first | exact ty_first1 _ _ | exact ty_first2 _ _ _ _)) | ((with_reducible refine' CE.pure ?hc ?_);(case hc=>first | exact ty_first1 _ _ | exact ty_first2 _ _ _ _)));exact hk7q.run) : A:=h ⟨k⟩
theorem ty_check1 (x : Sch) (i j : Int) (f : Fld) (hk : f.kind = 0) : APure Tryz.prog 212 [spotD x i j f] (iD (leadsE x i j f)):=by
 refine APure.of_call (enterX mixed tget_ok Tryz.func212 (by kernel_rfl) rfl Tryz.ntmps212 rfl ?_);intro BB
 repeat' (first | refine sk59 ?_ | (intro b;conv=>whnf))
 refine Rt.pure (congrArg iD ?_)
 rw [first1_eq,leads0 hk]
 simp
theorem sk60 {A B : Prop} (k : B) (h : Hd7 B → A:=by intro hk7q;(first | refine sb0 ?_ | refine sb1 ?_ | ((with_reducible refine' Cp.by ?hc ?_);(case hc=>first | exact ty_first1 _ _ | exact ty_first2 _ _ _ _ | exact ty_lost x i j f hl hf)) | ((with_reducible refine' CE.pure ?hc ?_);(case hc=>first | exact ty_first1 _ _ | exact ty_first2 _ _ _ _ | exact ty_lost x i j f hl hf)));exact hk7q.run) : A:=h ⟨k⟩
theorem ty_check2 (x : Sch) (i j : Int) (f : Fld) (hl : x.kinds.length ≤ 1000000) (hf : ∀ k ∈ x.kinds,k.fields.length ≤ 1000000) (hk : f.kind = 1) : APure Tryz.prog 213 [spotD x i j f] (iD (leadsE x i j f)):=by
 refine APure.of_call (enterX mixed tget_ok Tryz.func213 (by kernel_rfl) rfl Tryz.ntmps213 rfl ?_);intro BB
 repeat' (first | refine sk60 ?_ | (intro b;conv=>whnf))
 refine Rt.pure (congrArg iD ?_)
 rw [first1_eq,leads1 hk]
 simp
theorem sk61 {A B : Prop} (k : B) (h : Hd7 B → A:=by intro hk7q;(first | refine sb0 ?_ | refine sb1 ?_ | ((with_reducible refine' Cp.by ?hc ?_);(case hc=>first | exact ty_first1 _ _ | exact ty_first2 _ _ _ _ | exact HA | exact ty_field _ _ (by assumption))) | ((with_reducible refine' CE.pure ?hc ?_);(case hc=>first | exact ty_first1 _ _ | exact ty_first2 _ _ _ _ | exact HA | exact ty_field _ _ (by assumption))));exact hk7q.run) : A:=h ⟨k⟩
theorem ty_check3 (x : Sch) (i j : Int) (f : Fld) (hl : x.kinds.length ≤ 1000000) (hf : ∀ k ∈ x.kinds,k.fields.length ≤ 1000000) (hfa : fieldAt x i j = some f) (hk : f.kind = 4) : APure Tryz.prog 214 [spotD x i j f] (iD (leadsE x i j f)):=by
 obtain ⟨h0,h1,k,hk0,hkf⟩:=fieldAt_inv hfa
 have hfk:=hf k (List.mem_of_getElem? hk0)
 have hka : kindAt x i = some k:=by simp [kindAt,h0,hk0]
 have hfl:=fieldIx_lt k f.of
 rw [leads4 hk]
 simp only [dayE,hka]
 have HA:=ty_at x i (fieldIx k f.of)
 by_cases hn : fieldIx k f.of < 0
 ·rw [atR_none hn] at HA
  refine APure.of_call (enterX mixed tget_ok Tryz.func214 (by kernel_rfl) rfl Tryz.ntmps214 rfl ?_);intro BB
  repeat' (first | refine sk61 ?_ | (intro b;conv=>whnf) | (with_reducible refine Br.d (fun hc=>?_) (fun hc=>?_)) | (with_reducible refine Br.b (fun hc=>?_) (fun hc=>?_)))
  all_goals (refine Rt.pure (congrArg iD ?_);rw [first1_eq,← eqE];generalize (f.of.toList == ({ data:=#[] } : ByteArray).toList) = e at *;simp [*])
 ·obtain ⟨g,hg⟩ : ∃ g,k.fields[(fieldIx k f.of).toNat]? = some g:=⟨_,List.getElem?_eq_getElem (by omega)⟩
  rw [atR_some h0 hk0 (by omega) hg] at HA
  rw [hg]
  refine APure.of_call (enterX mixed tget_ok Tryz.func214 (by kernel_rfl) rfl Tryz.ntmps214 rfl ?_);intro BB
  repeat' (first | refine sk61 ?_ | (intro b;conv=>whnf) | (with_reducible refine Br.d (fun hc=>?_) (fun hc=>?_)) | (with_reducible refine Br.b (fun hc=>?_) (fun hc=>?_)))
  all_goals (refine Rt.pure (congrArg iD ?_);rw [first1_eq,← eqE];generalize (f.of.toList == ({ data:=#[] } : ByteArray).toList) = e at *;simp [*])
theorem ty_check41 (x : Sch) (i j : Int) (f : Fld) (y : Lif) : APure Tryz.prog 216 [lifD y,.ro (spotC x i j f)] (bD (seq y.name f.of)):=by
 refine APure.of_call (enterX mixed tget_ok Tryz.func216 (by kernel_rfl) rfl Tryz.ntmps216 rfl ?_);intro BB
 repeat' (first | refine sk2 ?_ | (intro b;conv=>whnf))
 refine Rt.pure (congrArg bD ?_);rfl
theorem sk62 {A B : Prop} (k : B) (h : Hd7 B → A:=by intro hk7q;(first | refine sb0 ?_ | refine sb1 ?_ | ((with_reducible refine' Cp.by ?hc ?_);(case hc=>first | exact ty_first1 _ _ | exact ty_first2 _ _ _ _ | exact any_lif x.lives (fun y=>seq y.name f.of) hll (fun y _=>ty_check41 x i j f y))) | ((with_reducible refine' CE.pure ?hc ?_);(case hc=>first | exact ty_first1 _ _ | exact ty_first2 _ _ _ _ | exact any_lif x.lives (fun y=>seq y.name f.of) hll (fun y _=>ty_check41 x i j f y))));exact hk7q.run) : A:=h ⟨k⟩
theorem ty_check4 (x : Sch) (i j : Int) (f : Fld) (hll : x.lives.length ≤ 1000000) (hk : f.kind = 5) : APure Tryz.prog 215 [spotD x i j f] (iD (leadsE x i j f)):=by
 refine APure.of_call (enterX mixed tget_ok Tryz.func215 (by kernel_rfl) rfl Tryz.ntmps215 rfl ?_);intro BB
 repeat' (first | refine sk62 ?_ | (intro b;conv=>whnf))
 refine Rt.pure (congrArg iD ?_)
 rw [first1_eq,leads5 hk]
 cases x.lives.any (fun l=>seq l.name f.of) <;> rfl
theorem sk63 {A B : Prop} (k : B) (h : Hd7 B → A:=by intro hk7q;(first | refine sb0 ?_ | refine sb1 ?_ | ((with_reducible refine' Cp.by ?hc ?_);(case hc=>first | exact ty_first1 _ _ | exact ty_first2 _ _ _ _ | exact ty_shares0 x i f h0 hl hf)) | ((with_reducible refine' CE.pure ?hc ?_);(case hc=>first | exact ty_first1 _ _ | exact ty_first2 _ _ _ _ | exact ty_shares0 x i f h0 hl hf)));exact hk7q.run) : A:=h ⟨k⟩
theorem ty_check5 (x : Sch) (i j : Int) (f : Fld) (h0 : 0 ≤ i) (hl : x.kinds.length ≤ 1000000) (hf : ∀ k ∈ x.kinds,k.fields.length ≤ 1000000) (hk : f.kind = 6) : APure Tryz.prog 217 [spotD x i j f] (iD (leadsE x i j f)):=by
 refine APure.of_call (enterX mixed tget_ok Tryz.func217 (by kernel_rfl) rfl Tryz.ntmps217 rfl ?_);intro BB
 repeat' (first | refine sk63 ?_ | (intro b;conv=>whnf))
 refine Rt.pure (congrArg iD ?_)
 rw [first2_eq,leads6 hk]
 simp only [List.length_map]
 by_cases h1 : (sumsR x i f).1 < 0 <;> by_cases h2 : (sumsR x i f).2.length = 1 <;> simp [h1,h2] <;> omega
theorem abv_top {x : Sch} {i j : Int} {f : Fld} : (abvR x i j f).1 = (if (topR x i j f).2 = true then (topR x i j f).1.kind else -1) ∧ (abvR x i j f).2 = (topR x i j f).1:=by
 unfold abvR topR;cases topF x i j f <;> simp
theorem copy_eq {k u : Int} (B : Bool) (p : Bool) (h : 0 ≤ k ∧ k ≤ 8) (hB : B = true ↔ (k = 0 ∨ k = 1 ∨ k = 6 ∨ k = 7)) {_hp : p = decide (u < 0)} :
  (if p = true then (12 : Int) else if B = true then 13 else 0) = if u < 0 then 12 else if (if true = true then k else -1) < 0 ∨ (if true = true then k else -1) = 0 ∨ (if true = true then k else -1) = 1 ∨ (if true = true then k else -1) = 6 ∨ (if true = true then k else -1) = 7 then 13 else 0:=by
 subst _hp
 simp only [if_true,decide_eq_true_eq]
 by_cases hu : u < 0
 ·rw [if_pos hu,if_pos hu]
 ·rw [if_neg hu,if_neg hu]
  by_cases hb : B = true
  ·rw [if_pos hb,if_pos (by have:=hB.1 hb;omega)]
  ·rw [if_neg hb,if_neg (by intro h';exact hb (hB.2 (by omega)))]
theorem sk64 {A B : Prop} (k : B) (h : Hd7 B → A:=by intro hk7q;(first | refine sb0 ?_ | refine sb1 ?_ | ((with_reducible refine' Cp.by ?hc ?_);(case hc=>first | exact ty_first1 _ _ | exact ty_first2 _ _ _ _ | exact ty_lost x i j f hl hf | exact HT | exact ty_kind _ _ (by assumption))) | ((with_reducible refine' CE.pure ?hc ?_);(case hc=>first | exact ty_first1 _ _ | exact ty_first2 _ _ _ _ | exact ty_lost x i j f hl hf | exact HT | exact ty_kind _ _ (by assumption))));exact hk7q.run) : A:=h ⟨k⟩
theorem ty_check6 (x : Sch) (i j : Int) (f : Fld) (hl : x.kinds.length ≤ 1000000) (hf : ∀ k ∈ x.kinds,k.fields.length ≤ 1000000) (hk : f.kind = 7) : APure Tryz.prog 218 [spotD x i j f] (iD (leadsE x i j f)):=by
 rw [leads7 hk,abv_top.1,abv_top.2]
 have HT:=ty_top x i j f hl hf
 rcases ht : topR x i j f with ⟨g,b⟩
 rw [ht] at HT
 simp only at HT ⊢
 refine APure.of_call (enterX mixed tget_ok Tryz.func218 (by kernel_rfl) rfl Tryz.ntmps218 rfl ?_);intro BB
 cases b
 ·repeat' (first | refine sk64 ?_ | (intro b;conv=>whnf) | (with_reducible refine Br.d (fun hc=>?_) (fun hc=>?_)) | (with_reducible refine Br.b (fun hc=>?_) (fun hc=>?_)))
  all_goals (refine Rt.pure (congrArg iD ?_);rw [first2_eq];simp [*])
 ·repeat' (first | refine sk64 ?_ | (intro b;conv=>whnf) | (with_reducible refine Br.d (fun hc=>?_) (fun hc=>?_)) | (with_reducible refine Br.b (fun hc=>?_) (fun hc=>?_)))
  all_goals (refine Rt.pure (congrArg iD ?_);rw [first2_eq];simp [*])
theorem ty_check7 (x : Sch) (i j : Int) (f : Fld) (hl : x.kinds.length ≤ 1000000) (hf : ∀ k ∈ x.kinds,k.fields.length ≤ 1000000) (hg : ∀ k ∈ x.kinds,∀ g ∈ k.fields,0 ≤ g.kind ∧ g.kind ≤ 8) (hk : f.kind = 8) : APure Tryz.prog 220 [spotD x i j f] (iD (leadsE x i j f)):=by
 rw [leads8 hk,abv_top.1]
 have HT:=ty_top x i j f hl hf
 have hgk : (topR x i j f).2 = true → 0 ≤ (topR x i j f).1.kind ∧ (topR x i j f).1.kind ≤ 8:=by
  unfold topR
  cases ht : topF x i j f with
  | none=>intro h;cases h
  | some g=>
   intro _
   unfold topF at ht
   split at ht
   ·cases ht
   ·split at ht
    ·obtain ⟨_,_,k',hk',hkf⟩:=fieldAt_inv ht
     exact hg k' (List.mem_of_getElem? hk') g (List.mem_of_getElem? hkf)
    ·cases ht
 rcases ht : topR x i j f with ⟨g,b⟩
 rw [ht] at HT hgk
 simp only at HT hgk ⊢
 refine APure.of_call (enterX mixed tget_ok Tryz.func220 (by kernel_rfl) rfl Tryz.ntmps220 rfl ?_);intro BB
 cases b
 ·repeat' (first | refine sk64 ?_ | (intro b;conv=>whnf) | (with_reducible refine Br.d (fun hc=>?_) (fun hc=>?_)) | (with_reducible refine Br.b (fun hc=>?_) (fun hc=>?_)))
  all_goals (refine Rt.pure (congrArg iD ?_);rw [first2_eq];simp [*])
 ·have hgk:=hgk rfl
  repeat' (first | refine sk64 ?_ | (intro b;conv=>whnf) | (with_reducible refine Br.d (fun hc=>?_) (fun hc=>?_)) | (with_reducible refine Br.b (fun hc=>?_) (fun hc=>?_)))
  all_goals (clear HT;refine Rt.pure (congrArg iD ?_);rw [first2_eq];refine copy_eq _ _ hgk ?_ (_hp:=rfl);first | (simp;omega) | (simp only [Bool.false_eq_true,false_iff];omega) | (simp only [true_iff];omega))
end
section
open Go
theorem sk65 {A B : Prop} (k : B) (h : Hd7 B → A:=by intro hk7q;(first | refine sb0 ?_ | refine sb1 ?_ | ((with_reducible refine' Cp.by ?hc ?_);(case hc=>first | exact ty_first1 _ _ | exact ty_first2 _ _ _ _ | exact ty_first4 _ _ _ _ _ _ _ _ | exact ty_kind _ _ (by assumption))) | ((with_reducible refine' CE.pure ?hc ?_);(case hc=>first | exact ty_first1 _ _ | exact ty_first2 _ _ _ _ | exact ty_first4 _ _ _ _ _ _ _ _ | exact ty_kind _ _ (by assumption))));exact hk7q.run) : A:=h ⟨k⟩
theorem ty_kindE (x : Sch) (i : Nat) (k : Knd) (hl : x.kinds.length ≤ 1000000) (hk : x.kinds[i]? = some k) : APure Tryz.prog 86 [schD x,iD i] (iD (kindE x i k)):=by
 have hk : x.kinds[((i : Nat) : Int).toNat]? = some k:=hk
 have hil:=(List.getElem?_eq_some_iff.1 hk).1
 refine APure.of_call (enterX mixed tget_ok Tryz.func86 (by kernel_rfl) rfl Tryz.ntmps86 rfl ?_);intro BB
 rcases hfs : k.fields with _ | ⟨g,r⟩
 ·have h0 : k.fields.length = 0:=by rw [hfs];rfl
  repeat' (first | refine sk65 ?_ | (intro b;conv=>whnf) | (with_reducible refine Br.d (fun hc=>?_) (fun hc=>?_)) | (with_reducible refine Br.b (fun hc=>?_) (fun hc=>?_)))
  all_goals (refine Rt.pure (congrArg iD ?_);rw [first2_eq];unfold kindE keyedB;rw [hfs];simp [*])
 ·have hg : k.fields[(0 : Int).toNat]? = some g:=by rw [hfs];rfl
  have h0 : 0 < k.fields.length:=by rw [hfs];simp
  repeat' (first | refine sk65 ?_ | (intro b;conv=>whnf) | (with_reducible refine Br.d (fun hc=>?_) (fun hc=>?_)) | (with_reducible refine Br.b (fun hc=>?_) (fun hc=>?_)))
  all_goals (refine Rt.pure (congrArg iD ?_);rw [first2_eq];unfold kindE keyedB;rw [hfs];simp [*])
theorem ty_rule1 (y r : Rul) : APure Tryz.prog 117 [rulD y,.ro (rulC r)] (bD (seq y.name r.name)):=by
 refine APure.of_call (enterX mixed tget_ok Tryz.func117 (by kernel_rfl) rfl Tryz.ntmps117 rfl ?_);intro BB
 repeat' (first | refine sk2 ?_ | (intro b;conv=>whnf))
 refine Rt.pure (congrArg bD ?_);rfl
def ruI (x : Sch) (k : Knd) (o : Int) (r : Rul) (g : Nat × Bool × Bool) : Prop:=(g.1 = 0 ∧ g.2.1 = false ∧ g.2.2 = false) ∨ (g.1 = 1 ∧ g.2.1 = nameNo x k o r.a ∧ g.2.2 = nameBad x k o r.a) ∨ (g.1 = 2 ∧ g.2.1 = (nameNo x k o r.a || nameNo x k o r.b) ∧ g.2.2 = (nameBad x k o r.a || nameBad x k o r.b))
theorem sk66 {A B : Prop} (k : B) (h : Hd7 B → A:=by intro hk7q;(first | refine sb0 ?_ | refine sb1 ?_ | ((with_reducible refine' Cp.by ?hc ?_);(case hc=>first | exact ty_first1 _ _ | exact ty_first2 _ _ _ _ | exact ty_first4 _ _ _ _ _ _ _ _ | exact HR | exact HF | exact HAT | exact ty_kind _ _ (by assumption))) | ((with_reducible refine' CE.pure ?hc ?_);(case hc=>first | exact ty_first1 _ _ | exact ty_first2 _ _ _ _ | exact ty_first4 _ _ _ _ _ _ _ _ | exact HR | exact HF | exact HAT | exact ty_kind _ _ (by assumption))));exact hk7q.run) : A:=h ⟨k⟩
theorem ty_rule_no (x : Sch) (i : Nat) (r : Rul) (hl : x.kinds.length ≤ 1000000) (hrl : x.rules.length ≤ 1000000) (hr : x.rules[i]? = some r) (hk : kindIx x r.kind < 0) : APure Tryz.prog 87 [schD x,iD i] (iD (ruleE x i r)):=by
 have hr : x.rules[((i : Nat) : Int).toNat]? = some r:=hr
 have hil:=(List.getElem?_eq_some_iff.1 hr).1
 have HR : APure Tryz.prog 116 [.sl 5 ((x.rules.map rulC).take i),.clo 117 [.ro (rulC r)]] (bD (ruleTwice x i r)):=by
  rw [← List.map_take];exact any_rul (x.rules.take i) (fun s=>seq s.name r.name) (by simp;omega) (fun y _=>ty_rule1 y r)
 have hE : ruleE x i r = firstC [(ruleTwice x i r,7),(true,12),(false,13),(seq r.a r.b,1)]:=by
  have : kindAt x (kindIx x r.kind) = none:=by unfold kindAt;rw [if_neg (by omega)]
  simp only [ruleE,this]
 refine APure.of_call (enterX mixed tget_ok Tryz.func87 (by kernel_rfl) rfl Tryz.ntmps87 rfl ?_);intro BB
 repeat' (first | refine sk66 ?_ | (intro b;conv=>whnf))
 refine CE.pk (APk.peek (.cons (Pk.same _) (.cons (Pk.clo (.cons (Pk.ptr (j:=0) rfl (PkL.refl _)) .nil)) .nil)) HR rfl) ?_
 repeat' (first | refine sk66 ?_ | (intro b;conv=>whnf))
 refine lp_loopd mixed tget_ok (γ:=Nat) (fun j=>[(37,iD j),(8,bD (decide (kindIx x r.kind < 0))),(9,bD false)]) (fun _=>[(b,.cells 105 (rulC r))]) (fun j=>j ≤ 2) (fun j=>2 - j) 0 (chk_of cl2) cl3 (by omega) ?_
 rintro j hj
 obtain rfl | rfl | rfl : j = 0 ∨ j = 1 ∨ j = 2:=by omega
 ·repeat' (first | refine sk66 ?_ | (intro b;conv=>whnf) | (with_reducible refine Br.d (fun hc=>?_) (fun hc=>?_)) | (with_reducible refine Br.b (fun hc=>?_) (fun hc=>?_)))
  all_goals exact ⟨1,(chk_of cl2),cl3,by omega,by omega⟩
 ·repeat' (first | refine sk66 ?_ | (intro b;conv=>whnf) | (with_reducible refine Br.d (fun hc=>?_) (fun hc=>?_)) | (with_reducible refine Br.b (fun hc=>?_) (fun hc=>?_)))
  all_goals exact ⟨2,(chk_of cl2),cl3,by omega,by omega⟩
 ·repeat' (first | refine sk66 ?_ | (intro b;conv=>whnf) | (with_reducible refine Br.d (fun hc=>?_) (fun hc=>?_)) | (with_reducible refine Br.b (fun hc=>?_) (fun hc=>?_)))
  refine Rt.pure (congrArg iD ?_)
  rw [hE,decide_eq_true hk];rfl
theorem sk67 {A B : Prop} (k : B) (h : Hd7 B → A:=by intro hk7q;(first | refine sb0 ?_ | refine sb1 ?_ | ((with_reducible refine' Cp.by ?hc ?_);(case hc=>first | exact ty_first1 _ _ | exact ty_first2 _ _ _ _ | exact ty_first4 _ _ _ _ _ _ _ _ | exact HR | exact ty_at _ _ _ | exact ty_kind _ _ (by assumption) | exact ty_field _ _ (by assumption))) | ((with_reducible refine' CE.pure ?hc ?_);(case hc=>first | exact ty_first1 _ _ | exact ty_first2 _ _ _ _ | exact ty_first4 _ _ _ _ _ _ _ _ | exact HR | exact ty_at _ _ _ | exact ty_kind _ _ (by assumption) | exact ty_field _ _ (by assumption))));exact hk7q.run) : A:=h ⟨k⟩
theorem ty_rule_yes (x : Sch) (i : Nat) (r : Rul) (k : Knd) (hl : x.kinds.length ≤ 1000000) (hf : ∀ k ∈ x.kinds,k.fields.length ≤ 1000000) (hrl : x.rules.length ≤ 1000000) (hr : x.rules[i]? = some r) (h0 : 0 ≤ kindIx x r.kind) (hk : x.kinds[(kindIx x r.kind).toNat]? = some k) : APure Tryz.prog 87 [schD x,iD i] (iD (ruleE x i r)):=by
 have hr : x.rules[((i : Nat) : Int).toNat]? = some r:=hr
 have hil:=(List.getElem?_eq_some_iff.1 hr).1
 have hfk:=hf k (List.mem_of_getElem? hk)
 have HR : APure Tryz.prog 116 [.sl 5 ((x.rules.map rulC).take i),.clo 117 [.ro (rulC r)]] (bD (ruleTwice x i r)):=by
  rw [← List.map_take];exact any_rul (x.rules.take i) (fun s=>seq s.name r.name) (by simp;omega) (fun y _=>ty_rule1 y r)
 have hE : ruleE x i r = firstC [(ruleTwice x i r,7),(nameNo x k (kindIx x r.kind) r.a || nameNo x k (kindIx x r.kind) r.b,12),(nameBad x k (kindIx x r.kind) r.a || nameBad x k (kindIx x r.kind) r.b,13),(seq r.a r.b,1)]:=by
  have : kindAt x (kindIx x r.kind) = some k:=by unfold kindAt;rw [if_pos h0];exact hk
  simp only [ruleE,this]
 refine APure.of_call (enterX mixed tget_ok Tryz.func87 (by kernel_rfl) rfl Tryz.ntmps87 rfl ?_);intro BB
 repeat' (first | refine sk67 ?_ | (intro b;conv=>whnf))
 refine CE.pk (APk.peek (.cons (Pk.same _) (.cons (Pk.clo (.cons (Pk.ptr (j:=0) rfl (PkL.refl _)) .nil)) .nil)) HR rfl) ?_
 clear HR
 repeat' (first | refine sk67 ?_ | (intro b;conv=>whnf))
 refine lp_loopd mixed tget_ok (γ:=Nat × Bool × Bool) (fun g=>[(37,iD g.1),(8,bD g.2.1),(9,bD g.2.2)]) (fun _=>[(b,.cells 105 (rulC r))]) (ruI x k (kindIx x r.kind) r) (fun g=>2 - g.1) (0,decide (kindIx x r.kind < 0),false) (chk_of cl2) cl3 (.inl ⟨rfl,by simp;omega,rfl⟩) ?_
 rintro ⟨j,m,w⟩ (⟨rfl,rfl,rfl⟩ | ⟨rfl,rfl,rfl⟩ | ⟨rfl,rfl,rfl⟩)
 ·repeat' (first | refine sk67 ?_ | (intro b;conv=>whnf) | (with_reducible refine Br.d (fun hc=>?_) (fun hc=>?_)) | (with_reducible refine Br.b (fun hc=>?_) (fun hc=>?_)))
  all_goals (refine ⟨(1,nameNo x k (kindIx x r.kind) r.a,nameBad x k (kindIx x r.kind) r.a),chk_of (.cons rfl (.cons ?_ (.cons ?_ cl2))),cl3,.inr (.inl ⟨rfl,rfl,rfl⟩),by simp only;omega⟩ <;> (refine congrArg (fun b=>some (bD b)) ?_;clear hE;simp only [nameNo,nameBad,← eqE];generalize (r.a.toList == ({ data:=#[] } : ByteArray).toList) = ea at *;generalize (atR x (kindIx x r.kind) (fieldIx k r.a)).1.kind = K at *;first | (simp [*];done) | (by_cases h4 : K = 4 <;> by_cases h2 : K = 2 <;> simp_all)))
 ·repeat' (first | refine sk67 ?_ | (intro b;conv=>whnf) | (with_reducible refine Br.d (fun hc=>?_) (fun hc=>?_)) | (with_reducible refine Br.b (fun hc=>?_) (fun hc=>?_)))
  all_goals (refine ⟨(2,nameNo x k (kindIx x r.kind) r.a || nameNo x k (kindIx x r.kind) r.b,nameBad x k (kindIx x r.kind) r.a || nameBad x k (kindIx x r.kind) r.b),chk_of (.cons rfl (.cons ?_ (.cons ?_ cl2))),cl3,.inr (.inr ⟨rfl,rfl,rfl⟩),by simp only;omega⟩ <;> (refine congrArg (fun b=>some (bD b)) ?_;clear hE;generalize nameNo x k (kindIx x r.kind) r.a = na at *;generalize nameBad x k (kindIx x r.kind) r.a = nb at *;simp only [nameNo,nameBad,← eqE];generalize (r.b.toList == ({ data:=#[] } : ByteArray).toList) = eb at *;generalize (atR x (kindIx x r.kind) (fieldIx k r.b)).1.kind = K at *;first | (simp [*];done) | (by_cases h4 : K = 4 <;> by_cases h2 : K = 2 <;> simp_all)))
 ·repeat' (first | refine sk67 ?_ | (intro b;conv=>whnf) | (with_reducible refine Br.d (fun hc=>?_) (fun hc=>?_)) | (with_reducible refine Br.b (fun hc=>?_) (fun hc=>?_)))
  refine Rt.pure (congrArg iD ?_)
  rw [hE];rfl
theorem ty_ruleE (x : Sch) (i : Nat) (r : Rul) (hl : x.kinds.length ≤ 1000000) (hf : ∀ k ∈ x.kinds,k.fields.length ≤ 1000000) (hrl : x.rules.length ≤ 1000000) (hr : x.rules[i]? = some r) : APure Tryz.prog 87 [schD x,iD i] (iD (ruleE x i r)):=by
 by_cases h0 : kindIx x r.kind < 0
 ·exact ty_rule_no x i r hl hrl hr h0
 ·have hlt : kindIx x r.kind < x.kinds.length:=idx_lt _ _
  exact ty_rule_yes x i r _ hl hf hrl hr (by omega) (List.getElem?_eq_getElem (by omega))
end
section
open Go Go.Maps Go.MapKept
theorem yd_checks {ρ : Operand → D} {σ : Store} {o : Oper} (ho : o.op = .load 161 (.global 0)) (hρ : ρ (.global 0) = .v (.pointer (some ⟨0,0,none⟩))) :
  Yd Tryz.prog o ρ σ (.gl 0):=by
 intro w X η hη hst
 obtain ⟨dst,op,ty,pos,aft,g⟩:=o
 simp only at ho
 subst ho
 have hp:=(hη (.global 0) (by simp [Op.operands])).val hρ
 obtain ⟨r,h1,h2,h3⟩:=hst.gok.checks
 obtain ⟨g1,g2⟩:=ti_run (tget_ok 161 _ rfl) w
 refine yu_run (s:=Instr.loadAt 161 (η (.global 0))) (u:=.map (some r)) ?_ (Ex.refl w) (.gl _ _ (hst.gok.no _ (by decide)) (Nat.lt_of_lt_of_le (by decide) hst.gok.sz) h1)
 rw [hp]
 exact run_load_one g1 h1
def chkB (n : Int) : Bool:=(aggF chkM (.int .i64 n)).isSome
def chkD (n : Int) : D:=.agg [.v (((chkM (.int .i64 n))).getD .nilFunc)]
theorem yd_look {ρ : Operand → D} {σ : Store} {o : Oper} {x i : Operand} {n : Int} (ho : o.op = .lookup 161 x i true) (hx : ρ x = .gl 0) (hi : ρ i = .v (.int .i64 n)) (hn : 0 ≤ n ∧ n ≤ 8) :
  Yd Tryz.prog o ρ σ (.tup [chkD n,.v (.bool (chkB n))]):=by
 intro w X η hη hst
 obtain ⟨dst,op,ty,pos,aft,g⟩:=o
 simp only at ho
 subst ho
 have h0:=hη x (by simp [Op.operands])
 rw [hx] at h0
 have hv:=(hη i (by simp [Op.operands])).val hi
 obtain ⟨r,h1,h2,h3⟩:=hst.gok.checks
 have hxv : η x = .map (some r):=by
  generalize hq : D.gl 0 = q at h0
  generalize η x = u at h0
  cases h0 <;> cases hq
  rename_i q' _ _ hc
  rw [h1] at hc;cases hc;rfl
 have hwf : (Lit.int .i64 n).wf = true:=by
  have : n = 0 ∨ n = 1 ∨ n = 2 ∨ n = 3 ∨ n = 4 ∨ n = 5 ∨ n = 6 ∨ n = 7 ∨ n = 8:=by omega
  rcases this with rfl | rfl | rfl | rfl | rfl | rfl | rfl | rfl | rfl <;> rfl
 have hz : (zeroValue 159).run Tryz.prog w = .ok (.agg #[.nilFunc]) w:=by
  have : (Tryz.prog.info? 159).map (fun i=>i.zero) = some (some (.agg #[.nilFunc])):=by kernel_rfl
  cases hi : Tryz.prog.info? 159 with
  | none=>rw [hi] at this;cases this
  | some inf=>
   rw [hi] at this
   simp only [Option.map_some,Option.some.injEq] at this
   simp [zeroValue,typeInfo,program,Sem.run,hi,this]
 have hrun:=h3.look_ok (int_keyed Tryz.underlying3) Tryz.underlying161 hz (keyOf_int_mk Tryz.underlying3 hwf)
 refine yu_run (s:=Instr.lookup 161 (η x) (η i) true) (by rw [hxv,hv];exact hrun) (Ex.refl w) ?_
 have e : (aggF chkM (.int .i64 n)).getD (.agg #[.nilFunc]) = .agg #[(chkM (.int .i64 n)).getD .nilFunc]:=by
  unfold aggF;cases chkM (.int .i64 n) <;> rfl
 rw [e]
 have h5:=RdL.cons (w:=w) (O:=Own σ X) (Rd.agg [.v ((chkM (.int .i64 n)).getD .nilFunc)] [(chkM (.int .i64 n)).getD .nilFunc] rfl (RdL.vals [(chkM (.int .i64 n)).getD .nilFunc]).at_) (RdL.cons (Rd.v (.bool (chkB n))) RdL.nil)
 exact Rd.tup [chkD n,.v (.bool (chkB n))] _ h5.len h5.at_
end
section
open Go
theorem sk68 {A B : Prop} (k : B) (h : Hd7 B → A:=by intro hk7q;(first | refine sb0 ?_ | refine sb1 ?_ | ((with_reducible refine' Cp.by ?hc ?_);(case hc=>first | exact HV | exact r10_keyed _ | exact r10_kind _ _ (by assumption) | exact r10_field _ _ (by assumption) | exact r10_leads _ _ _ _ (by assumption) (by assumption) (by assumption) (by assumption) | exact r10_rules _ _ _ (by assumption) (by assumption) (by assumption) (by assumption))) | ((with_reducible refine' CE.pure ?hc ?_);(case hc=>first | exact HV | exact r10_keyed _ | exact r10_kind _ _ (by assumption) | exact r10_field _ _ (by assumption) | exact r10_leads _ _ _ _ (by assumption) (by assumption) (by assumption) (by assumption) | exact r10_rules _ _ _ (by assumption) (by assumption) (by assumption) (by assumption))));exact hk7q.run) : A:=h ⟨k⟩
end
end Go.Proofs.YtjbbmjjildhfbaaGreatDoor
