/- A part of the proof: Ky Kz Cw Va Shelf. -/
import Derived.Test.YtjbbmjjildhfbaaGreatDoorA20
import Derived.DeepKeys5
import Derived.Shelf.Strings.Builder1
import Derived.Shelf.Strconv.Itoa0
import Derived.Shelf.Strconv.Itoa1
import Derived.Shelf.LaysM
import Derived.Shelf.Strconv.Itoa2
import Derived.Shelf.Strconv.Itoa3
import Derived.Shelf.Bits.Mul64
import Derived.Ground.Names2Prog
import Derived.Shelf.Slices.Clone
import Derived.Ground.SlgnProg
import Derived.Shelf.SlicesE.Clone
import Derived.Test.YtjbbmjjildhfbaaGreatDoorProg
set_option maxRecDepth 100000
set_option maxHeartbeats 4000000
set_option linter.unusedVariables false
set_option linter.unusedSimpArgs false
namespace Go.Proofs.YtjbbmjjildhfbaaGreatDoor
section
open Go
theorem fl_b (l : List Bool) (v : Value) (s : Store) (h : RB l v s) : FlS s:=FlS.row h (fun x hx d hd=>by obtain ⟨b,_,rfl⟩:=List.mem_map.1 hx;rw [List.mem_singleton] at hd;subst hd;rfl)
theorem fl_s (x : Sb) (v : Value) (s : Store) (h : RS x v s) : FlS s:=FlS.rows fl_b h
theorem rs_nil : RS [] (.slice none 0 0) []:=RowsOf.nil _ _
theorem great_no {x : Sch} {w : Wd} {s : Sb} (h : checkedE x w s ≠ 0) : greatE x w s = ([],checkedE x w s):=by unfold greatE;rw [if_pos h]
theorem great_yes {x : Sch} {w : Wd} {s : Sb} (h : checkedE x w s = 0) : greatE x w s = (shrinkE x w s,0):=by unfold greatE;rw [if_neg (by simpa using h)]
theorem wout_no {x : Sch} {w : Wd} {s : Sb} {k i : Int} (h : checkedE x w s ≠ 0) : withoutE x w s k i = ([],checkedE x w s):=by unfold withoutE;rw [if_pos h]
theorem wout_6 {x : Sch} {w : Wd} {s : Sb} {k i : Int} (h : checkedE x w s = 0) (h2 : keepsB s k i = false) : withoutE x w s k i = ([],6):=by unfold withoutE;rw [if_neg (by simpa using h),if_pos h2]
theorem wout_yes {x : Sch} {w : Wd} {s : Sb} {k i : Int} (h : checkedE x w s = 0) (h2 : keepsB s k i = true) : withoutE x w s k i = (shrinkE x w (clearB s k.toNat i.toNat),0):=by unfold withoutE;rw [if_neg (by simpa using h),if_neg (by simp [h2])]
theorem keeps_inv {s : Sb} {k i : Int} (h : keepsB s k i = true) : ∃ (a b : Nat) (l : List Bool),k = a ∧ i = b ∧ s[a]? = some l ∧ l[b]? = some true:=by
 unfold keepsB at h
 simp only [Bool.and_eq_true,decide_eq_true_eq] at h
 obtain ⟨⟨h1,h2⟩,h3⟩:=h
 obtain ⟨a,rfl⟩:=Int.eq_ofNat_of_zero_le h1
 obtain ⟨b,rfl⟩:=Int.eq_ofNat_of_zero_le h2
 simp only [Int.toNat_natCast] at h3
 unfold keptB at h3
 simp only [List.getD_eq_getElem?_getD] at h3
 cases h4 : s[a]? with
 | none=>simp [h4] at h3
 | some l=>
  simp only [h4,Option.getD_some] at h3
  refine ⟨a,b,l,rfl,rfl,h4,?_⟩
  cases h5 : l[b]? with
  | none=>simp [h5] at h3
  | some c=>simp only [h5,Option.getD_some] at h3;rw [h3]
theorem sk79 {A B : Prop} (k : B) (h : Hd7 B → A:=by intro hk7q;(first | refine sb0 ?_ | refine sb1 ?_ | ((with_reducible refine' Cp.by ?hc ?_);(case hc=>first | exact HC | exact HK)) | ((with_reducible refine' CE.pure ?hc ?_);(case hc=>first | exact HC | exact HK)));exact hk7q.run) : A:=h ⟨k⟩
theorem r31_greatest (x : Sch) (w : Wd) (s : Sb) (hw : Ws w) (hs : Ss s) (HV : APure Tryz.prog 94 [schD x] (iD (validE x))) : ACall Tryz.prog 20 [schD x,slW w,slS2 s] [] (fun d σ=>∃ v,d = .tup [.v v,iD (greatE x w s).2] ∧ RS (greatE x w s).1 v σ):=by
 have HC:=r31_checked x w s hw HV
 by_cases h0 : checkedE x w s = 0
 ·rw [great_yes h0]
  have hF:=checked0 hw hs h0
  have HK:=True.intro
  refine enterX mixed tget_ok Tryz.func20 (by kernel_rfl) rfl Tryz.ntmps20 rfl ?_;intro BB
  repeat' (first | refine sk79 ?_ | (intro b;conv=>whnf))
  refine CE.own (r31_shrunk x w s hF) (List.Perm.refl []) (fun s'=>s') (fun s'=>by simp) ?_
  rintro _ σ ⟨v,rfl,hR⟩
  repeat' (first | refine sk79 ?_ | (intro b;conv=>whnf))
  exact Rt.same ⟨_,rfl,hR⟩
 ·rw [great_no h0]
  have HK:=True.intro
  refine enterX mixed tget_ok Tryz.func20 (by kernel_rfl) rfl Tryz.ntmps20 rfl ?_;intro BB
  repeat' (first | refine sk79 ?_ | (intro b;conv=>whnf))
  exact Rt.same ⟨_,rfl,rs_nil⟩
theorem r31_without (x : Sch) (w : Wd) (s : Sb) (hw : Ws w) (hs : Ss s) (k i : Int) (HV : APure Tryz.prog 94 [schD x] (iD (validE x))) : ACall Tryz.prog 13 [schD x,slW w,slS2 s,atD k i] [] (fun d σ=>∃ v σ1 σ2,d = .tup [.v v,iD (withoutE x w s k i).2] ∧ σ = σ1 ++ σ2 ∧ RS (withoutE x w s k i).1 v σ1):=by
 have HC:=r31_checked x w s hw HV
 have HK:=r31_keeps s k i
 by_cases h0 : checkedE x w s = 0
 ·have hF:=checked0 hw hs h0
  by_cases h1 : keepsB s k i = true
  ·obtain ⟨a,b,l,rfl,rfl,hl,hb⟩:=keeps_inv h1
   rw [h1] at HK
   rw [wout_yes h0 h1]
   have hbl:=(List.getElem?_eq_some_iff.1 hb).1
   have hsl:=hs.nk
   have hll:=hs.nr l (List.mem_of_getElem? hl)
   have hal:=(List.getElem?_eq_some_iff.1 hl).1
   refine enterX mixed tget_ok Tryz.func13 (by kernel_rfl) rfl Tryz.ntmps13 rfl ?_;intro BB
   repeat' (first | refine sk79 ?_ | (intro b;conv=>whnf))
   refine CE.own (r31_copied s hF.ss) (List.Perm.refl []) (fun s'=>s') (fun s'=>by simp) ?_
   rintro _ σ0 ⟨v,rfl,hR0⟩
   obtain ⟨b0,cap0,cs0,b1,cap1,cs1,ρ,rfl,h2,h3,h4,h5⟩:=rows_open hR0 hl hb
   have m0 : (b0,Blk.cells 62 cs0) ∈ σ0:=h2.mem_iff.2 (by simp)
   repeat' (first | refine sk79 ?_ | (intro b;conv=>whnf))
   refine Ld.cellm (cs:=cs0) m0 (by rw [ix1];exact h3) ?_
   repeat' (first | refine sk79 ?_ | (intro b;conv=>whnf))
   refine Sv.cellm (cs:=cs1) (cs':=cs1.set b (bD false)) (τ:=(b0,.cells 62 cs0) :: ρ) (h2.trans (List.Perm.swap _ _ _)) (by rw [ix1];exact (List.getElem?_eq_some_iff.1 h4).1) rfl (by rw [ix1]) ?_
   repeat' (first | refine sk79 ?_ | (intro b;conv=>whnf))
   have hR3:=(h5 false).perm (List.Perm.swap (b0,Blk.cells 62 cs0) (b1,Blk.cells 4 (cs1.set b (bD false))) ρ)
   rw [clear_set hl] at hR3
   have hF2:=hF.lens (clearB_lens s a b)
   refine CE.own (ACall.peek (.cons (Pk.same _) (.cons (Pk.same _) (.cons (Pk.frz frz_s hR3 (List.Perm.of_eq (List.append_nil _).symm)) .nil))) (r31_shrunk x w (clearB s a b) hF2) (fun d s ⟨v,e,h⟩=>by subst e;exact ⟨rfl,fl_s _ _ _ h⟩)) (List.Perm.of_eq (List.append_nil _).symm) (fun s'=>s') (fun s'=>by simp) ?_
   rintro _ s' ⟨s'',rfl,v2,rfl,hR4⟩
   repeat' (first | refine sk79 ?_ | (intro b;conv=>whnf))
   exact Rt.same ⟨_,_,_,rfl,rfl,hR4⟩
  ·rw [wout_6 h0 (by simpa using h1)]
   rw [(by simpa using h1 : keepsB s k i = false)] at HK
   refine enterX mixed tget_ok Tryz.func13 (by kernel_rfl) rfl Tryz.ntmps13 rfl ?_;intro BB
   repeat' (first | refine sk79 ?_ | (intro b;conv=>whnf))
   exact Rt.same ⟨_,[],_,rfl,rfl,rs_nil⟩
 ·rw [wout_no h0]
  refine enterX mixed tget_ok Tryz.func13 (by kernel_rfl) rfl Tryz.ntmps13 rfl ?_;intro BB
  repeat' (first | refine sk79 ?_ | (intro b;conv=>whnf))
  exact Rt.same ⟨_,[],_,rfl,rfl,rs_nil⟩
end
section
open Go
theorem wout_lens {x : Sch} {w : Wd} {s : Sb} {k i : Int} (h : (withoutE x w s k i).2 = 0) : (withoutE x w s k i).1.map List.length = s.map List.length:=by
 unfold withoutE at h ⊢
 split at h
 ·rename_i h1;exact absurd h h1
 ·rename_i h1
  split at h
  ·cases h
  ·rename_i h2
   rw [if_neg h1,if_neg h2]
   exact (shrink_lens _ _).trans (clearB_lens _ _ _)
theorem wout_fit {x : Sch} {w : Wd} {s : Sb} {k i : Int} (hw : Ws w) (hs : Ss s) (h : (withoutE x w s k i).2 = 0) : Fit x w s:=by
 refine checked0 hw hs ?_
 unfold withoutE at h
 split at h
 ·exact h
 ·rename_i h1;simpa using h1
def goneTo (s T : Sb) (k i : Nat) : List (Nat × Nat):=(posTo s k i).filter fun p=>keptB s p.1 p.2 && !keptB T p.1 p.2
theorem goneTo_yes {s T : Sb} {k i : Nat} (h : (keptB s k i && !keptB T k i) = true) : goneTo s T k (i + 1) = goneTo s T k i ++ [(k,i)]:=by
 unfold goneTo;rw [posTo_succ,List.filter_append];simp [h]
theorem goneTo_no {s T : Sb} {k i : Nat} (h : (keptB s k i && !keptB T k i) = false) : goneTo s T k (i + 1) = goneTo s T k i:=by
 unfold goneTo;rw [posTo_succ,List.filter_append];simp [h]
theorem goneTo_row {s T : Sb} {k : Nat} {l : List Bool} (h : s[k]? = some l) : goneTo s T (k + 1) 0 = goneTo s T k l.length:=by unfold goneTo;rw [posTo_row h]
theorem goneTo_all (s T : Sb) : goneTo s T s.length 0 = (keptL s).filter fun p=>!keptB T p.1 p.2:=by
 unfold goneTo keptL;rw [posTo_all,List.filter_filter]
 congr 1;funext p;exact Bool.and_comm _ _
theorem goneTo_le {s T : Sb} (hs : Ss s) {k i : Nat} {l : List Bool} (h : s[k]? = some l) (hi : i ≤ l.length) : (goneTo s T k i).length ≤ 1000000:=by
 have h1 : goneTo s T k i = (keptTo s k i).filter fun p=>!keptB T p.1 p.2:=by
  unfold goneTo keptTo;rw [List.filter_filter];congr 1;funext p;exact Bool.and_comm _ _
 rw [h1]
 exact Nat.le_trans (List.length_filter_le _ _) (Nat.le_trans (keptTo_pre h hi).length_le (keptL_le hs))
abbrev RA : ORep (List (Nat × Nat)):=fun l v s=>RowIs 33 2 (l.map fun p=>atC p.1 p.2) v s
theorem tog_no {x : Sch} {w : Wd} {s : Sb} {k i : Int} (h : (withoutE x w s k i).2 ≠ 0) : togetherE x w s k i = ([],(withoutE x w s k i).2):=by unfold togetherE;rw [if_pos h]
theorem tog_yes {x : Sch} {w : Wd} {s : Sb} {k i : Int} (h : (withoutE x w s k i).2 = 0) : togetherE x w s k i = ((keptL s).filter (fun p=>!keptB (withoutE x w s k i).1 p.1 p.2),0):=by unfold togetherE;rw [if_neg (by simpa using h)]
theorem r31_together (x : Sch) (w : Wd) (s : Sb) (hw : Ws w) (hs : Ss s) (k i : Int) (HV : APure Tryz.prog 94 [schD x] (iD (validE x))) : APure Tryz.prog 15 [schD x,slW w,slS2 s,atD k i] (.tup [slAt (togetherE x w s k i).1,iD (togetherE x w s k i).2]):=by
 have HW:=r31_without x w s hw hs k i HV
 by_cases h0 : (withoutE x w s k i).2 = 0
 ·rw [tog_yes h0]
  have hF:=wout_fit hw hs h0
  have hTl:=wout_lens h0
  have hsl:=hs.nk
  generalize hT : (withoutE x w s k i).1 = T at *
  have hTs : T.length = s.length:=by have:=congrArg List.length hTl;simpa using this
  generalize (withoutE x w s k i).2 = c0 at *
  refine APure.of_call (enterX mixed tget_ok Tryz.func15 (by kernel_rfl) rfl Tryz.ntmps15 rfl ?_);intro BB
  repeat' (first | refine sk2 ?_ | (intro b;conv=>whnf))
  refine CE.own HW (List.Perm.refl []) (fun s'=>s') (fun s'=>by simp) ?_
  rintro _ _ ⟨v,σ1,σ2,rfl,rfl,hR⟩
  obtain ⟨a0,cp0,rfl⟩:=hR.slice
  repeat' (first | refine sk2 ?_ | (intro b;conv=>whnf))
  refine lp_loopd mixed tget_ok (γ:=Nat × Value × Store) (fun g=>[(12,.v g.2.1),(13,iD g.1)]) (fun g=>g.2.2 ++ (σ1 ++ σ2)) (fun g=>g.1 ≤ s.length ∧ RA (goneTo s T g.1 0) g.2.1 g.2.2) (fun g=>s.length - g.1) (0,.slice none 0 0,[]) (chk_of cl2) cl3 ⟨Nat.zero_le _,RowIs.nil _ _⟩ ?_
  rintro ⟨j,v,τ⟩ ⟨hj,hA⟩
  simp only at hj hA ⊢
  by_cases hjl : j < s.length
  ·obtain ⟨l,hl⟩ : ∃ l,s[j]? = some l:=⟨_,List.getElem?_eq_getElem hjl⟩
   have hl' : s[((j : Nat) : Int).toNat]? = some l:=hl
   have hll:=hs.nr l (List.mem_of_getElem? hl)
   obtain ⟨m,hm,hml⟩:=lens_get hTl.symm hl
   repeat' (first | refine sk2 ?_ | (intro b;conv=>whnf))
   refine lp_loopd mixed tget_ok (γ:=Nat × Value × Store) (fun g=>[(12,.v g.2.1),(14,iD g.1)]) (fun g=>g.2.2 ++ (σ1 ++ σ2)) (fun g=>g.1 ≤ l.length ∧ RA (goneTo s T j g.1) g.2.1 g.2.2) (fun g=>l.length - g.1) (0,v,τ) (chk_of cl2) cl3 ⟨Nat.zero_le _,hA⟩ ?_
   rintro ⟨i,v,τ⟩ ⟨hi,hA⟩
   simp only at hi hA ⊢
   by_cases hil : i < l.length
   ·obtain ⟨b,hb⟩ : ∃ b,l[i]? = some b:=⟨_,List.getElem?_eq_getElem hil⟩
    have hb' : l[((i : Nat) : Int).toNat]? = some b:=hb
    obtain ⟨c,hc⟩ : ∃ c,m[i]? = some c:=⟨_,List.getElem?_eq_getElem (by omega)⟩
    obtain ⟨b0,cap0,cs0,b1,cap1,cs1,ρ,e1,h2,h3,h4,h5⟩:=rows_open hR hm hc
    rw [hTs] at e1
    cases e1
    have m0 : (b0,Blk.cells 62 cs0) ∈ τ ++ (σ1 ++ σ2):=List.mem_append_right _ (List.mem_append_left _ (h2.mem_iff.2 (by simp)))
    have m1 : (b1,Blk.cells 4 cs1) ∈ τ ++ (σ1 ++ σ2):=List.mem_append_right _ (List.mem_append_left _ (h2.mem_iff.2 (by simp)))
    have hkb:=kept_of hl hb
    have hkc:=kept_of hm hc
    have hgl : (goneTo s T j (i + 1)).length ≤ 1000000:=goneTo_le hs hl (Nat.succ_le_of_lt hil)
    cases b with
    | false=>
     have hg : goneTo s T j (i + 1) = goneTo s T j i:=goneTo_no (by rw [hkb];rfl)
     repeat' (first | refine sk2 ?_ | (intro b;conv=>whnf))
     exact ⟨(i + 1,v,τ),(chk_of cl2),cl3,⟨by simp only;omega,by simp only;rw [hg];exact hA⟩,by simp only;omega⟩
    | true=>
     repeat' (first | refine sk2 ?_ | (intro b;conv=>whnf))
     refine Ld.cellm (cs:=cs0) m0 (by rw [ix1];exact h3) ?_
     repeat' (first | refine sk2 ?_ | (intro b;conv=>whnf))
     refine Ld.cellm (cs:=cs1) m1 (by rw [ix1];exact h4) ?_
     cases c with
     | true=>
      have hg : goneTo s T j (i + 1) = goneTo s T j i:=goneTo_no (by rw [hkb,hkc];rfl)
      repeat' (first | refine sk2 ?_ | (intro b;conv=>whnf))
      exact ⟨(i + 1,v,τ),(chk_of cl2),cl3,⟨by simp only;omega,by simp only;rw [hg];exact hA⟩,by simp only;omega⟩
     | false=>
      have hg : goneTo s T j (i + 1) = goneTo s T j i ++ [(j,i)]:=goneTo_yes (by rw [hkb,hkc];rfl)
      repeat' (first | refine sk2 ?_ | (intro b;conv=>whnf))
      refine Ap.go rfl rfl rfl rfl hA (List.Perm.refl (τ ++ (σ1 ++ σ2))) rfl (zs:=(goneTo s T j (i + 1)).map fun p=>atC p.1 p.2) (by rw [hg,List.map_append];rfl) (by rw [List.length_map];omega) (by rw [List.length_map];omega) (fun s'=>s' ++ (σ1 ++ σ2)) (fun s'=>List.Perm.refl _) (fun a2 c2 s2 hr2=>?_)
      repeat' (first | refine sk2 ?_ | (intro b;conv=>whnf))
      exact ⟨(i + 1,_,s2),(chk_of cl2),cl3,⟨by simp only;omega,hr2⟩,by simp only;omega⟩
   ·obtain rfl : i = l.length:=by omega
    repeat' (first | refine sk2 ?_ | (intro b;conv=>whnf))
    exact ⟨(j + 1,v,τ),(chk_of cl2),cl3,⟨by simp only;omega,by simp only;rw [goneTo_row hl];exact hA⟩,by simp only;omega⟩
  ·obtain rfl : j = s.length:=by omega
   rw [goneTo_all] at hA
   repeat' (first | refine sk2 ?_ | (intro b;conv=>whnf))
   exact Rt.vs (Vs.tup (.cons (Vs.row hA (List.Perm.refl _)) (.cons (Vs.refl _ _) (.nil _))))
 ·rw [tog_no h0]
  refine APure.of_call (enterX mixed tget_ok Tryz.func15 (by kernel_rfl) rfl Tryz.ntmps15 rfl ?_);intro BB
  repeat' (first | refine sk2 ?_ | (intro b;conv=>whnf))
  refine CE.own HW (List.Perm.refl []) (fun s'=>s') (fun s'=>by simp) ?_
  rintro _ _ ⟨v,σ1,σ2,rfl,rfl,hR⟩
  obtain ⟨a0,cp0,rfl⟩:=hR.slice
  repeat' (first | refine sk2 ?_ | (intro b;conv=>whnf))
  exact Rt.vs (Vs.tup (.cons (Vs.row (RowIs.nil 33 2) (perm0 _)) (.cons (Vs.refl _ _) (.nil _))))
end
section
open Go Go.Maps Go.MapKept
theorem laid_out : laidOutB Tryz.prog = true:=by kernel_rfl
theorem at_keyed : Keyed Tryz.prog 33:=Keyed.of_law (deep_law_laid laid_out (m:=2) (by omega) (of_decide_eq_true (by kernel_rfl)) (by kernel_rfl) (by rw [Tryz.underlying33]))
theorem at_ktype : Tryz.prog.keyType 33 = true:=by kernel_rfl
def atV (a b : Int) : Value:=.agg #[.int .i64 a,.int .i64 b]
theorem at_cells : Tryz.prog.cellsOf 33 = 2:=by kernel_rfl
theorem cells_int1 : Tryz.prog.cellsOf 3 = 1:=by kernel_rfl
theorem at_formed (a b : Int) : (atV a b).formed Tryz.prog 33 = true:=by
 simp [atV,Value.formed,Tryz.underlying33,at_cells]
theorem int_lits (n : Nat) {a : Int} (ha : (Lit.int .i64 a).wf = true) : Tryz.prog.keyLits (n + 1) 3 [.int .i64 a] = some [.int .i64 a]:=by
 simp only [Program.keyLits,Tryz.underlying3,ha]
 simp
theorem at_key {a b : Int} (ha : (Lit.int .i64 a).wf = true) (hb : (Lit.int .i64 b).wf = true) : ∃ l,keyOf Tryz.prog 33 (atV a b) = some l:=by
 unfold keyOf
 rw [Tryz.underlying33]
 simp only [at_ktype,at_formed,Bool.and_self,if_true]
 have : ∃ n,Tryz.prog.types.size = n + 1:=⟨Tryz.prog.types.size - 1,by have : 0 < Tryz.prog.types.size:=of_decide_eq_true (by kernel_rfl);omega⟩
 obtain ⟨n,hn⟩:=this
 rw [hn]
 have : Tryz.prog.keyLits (n + 1 + 1) 33 (atV a b).cells.toList = some [.int .i64 a,.int .i64 b]:=by
  unfold Program.keyLits
  simp [atV,Value.cells,Tryz.underlying33,at_cells,cells_int1,int_lits n ha,int_lits n hb]
 rw [this]
 exact ⟨_,rfl⟩
theorem int_keyed' : Keyed Tryz.prog 3:=int_keyed Tryz.underlying3
theorem int_key {a : Int} (ha : (Lit.int .i64 a).wf = true) : keyOf Tryz.prog 3 (.int .i64 a) = some (.int .i64 a):=keyOf_int_mk Tryz.underlying3 ha
theorem wf64 {a : Int} (h1 : -9223372036854775808 ≤ a) (h2 : a ≤ 9223372036854775807) : (Lit.int .i64 a).wf = true:=by
 have e1 : IntKind.i64.min = -9223372036854775808:=rfl
 have e2 : IntKind.i64.max = 9223372036854775807:=rfl
 simp [Lit.wf,e1,e2,h1,h2]
theorem zero_int (w : World) : (zeroValue 3).run Tryz.prog w = .ok (.int .i64 0) w:=by kernel_rfl
theorem zero_map (w : World) : (zeroValue 116).run Tryz.prog w = .ok (.map none) w:=by kernel_rfl
theorem atV_inj {a b c d : Int} (h : atV a b = atV c d) : a = c ∧ b = d:=by
 simp only [atV,Value.agg.injEq] at h
 have:=congrArg Array.toList h
 simp at this
 exact this
def outF (bs : List Nat) : Value → Option Value
 | .int .i64 n=>if 0 ≤ n then (bs[n.toNat]?).map (fun b=>.map (some b)) else none
 | _=>none
theorem outF_nil : outF [] = fun _=>none:=by
 funext v
 unfold outF
 split <;> simp
theorem outF_push (bs : List Nat) (b : Nat) : updF (outF bs) (.int .i64 bs.length) (.map (some b)) = outF (bs ++ [b]):=by
 funext v
 unfold updF
 split
 ·rename_i h
  subst h
  simp [outF]
 ·rename_i h
  unfold outF
  split
  ·rename_i n
   split
   ·rename_i h0
    have : n.toNat ≠ bs.length:=fun e=>h (by rw [← e];congr 1;omega)
    rcases Nat.lt_or_ge n.toNat bs.length with h1 | h1
    ·rw [List.getElem?_append_left h1]
    ·rw [List.getElem?_append_right h1,List.getElem?_eq_none_iff.2 h1]
     have : n.toNat - bs.length ≠ 0:=by omega
     obtain ⟨d,hd⟩:=Nat.exists_eq_succ_of_ne_zero this
     rw [hd];rfl
   ·rfl
  ·rfl
theorem outF_get {bs : List Nat} {q b : Nat} (h : bs[q]? = some b) : outF bs (.int .i64 q) = some (.map (some b)):=by simp [outF,h]
abbrev Cnt:=Value → Option Value
def cnt (F : Cnt) (r : Rf) (i : Int) : Value:=(F (atV r.up i)).getD (.int .i64 0)
theorem cnt_upd (F : Cnt) (r : Rf) (i i0 : Int) (v : Value) : cnt (updF F (atV r.up i0) v) r i = if i = i0 then v else cnt F r i:=by
 unfold cnt updF
 by_cases h : i = i0
 ·subst h;simp
 ·have : atV r.up i ≠ atV r.up i0:=fun e=>h (atV_inj e).2
  simp [this,h]
def mapsS (ms : List (Nat × Cnt)) : Store:=ms.map fun p=>(p.1,.obj (MapO Tryz.prog 33 p.2))
structure MP (refs : List Rf) (c : Nat → Int → Int) (bl : Nat) (R : Store) : Prop where
 ex : ∃ ms : List (Nat × Cnt),ms.length = refs.length ∧ (∀ (n : Nat) r p,refs[n]? = some r → ms[n]? = some p → ∀ i,cnt p.2 r i = .int .i64 (c n i)) ∧ R.Perm ((bl,.obj (MapO Tryz.prog 3 (outF (ms.map Prod.fst)))) :: mapsS ms)
theorem MP.perm {refs : List Rf} {c : Nat → Int → Int} {bl : Nat} {R R' : Store} (h : MP refs c bl R) (hp : R'.Perm R) : MP refs c bl R':=by
 obtain ⟨ms,h1,h2,h3⟩:=h.ex
 exact ⟨ms,h1,h2,hp.trans h3⟩
theorem MP.cong {refs : List Rf} {c c' : Nat → Int → Int} {bl : Nat} {R : Store} (h : MP refs c bl R) (hc : ∀ n i,n < refs.length → c n i = c' n i) : MP refs c' bl R:=by
 obtain ⟨ms,h1,h2,h3⟩:=h.ex
 exact ⟨ms,h1,fun n r p q1 q2 i=>by rw [← hc n i (List.getElem?_eq_some_iff.1 q1).1];exact h2 n r p q1 q2 i,h3⟩
theorem MP.nil (c : Nat → Int → Int) (b : Nat) : MP [] c b [(b,.obj (MapO Tryz.prog 3 fun _=>none))]:=⟨[],rfl,fun n r p h=>by simp at h,by simp [mapsS,outF_nil]⟩
theorem MP.get {refs : List Rf} {c : Nat → Int → Int} {bl : Nat} {R : Store} (h : MP refs c bl R) {q : Nat} {r : Rf} (hq : refs[q]? = some r) :
  ∃ (b : Nat) (F : Cnt) (G : Value → Option Value) (ρ : Store),R.Perm ((bl,.obj (MapO Tryz.prog 3 G)) :: (b,.obj (MapO Tryz.prog 33 F)) :: ρ) ∧ G (.int .i64 q) = some (.map (some b)) ∧ (∀ i,cnt F r i = .int .i64 (c q i)) ∧
   ∀ (F' : Cnt) (c' : Int → Int),(∀ i,cnt F' r i = .int .i64 (c' i)) → MP refs (fun n i=>if n = q then c' i else c n i) bl ((bl,.obj (MapO Tryz.prog 3 G)) :: (b,.obj (MapO Tryz.prog 33 F')) :: ρ):=by
 obtain ⟨ms,h1,h2,h3⟩:=h.ex
 have hql:=(List.getElem?_eq_some_iff.1 hq).1
 obtain ⟨⟨b,F⟩,hm⟩ : ∃ p,ms[q]? = some p:=⟨_,List.getElem?_eq_getElem (by omega)⟩
 have hml:=(List.getElem?_eq_some_iff.1 hm).1
 have e4 : ms = ms.take q ++ (b,F) :: ms.drop (q + 1):=by
  have:=(List.getElem?_eq_some_iff.1 hm).2
  rw [← this,List.getElem_cons_drop,List.take_append_drop]
 refine ⟨b,F,outF (ms.map Prod.fst),mapsS (ms.take q) ++ mapsS (ms.drop (q + 1)),?_,outF_get (by rw [List.getElem?_map,hm];rfl),h2 q r _ hq hm,fun F' c' hc=>⟨ms.set q (b,F'),by simpa using h1,fun n r' p q1 q2 i=>?_,?_⟩⟩
 ·refine h3.trans (List.Perm.cons _ ?_)
  conv=>lhs;rw [e4]
  unfold mapsS
  rw [List.map_append,List.map_cons]
  exact List.perm_middle
 ·by_cases e : n = q
  ·subst e
   rw [List.getElem?_set_self hml] at q2
   cases q2
   cases hq.symm.trans q1
   rw [if_pos rfl];exact hc i
  ·rw [List.getElem?_set_ne (Ne.symm e)] at q2
   rw [if_neg e];exact h2 n r' p q1 q2 i
 ·have e5 : ms.set q (b,F') = ms.take q ++ (b,F') :: ms.drop (q + 1):=by rw [List.set_eq_take_append_cons_drop,if_pos hml]
  have e6 : (ms.set q (b,F')).map Prod.fst = ms.map Prod.fst:=by
   rw [List.map_set]
   exact set_get (by rw [List.getElem?_map,hm];rfl)
  rw [e6]
  refine List.Perm.cons _ ?_
  rw [e5]
  unfold mapsS
  rw [List.map_append,List.map_cons]
  exact List.perm_middle.symm
theorem MP.push {refs : List Rf} {c : Nat → Int → Int} {bl : Nat} {R : Store} (h : MP refs c bl R) (r : Rf) :
  ∃ (G : Value → Option Value) (ρ : Store),R.Perm ((bl,.obj (MapO Tryz.prog 3 G)) :: ρ) ∧
   ∀ b,MP (refs ++ [r]) (fun n i=>if n = refs.length then 0 else c n i) bl ((bl,.obj (MapO Tryz.prog 3 (updF G (.int .i64 refs.length) (.map (some b))))) :: (b,.obj (MapO Tryz.prog 33 fun _=>none)) :: ρ):=by
 obtain ⟨ms,h1,h2,h3⟩:=h.ex
 refine ⟨outF (ms.map Prod.fst),mapsS ms,h3,fun b=>⟨ms ++ [(b,fun _=>none)],by simp [h1],fun n r' p q1 q2 i=>?_,?_⟩⟩
 ·rcases Nat.lt_or_ge n refs.length with hn | hn
  ·rw [List.getElem?_append_left hn] at q1
   rw [List.getElem?_append_left (by omega)] at q2
   rw [if_neg (by omega)];exact h2 n r' p q1 q2 i
  ·have hnl:=(List.getElem?_eq_some_iff.1 q1).1
   simp at hnl
   obtain rfl : n = refs.length:=by omega
   rw [if_pos rfl]
   rw [List.getElem?_append_right (by omega),h1] at q2
   simp at q2
   subst q2
   rfl
 ·have:=outF_push (ms.map Prod.fst) b
  rw [List.length_map,h1] at this
  rw [this]
  have e : mapsS (ms ++ [(b,fun _=>none)]) = mapsS ms ++ [(b,.obj (MapO Tryz.prog 33 fun _=>none))]:=by simp [mapsS]
  have e2 : (ms ++ [(b,fun _=>none)] : List (Nat × Cnt)).map Prod.fst = ms.map Prod.fst ++ [b]:=by simp
  rw [e,e2]
  exact List.Perm.cons _ (List.perm_append_singleton _ _).symm
def cE (x : Sch) (w : Wd) (s : Sb) (n : Nat) (i : Int) : Int:=match (refsOf x)[n]? with
 | some r=>countE w s r i
 | none=>0
def CS (x : Sch) (w : Wd) (s : Sb) (v : Value) (bl : Nat) (σ : Store) : Prop:=∃ σs R J,RS s v σs ∧ MP (refsOf x) (cE x w s) bl R ∧ σ.Perm (σs ++ (R ++ J))
abbrev stC (x : Sch) (w : Wd) (v : Value) (bl : Nat) : List D:=[slRf (refsOf x),slW w,.v v,.v (.map (some bl))]
end
section
open Go Go.Maps Go.MapKept
theorem ACall.vs2 {P : Program} {f : FuncId} {args : List D} {σ : Store} {R R' : D → Store → Prop} (h : ACall P f args σ R) (k : ∀ d s,R d s → ∃ d' s',Vs s d s' d' ∧ R' d' s') : ACall P f args σ R':=
 ⟨h.ent,fun w X vs hv hs=>(h.run w X vs hv hs).mono fun e w' ⟨u,d,s,g1,g2,g3,g4,g5⟩=>by
  obtain ⟨d',s',q1,q2⟩:=k d s g2
  obtain ⟨q3,q4⟩:=q1.run w' X u g4 g3
  exact ⟨u,d',s',g1,q2,q4,q3,g5.fewer q1.sub⟩⟩
def cTo (w : Wd) (s : Sb) (r : Rf) (j : Nat) (i : Int) : Nat:=(List.range j).countP fun jj=>keptB s r.kind jj && decide (valOf w r.kind jj r.field = i)
theorem cTo_succ (w : Wd) (s : Sb) (r : Rf) (j : Nat) (i : Int) : cTo w s r (j + 1) i = cTo w s r j i + (if keptB s r.kind j = true ∧ valOf w r.kind j r.field = i then 1 else 0):=by
 unfold cTo
 rw [List.range_succ,List.countP_append]
 simp
theorem cTo_le (w : Wd) (s : Sb) (r : Rf) (j : Nat) (i : Int) : cTo w s r j i ≤ j:=by
 have:=List.countP_le_length (p:=fun jj=>keptB s r.kind jj && decide (valOf w r.kind jj r.field = i)) (l:=List.range j)
 simpa [cTo] using this
theorem cTo_all {w : Wd} {s : Sb} {r : Rf} {l : List (List Int)} (h : w[r.kind]? = some l) (i : Int) : cTo w s r l.length i = countE w s r i:=by
 unfold cTo countE
 rw [getD_get h]
theorem ref_key {x : Sch} {w : Wd} {s : Sb} (hF : Fit x w s) {r : Rf} (hr : r ∈ refsOf x) : (Lit.int .i64 r.up).wf = true:=by
 obtain ⟨u1,u2,u3⟩:=hF.snd.up r hr
 have:=hF.snd.vld.nk
 exact wf64 (by omega) (by omega)
theorem sb80 {A B : Prop} (k : B) (h : Hd7 B → A:=by intro hk7q;(first | (with_reducible refine Bc.l ?_) | (with_reducible refine Bx.l ?_) | ((with_reducible refine Dr.l ?h ?_);(case h=>decide +kernel)) | (with_reducible refine Dr.r ?_) | ((with_reducible refine Cb.go ?h ?_);(case h=>decide +kernel)));exact hk7q.run) : A:=h ⟨k⟩
theorem sk81 {A B : Prop} (k : B) (h : Hd7 B → A:=by intro hk7q;(first | refine sb0 ?_ | refine sb80 ?_ | ((with_reducible refine' Cp.by ?hc ?_);(case hc=>exact HR)) | ((with_reducible refine' CE.pure ?hc ?_);(case hc=>exact HR)));exact hk7q.run) : A:=h ⟨k⟩
theorem cl_begun (x : Sch) (w : Wd) (s : Sb) (hF : Fit x w s) : ACall Tryz.prog 40 [schD x,slW w,slS2 s] [] (fun d σ=>∃ a c bl,d = .ro (stC x w (.slice a s.length c) bl) ∧ CS x w s (.slice a s.length c) bl σ):=by
 have HR:=cl_refs x hF.snd.vld
 have hsl:=hF.ss.nk
 have hwl:=hF.ws.nk
 have hrl:=refs_len hF.snd.vld
 refine enterX mixed tget_ok Tryz.func40 (by kernel_rfl) rfl Tryz.ntmps40 rfl ?_;intro BB
 repeat' (first | refine sk81 ?_ | (intro b;conv=>whnf))
 refine CE.own (cl_copied s hF.ss) (List.Perm.refl []) (fun s'=>s') (fun s'=>by simp) ?_
 rintro _ σs ⟨v,rfl,hR⟩
 obtain ⟨a,c,rfl⟩:=hR.slice
 repeat' (first | refine sk81 ?_ | (intro b;conv=>whnf))
 refine OtE.makeMap (k:=3) rfl (fun bl=>?_)
 repeat' (first | refine sk81 ?_ | (intro b;conv=>whnf))
 refine lp_loopd mixed tget_ok (γ:=Nat × Store) (fun g=>[(25,iD g.1)]) (fun g=>g.2) (fun g=>g.1 ≤ (refsOf x).length ∧ ∃ R J,MP ((refsOf x).take g.1) (cE x w s) bl R ∧ g.2.Perm (σs ++ (R ++ J))) (fun g=>(refsOf x).length - g.1) (0,(bl,.obj (MapO Tryz.prog 3 fun _=>none)) :: σs) (chk_of cl2) cl3 ⟨Nat.zero_le _,_,[],MP.nil _ bl,by rw [List.append_nil];exact (List.perm_append_singleton _ _).symm⟩ ?_
 rintro ⟨q,σ⟩ ⟨hq,R,J,hM,hp⟩
 simp only at hq hM hp ⊢
 by_cases hql : q < (refsOf x).length
 ·obtain ⟨r,hr⟩ : ∃ r,(refsOf x)[q]? = some r:=⟨_,List.getElem?_eq_getElem hql⟩
  have hr' : (refsOf x)[((q : Nat) : Int).toNat]? = some r:=hr
  have hrm:=List.mem_of_getElem? hr
  obtain ⟨u1,u2,u3⟩:=hF.snd.up r hrm
  have hkl : r.kind < w.length:=by have:=(fits_inv hF.fit).1;omega
  obtain ⟨l,hl⟩ : ∃ l,w[r.kind]? = some l:=⟨_,List.getElem?_eq_getElem hkl⟩
  have hl' : w[((r.kind : Nat) : Int).toNat]? = some l:=hl
  obtain ⟨t,ht,htl⟩:=lens_get hF.shp hl
  have ht' : s[((r.kind : Nat) : Int).toNat]? = some t:=ht
  have hll:=hF.ws.nr l (List.mem_of_getElem? hl)
  obtain ⟨G,ρ,hG,hpush⟩:=hM.push r
  have hlen : ((refsOf x).take q).length = q:=by rw [List.length_take];omega
  rw [hlen] at hpush
  repeat' (first | refine sk81 ?_ | (intro b;conv=>whnf))
  refine OtE.makeMap (k:=33) rfl (fun bn=>?_)
  repeat' (first | refine sk81 ?_ | (intro b;conv=>whnf))
  refine OtE.mapUpdate (b:=bl) (F:=G) (k:=3) (e:=116) (kl:=.int .i64 q) (τ:=(bn,.obj (MapO Tryz.prog 33 fun _=>none)) :: (b,.cells 121 (rfC r)) :: (ρ ++ (σs ++ J))) rfl rfl (KeyD.v _) rfl ?_ int_keyed' Tryz.underlying132 (int_key (wf64 (by omega) (by omega))) ?_
  ·(refine perm_ct fun a=>?_;have e1:=And.intro (ct_perm hp a) (ct_perm hG a);simp only [List.append_eq,List.nil_append,ct_cons,ct_app,ct_nil,rfC,atC,iD,bD] at e1 ⊢;omega)
  repeat' (first | refine sk81 ?_ | (intro b;conv=>whnf))
  have hM0:=hpush bn
  have htk : (refsOf x).take (q + 1) = (refsOf x).take q ++ [r]:=take_succ_get hr
  rw [← htk] at hM0
  refine lp_loopd mixed tget_ok (γ:=Nat × Store) (fun g=>[(42,iD g.1)]) (fun g=>g.2) (fun g=>g.1 ≤ l.length ∧ ∃ R J,MP ((refsOf x).take (q + 1)) (fun n i=>if n = q then cTo w s r g.1 i else cE x w s n i) bl R ∧ g.2.Perm ((b,.cells 121 (rfC r)) :: (σs ++ (R ++ J)))) (fun g=>l.length - g.1) (0,_) (chk_of cl2) cl3 ⟨Nat.zero_le _,_,J,hM0.cong (fun n i _=>by by_cases e : n = q <;> simp [e,cTo]),by (refine perm_ct fun a=>?_;simp only [List.append_eq,List.nil_append,ct_cons,ct_app,ct_nil,rfC,atC,iD,bD];omega)⟩ ?_
  rintro ⟨j,σ2⟩ ⟨hj,R2,J2,hM2,hp2⟩
  simp only at hj hM2 hp2 ⊢
  have m9 : (b,Blk.cells 121 (rfC r)) ∈ σ2:=hp2.mem_iff.2 (by simp)
  by_cases hjl : j < l.length
  ·obtain ⟨y,hy⟩ : ∃ y,l[j]? = some y:=⟨_,List.getElem?_eq_getElem hjl⟩
   have hy' : l[((j : Nat) : Int).toNat]? = some y:=hy
   obtain ⟨kb,hkb⟩ : ∃ kb,t[j]? = some kb:=⟨_,List.getElem?_eq_getElem (by omega)⟩
   have hkb' : t[((j : Nat) : Int).toNat]? = some kb:=hkb
   obtain ⟨v,z,tz,g1,g2,g3,g4,g5,g6,g7⟩:=fit_ref hF hrm hl hy
   have g1' : y[((r.field : Nat) : Int).toNat]? = some v:=g1
   have hkk:=kept_of ht hkb
   have htz:=hF.ss.nr tz (List.mem_of_getElem? g5)
   obtain ⟨bm,Fm,G2,ρ2,hG2,hgq,hcnt,hset⟩:=hM2.get (show ((refsOf x).take (q + 1))[q]? = some r by rw [htk,List.getElem?_append_right (by rw [hlen];omega),hlen];simp)
   cases kb with
   | false=>
    repeat' (first | refine sk81 ?_ | (intro b;conv=>whnf) | ((with_reducible refine' Ld.cellm m9 ?h2 ?_);(case h2=>exact rfl)))
    have hst : ∀ i,cTo w s r (j + 1) i = cTo w s r j i:=fun i=>by rw [cTo_succ,hkk];simp
    exact ⟨(j + 1,σ2),(chk_of cl2),cl3,⟨by simp only;omega,R2,J2,by simp only [hst];exact hM2,hp2⟩,by simp only;omega⟩
   | true=>
    repeat' (first | refine sk81 ?_ | (intro b;conv=>whnf) | ((with_reducible refine' Ld.cellm m9 ?h2 ?_);(case h2=>exact rfl)))
    have hp3 : σ2.Perm ((bl,.obj (MapO Tryz.prog 3 G2)) :: (bm,.obj (MapO Tryz.prog 33 Fm)) :: ((b,.cells 121 (rfC r)) :: (ρ2 ++ (σs ++ J2)))):=by (refine perm_ct fun a=>?_;have e1:=And.intro (ct_perm hp2 a) (ct_perm hG2 a);simp only [List.append_eq,List.nil_append,ct_cons,ct_app,ct_nil,rfC,atC,iD,bD] at e1 ⊢;omega)
    have ml : (bl,Blk.obj (MapO Tryz.prog 3 G2)) ∈ σ2:=hp3.mem_iff.2 (by simp)
    have mm : (bm,Blk.obj (MapO Tryz.prog 33 Fm)) ∈ σ2:=hp3.mem_iff.2 (by simp)
    have hc0 : (Fm (atV r.up v)).getD (.int .i64 0) = .int .i64 (cTo w s r j v):=by have:=hcnt v;simp only [if_true] at this;exact this
    obtain ⟨kl,hkl⟩:=at_key (ref_key hF hrm) (show (Lit.int .i64 v).wf = true from wf64 (by omega) (by omega))
    have hp4 : σ2.Perm ((bm,.obj (MapO Tryz.prog 33 Fm)) :: ((bl,.obj (MapO Tryz.prog 3 G2)) :: (b,.cells 121 (rfC r)) :: (ρ2 ++ (σs ++ J2)))):=by (refine perm_ct fun a=>?_;have e1:=ct_perm hp3 a;simp only [List.append_eq,List.nil_append,ct_cons,ct_app,ct_nil,rfC,atC,iD,bD] at e1 ⊢;omega)
    have hle:=cTo_le w s r j v
    have hfin : ∃ R J,MP ((refsOf x).take (q + 1)) (fun n i=>if n = q then cTo w s r (j + 1) i else cE x w s n i) bl R ∧ ((bm,Blk.obj (MapO Tryz.prog 33 (updF (updF Fm (atV r.up v) (.int .i64 (cTo w s r j v))) (atV r.up v) (.int .i64 (cTo w s r j v + 1))))) :: ((bl,.obj (MapO Tryz.prog 3 G2)) :: (b,.cells 121 (rfC r)) :: (ρ2 ++ (σs ++ J2)))).Perm ((b,.cells 121 (rfC r)) :: (σs ++ (R ++ J))):=by
     refine ⟨_,J2,(hset (updF (updF Fm (atV r.up v) (.int .i64 (cTo w s r j v))) (atV r.up v) (.int .i64 (cTo w s r j v + 1))) (fun i=>cTo w s r (j + 1) i) (fun i=>?_)).cong (fun n i _=>by by_cases e : n = q <;> simp [e]),by (refine perm_ct fun a=>?_;simp only [List.append_eq,List.nil_append,ct_cons,ct_app,ct_nil,rfC,atC,iD,bD];omega)⟩
     rw [cnt_upd,cnt_upd,cTo_succ,hkk,g2]
     by_cases e : i = v
     ·subst e;simp
     ·have hci:=hcnt i
      simp only [if_true] at hci
      rw [if_neg e,if_neg e,hci,if_neg (by rintro ⟨_,e2⟩;exact e e2.symm)]
      simp
    refine Dm.r ?_
    refine W.mk ?_
    refine lp_ord mixed tget_ok rfl [0,1,2,3,4,5,6,7,8,9,10,11,12,13] 5 (.two 14 (.two 15 (.one 16 (.one 17 (.one 18 .done))) 16 (.two 15 (.one 17 (.one 18 .done)) 17 (.one 15 (.one 18 .done)))) 16 (.two 14 (.two 15 (.one 17 (.one 18 .done)) 17 (.one 15 (.one 18 .done))) 17 (.one 14 (.one 15 (.one 18 .done))))) (γ:=Value × Store) (fun g=>[(69,iD (cTo w s r j v)),(70,iD (cTo w s r j v + 1)),(71,.tup [iD (cTo w s r j v),.v g.1]),(72,.v g.1)]) (fun g=>g.2) (fun g=>∃ R J,MP ((refsOf x).take (q + 1)) (fun n i=>if n = q then cTo w s r (j + 1) i else cE x w s n i) bl R ∧ g.2.Perm ((b,.cells 121 (rfC r)) :: (σs ++ (R ++ J)))) (by decide +kernel) ?_ ?_
    ·repeat' (first | refine sk81 ?_ | (intro b;conv=>whnf) | ((with_reducible refine' Ld.cellm m9 ?h2 ?_);(case h2=>exact rfl)))
     refine Ot.yd (yd_lookup2 (u:=.map (some bm)) rfl rfl (KeyD.v _) ml (fun _ h=>h) int_keyed' Tryz.underlying132 zero_map (int_key (wf64 (by omega) (by omega))) (by rw [hgq];rfl)) ?_
     repeat' (first | refine sk81 ?_ | (intro b;conv=>whnf) | ((with_reducible refine' Ld.cellm m9 ?h2 ?_);(case h2=>exact rfl)))
     repeat' (first | refine sk81 ?_ | (intro b;conv=>whnf) | ((with_reducible refine' Ld.cellm m9 ?h2 ?_);(case h2=>exact rfl)) | (refine And.intro ?_ ?_ <;> (conv=>whnf)) | (refine OtE.yd rfl (yd_lookup2 (kv:=atV r.up v) (u:=.int .i64 (cTo w s r j v)) rfl rfl (KeyD.agg2 _ _) mm (fun _ h=>h) at_keyed Tryz.underlying116 zero_int hkl hc0) ?_) | (refine OtE.yd rfl (yd_lookup2 (kv:=atV r.up v) (u:=.int .i64 (cTo w s r j v)) rfl rfl (KeyD.agg2 _ _) (List.mem_cons_self) (fun _ h=>h.is) at_keyed Tryz.underlying116 zero_int hkl (updF_at _ _ _ _)) ?_) | (refine OtE.mapEntry2 (kv:=atV r.up v) (u:=.int .i64 (cTo w s r j v)) rfl rfl (KeyD.agg2 _ _) hp4 (fun _ h=>h) at_keyed Tryz.underlying116 zero_int hkl hc0 (fun st=>?_)) | (refine OtE.entryStore (kv:=atV r.up v) (xv:=.int .i64 (cTo w s r j v + 1)) rfl rfl rfl rfl (List.Perm.refl _) hkl ?_))
     all_goals exact ⟨(st,_),(chk_of cl2),rfl,hfin⟩
    ·rintro ⟨st,σ3⟩ ⟨R3,J3,hM3,hp3'⟩
     simp only at hM3 hp3' ⊢
     repeat' (first | refine sk81 ?_ | (intro b;conv=>whnf) | ((with_reducible refine' Ld.cellm m9 ?h2 ?_);(case h2=>exact rfl)))
     exact ⟨(j + 1,σ3),(chk_of cl2),cl3,⟨by simp only;omega,R3,J3,hM3,hp3'⟩,by simp only;omega⟩
  ·obtain rfl : j = l.length:=by omega
   repeat' (first | refine sk81 ?_ | (intro b;conv=>whnf) | ((with_reducible refine' Ld.cellm m9 ?h2 ?_);(case h2=>exact rfl)))
   exact ⟨(q + 1,σ2),(chk_of cl2),cl3,⟨by simp only;omega,R2,_,hM2.cong (fun n i hn=>by
    by_cases e : n = q
    ·subst e;rw [if_pos rfl,cTo_all hl];simp [cE,hr]
    ·rw [if_neg e]),hp2.trans (show List.Perm _ (σs ++ (R2 ++ (J2 ++ [(b,.cells 121 (rfC r))]))) by (refine perm_ct fun a=>?_;simp only [List.append_eq,List.nil_append,ct_cons,ct_app,ct_nil,rfC,atC,iD,bD];omega))⟩,by simp only;omega⟩
 ·obtain rfl : q = (refsOf x).length:=by omega
  rw [List.take_length] at hM
  repeat' (first | refine sk81 ?_ | (intro b;conv=>whnf))
  exact Rt.same ⟨_,_,bl,rfl,σs,R,J,hR,hM,hp⟩
end
end Go.Proofs.YtjbbmjjildhfbaaGreatDoor
namespace Go.Proofs
open Go.Shelf
def Tryz.lays169_ren : Go.Shelf.Ren:=⟨fun | 169=>142 | n=>n,fun | 70=>203 | 9=>9 | 0=>0 | 72=>206 | 37=>204 | 127=>230 | 3=>3 | 5=>5 | n=>n,fun | n=>n⟩
theorem Tryz.lays169 : Go.Proofs.Lays.n169 Tryz.prog Tryz.lays169_ren:={
 mixed:=by kernel_rfl
 f169:=Tryz.func142.trans (congrArg some (by kernel_rfl))
 t0:=Tryz.underlying0
 a0:=Tryz.isAgg0
 z0:=Tryz.sizeOf0
 v0:=Tryz.zeroValue0
 t3:=Tryz.underlying3
 a3:=Tryz.isAgg3
 z3:=Tryz.sizeOf3
 v3:=Tryz.zeroValue3
 t9:=Tryz.underlying9
 a9:=Tryz.isAgg9
 z9:=Tryz.sizeOf9
 v9:=Tryz.zeroValue9
 t37:=Tryz.underlying204
 a37:=Tryz.isAgg204
 z37:=Tryz.sizeOf204
 v37:=Tryz.zeroValue204
 t70:=Tryz.underlying203
 a70:=Tryz.isAgg203
 z70:=Tryz.sizeOf203
 v70:=Tryz.zeroValue203
 t72:=Tryz.underlying206
 a72:=Tryz.isAgg206
 z72:=Tryz.sizeOf206
 v72:=Tryz.zeroValue206
 t127:=Tryz.underlying230
 a127:=Tryz.isAgg230
 z127:=Tryz.sizeOf230
 v127:=Tryz.zeroValue230 }
theorem Tryz.Builder_Extra_169 : Builder.Extra Tryz.prog Tryz.lays169_ren:={
 sizeBuilder:=by kernel_rfl
 liesBuilder:=by kernel_rfl
 t5:=Tryz.underlying5
 a5:=Tryz.isAgg5
 z5:=Tryz.sizeOf5
 v5:=Tryz.zeroValue5
 infoByte:=by kernel_rfl
 cellsByte:=by kernel_rfl
 sizeByte:=by kernel_rfl
 neB5:=by decide }
open Go.RowKit in
theorem Tryz.Builder_String_any (B b : Nat) (l : List UInt8) (w : World) (h : Lib.IsBuilder 206 5 B b (Lib.byteCells l) w) (hBw : B ≤ w.heap.size) :
  Calls Tryz.prog 142 #[.pointer (some ⟨b,0,none⟩)] w fun e w'=>e = .returned (.string ⟨l.toArray⟩) ∧ Below B w w':=Any.Builder_String_any Tryz.lays169 Tryz.Builder_Extra_169 B b l w h hBw
def Tryz.laysM246_ren : Go.Shelf.Ren:=⟨fun | 246=>182 | 283=>183 | 284=>184 | 285=>185 | 286=>186 | 129=>188 | 317=>187 | 318=>189 | 319=>190 | 320=>191 | 337=>192 | 338=>193 | n=>n,fun | 2=>2 | 3=>3 | 9=>9 | 4=>4 | 171=>241 | 0=>0 | 53=>175 | 37=>204 | 5=>5 | 173=>244 | 212=>247 | 51=>172 | 20=>20 | 213=>248 | 46=>143 | 232=>252 | 233=>253 | n=>n,fun | 17=>2 | 18=>3 | 19=>4 | n=>n⟩
def Tryz.laysM243_ren : Go.Shelf.Ren:=⟨fun | 243=>181 | 246=>182 | 283=>183 | 284=>184 | 285=>185 | 286=>186 | 129=>188 | 317=>187 | 318=>189 | 319=>190 | 320=>191 | 337=>192 | 338=>193 | n=>n,fun | 3=>3 | 9=>9 | 2=>2 | 4=>4 | 171=>241 | 0=>0 | 53=>175 | 37=>204 | 5=>5 | 173=>244 | 212=>247 | 51=>172 | 20=>20 | 213=>248 | 46=>143 | 232=>252 | 233=>253 | n=>n,fun | 17=>2 | 18=>3 | 19=>4 | n=>n⟩
def Tryz.laysM171_ren : Go.Shelf.Ren:=⟨fun | 171=>167 | 243=>181 | 246=>182 | 283=>183 | 284=>184 | 285=>185 | 286=>186 | 129=>188 | 317=>187 | 318=>189 | 319=>190 | 320=>191 | 337=>192 | 338=>193 | n=>n,fun | 3=>3 | 9=>9 | 2=>2 | 4=>4 | 171=>241 | 0=>0 | 53=>175 | 37=>204 | 5=>5 | 173=>244 | 212=>247 | 51=>172 | 20=>20 | 213=>248 | 46=>143 | 232=>252 | 233=>253 | n=>n,fun | 17=>2 | 18=>3 | 19=>4 | n=>n⟩
theorem Tryz.laysM171 : Go.Proofs.LaysM.n171 Tryz.prog Tryz.laysM171_ren:={
 mixed:=by kernel_rfl
 f129:=Tryz.func188.trans (congrArg some (by kernel_rfl))
 f171:=Tryz.func167.trans (congrArg some (by kernel_rfl))
 f243:=Tryz.func181.trans (congrArg some (by kernel_rfl))
 f246:=Tryz.func182.trans (congrArg some (by kernel_rfl))
 f283:=Tryz.func183.trans (congrArg some (by kernel_rfl))
 f284:=Tryz.func184.trans (congrArg some (by kernel_rfl))
 f285:=Tryz.func185.trans (congrArg some (by kernel_rfl))
 f286:=Tryz.func186.trans (congrArg some (by kernel_rfl))
 f317:=Tryz.func187.trans (congrArg some (by kernel_rfl))
 f318:=Tryz.func189.trans (congrArg some (by kernel_rfl))
 f319:=Tryz.func190.trans (congrArg some (by kernel_rfl))
 f320:=Tryz.func191.trans (congrArg some (by kernel_rfl))
 f337:=Tryz.func192.trans (congrArg some (by kernel_rfl))
 f338:=Tryz.func193.trans (congrArg some (by kernel_rfl))
 t0:=Tryz.underlying0
 a0:=Tryz.isAgg0
 z0:=Tryz.sizeOf0
 v0:=Tryz.zeroValue0
 t2:=Tryz.underlying2
 a2:=Tryz.isAgg2
 z2:=Tryz.sizeOf2
 v2:=Tryz.zeroValue2
 t3:=Tryz.underlying3
 a3:=Tryz.isAgg3
 z3:=Tryz.sizeOf3
 v3:=Tryz.zeroValue3
 t4:=Tryz.underlying4
 a4:=Tryz.isAgg4
 z4:=Tryz.sizeOf4
 v4:=Tryz.zeroValue4
 t5:=Tryz.underlying5
 a5:=Tryz.isAgg5
 z5:=Tryz.sizeOf5
 v5:=Tryz.zeroValue5
 t9:=Tryz.underlying9
 a9:=Tryz.isAgg9
 z9:=Tryz.sizeOf9
 v9:=Tryz.zeroValue9
 t20:=Tryz.underlying20
 a20:=Tryz.isAgg20
 z20:=Tryz.sizeOf20
 v20:=Tryz.zeroValue20
 t37:=Tryz.underlying204
 a37:=Tryz.isAgg204
 z37:=Tryz.sizeOf204
 v37:=Tryz.zeroValue204
 t46:=Tryz.underlying143
 a46:=Tryz.isAgg143
 z46:=Tryz.sizeOf143
 v46:=Tryz.zeroValue143
 t51:=Tryz.underlying172
 a51:=Tryz.isAgg172
 z51:=Tryz.sizeOf172
 v51:=Tryz.zeroValue172
 t53:=Tryz.underlying175
 a53:=Tryz.isAgg175
 z53:=Tryz.sizeOf175
 v53:=Tryz.zeroValue175
 t171:=Tryz.underlying241
 a171:=Tryz.isAgg241
 z171:=Tryz.sizeOf241
 v171:=Tryz.zeroValue241
 t173:=Tryz.underlying244
 a173:=Tryz.isAgg244
 z173:=Tryz.sizeOf244
 v173:=Tryz.zeroValue244
 t212:=Tryz.underlying247
 a212:=Tryz.isAgg247
 z212:=Tryz.sizeOf247
 v212:=Tryz.zeroValue247
 t213:=Tryz.underlying248
 a213:=Tryz.isAgg248
 z213:=Tryz.sizeOf248
 t232:=Tryz.underlying252
 a232:=Tryz.isAgg252
 z232:=Tryz.sizeOf252
 v232:=Tryz.zeroValue252
 t233:=Tryz.underlying253
 a233:=Tryz.isAgg253
 z233:=Tryz.sizeOf253
 v233:=Tryz.zeroValue253
 g17:=by kernel_rfl
 g18:=by kernel_rfl
 g19:=by kernel_rfl
 i0:=by kernel_rfl
 i2:=by kernel_rfl
 i3:=by kernel_rfl
 i4:=by kernel_rfl
 i5:=by kernel_rfl
 i9:=by kernel_rfl
 i20:=by kernel_rfl
 i37:=by kernel_rfl
 i46:=by kernel_rfl
 i51:=by kernel_rfl
 i53:=by kernel_rfl
 i171:=by kernel_rfl
 i173:=by kernel_rfl
 i212:=by kernel_rfl
 i232:=by kernel_rfl
 i233:=by kernel_rfl
 m17:=by kernel_rfl
 m18:=by kernel_rfl
 m19:=by kernel_rfl }
open Go.RowKit Go.Sort Go.Lib in
theorem Tryz.strconv_Itoa (n : Int) (h0 : -9223372036854775808 ≤ n) (h1 : n ≤ 9223372036854775807) (w : World) (htab : Lib.TabIs Tryz.prog w "internal/strconv.uint64pow10" .u64 Lib.pow10Tab) :
  Calls Tryz.prog 167 #[.int .i64 n] w fun e w'=>e = .returned (.string ⟨(Lib.itoa n).toArray⟩) ∧ ∃ k os,w' = grow (w.drewN k) os:=Any.strconv_Itoa Tryz.laysM171 n h0 h1 w htab
def Tryz.lays212_ren : Go.Shelf.Ren:=⟨fun | 212=>76 | 263=>99 | 264=>100 | n=>n,fun | 46=>143 | 51=>172 | 146=>173 | 53=>175 | 148=>176 | n=>n,fun | n=>n⟩
theorem Tryz.lays212 : Go.Proofs.Lays.n212 Tryz.prog Tryz.lays212_ren:={
 mixed:=by kernel_rfl
 f212:=Tryz.func76.trans (congrArg some (by kernel_rfl))
 f263:=Tryz.func99.trans (congrArg some (by kernel_rfl))
 f264:=Tryz.func100.trans (congrArg some (by kernel_rfl))
 t46:=Tryz.underlying143
 a46:=Tryz.isAgg143
 z46:=Tryz.sizeOf143
 v46:=Tryz.zeroValue143
 t51:=Tryz.underlying172
 a51:=Tryz.isAgg172
 z51:=Tryz.sizeOf172
 v51:=Tryz.zeroValue172
 t53:=Tryz.underlying175
 a53:=Tryz.isAgg175
 z53:=Tryz.sizeOf175
 v53:=Tryz.zeroValue175
 t146:=Tryz.underlying173
 a146:=Tryz.isAgg173
 z146:=Tryz.sizeOf173
 v146:=Tryz.zeroValue173
 t148:=Tryz.underlying176
 a148:=Tryz.isAgg176
 z148:=Tryz.sizeOf176
 v148:=Tryz.zeroValue176 }
open Go.RowKit Go.Lib in
theorem Tryz.bits_Mul (x y : Nat) (hx : x < 18446744073709551616) (hy : y < 18446744073709551616) (w : World) :
  Calls Tryz.prog 76 #[.int .u64 x,.int .u64 y] w fun e w'=>e = .returned (.tuple #[.int .u64 ((x * y / 18446744073709551616 : Nat) : Int),.int .u64 ((x * y % 18446744073709551616 : Nat) : Int)]) ∧ w' = w:=Any.bits_Mul Tryz.lays212 x y hx hy w
end Go.Proofs
namespace Go.Proofs.YtjbbmjjildhfbaaGreatDoor
end Go.Proofs.YtjbbmjjildhfbaaGreatDoor
