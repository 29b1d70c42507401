/- A part of the proof: Tf Ke Kf Kg Po. -/
import Derived.Test.YtjbbmjjildhfbaaGreatDoorU15
set_option maxRecDepth 100000
set_option maxHeartbeats 4000000
set_option linter.unusedVariables false
set_option linter.unusedSimpArgs false
namespace Go.Proofs.YtjbbmjjildhfbaaGreatDoor
section
open Go
theorem ty_add (b : Nat) (l : List Prb) (v : Value) (s : Store) (k f r e : Int) (hr : RowIs 150 4 (l.map prbC) v s) (hl : l.length ≤ 1000000) :
  ACall Tryz.prog 82 [iD k,iD f,iD r,iD e,.v (.pointer (some ⟨b,0,none⟩))] ((b,.cells 128 [.v v]) :: s)
   (fun d σ'=>∃ v' s',d = .v (.tuple #[]) ∧ σ' = (b,.cells 128 [.v v']) :: s' ∧ RowIs 150 4 ((l ++ one k f r e).map prbC) v' s'):=by
 obtain ⟨a,c,rfl⟩:=hr.slice
 refine enterX mixed tget_ok Tryz.func82 (by kernel_rfl) rfl Tryz.ntmps82 rfl ?_;intro BB
 repeat' (first | refine sk2 ?_ | (intro b;conv=>whnf) | (with_reducible refine Br.d (fun hc=>?_) (fun hc=>?_)) | (with_reducible refine Br.b (fun hc=>?_) (fun hc=>?_)))
 ·refine Rt.same ⟨_,s,rfl,rfl,?_⟩
  unfold one;rw [if_pos (by omega)];simpa using hr
 ·refine Ap.go rfl rfl rfl rfl hr (perm1 _ _) rfl (zs:=(l ++ one k f r e).map prbC) (by unfold one;rw [if_neg (by omega)];simp [prbC]) (by simp [one];split <;> simp <;> omega) (by simp [one];split <;> simp <;> omega) (fun s'=>_ :: s') (perm1' _) (fun a' c' s' hr'=>?_)
  repeat' (first | refine sk2 ?_ | (intro b;conv=>whnf))
  exact Rt.same ⟨_,s',rfl,rfl,hr'⟩
theorem ty_check2' (y l : Lif) : APure Tryz.prog 84 [lifD y,.ro (lifC l)] (bD (seq y.name l.name)):=by
 refine APure.of_call (enterX mixed tget_ok Tryz.func84 (by kernel_rfl) rfl Tryz.ntmps84 rfl ?_);intro BB
 repeat' (first | refine sk2 ?_ | (intro b;conv=>whnf))
 refine Rt.pure (congrArg bD ?_);rfl
theorem yd_look2 {ρ : Operand → D} {σ : Store} {o : Oper} {x i : Operand} {m n : Int} (ho : o.op = .lookup 161 x i true) (hx : ρ x = .gl 0) (hi : ρ i = .v (.int .i64 m)) (hm : m = n) (hn : 0 ≤ n ∧ n ≤ 8) :
  Yd Tryz.prog o ρ σ (.tup [chkD n,.v (.bool (chkB n))]):=by subst hm;exact yd_look ho hx hi hn
theorem kind8 {x : Sch} (hV : Vld x) {k : Knd} {f : Fld} (hk : k ∈ x.kinds) (hf : f ∈ k.fields) : 0 ≤ f.kind ∧ f.kind ≤ 8:=by
 have h1:=hV.kinds k hk
 simp only [isKindB,Bool.and_eq_true,List.all_eq_true] at h1
 have h2:=h1.2 f hf
 simp only [isFieldB,Bool.and_eq_true] at h2
 have h3:=h2.2
 unfold kindB at h3
 repeat (split at h3;omega)
 cases h3
theorem perm3 (x y z : Nat × Blk) (s : Store) : (x :: y :: z :: s).Perm (s ++ [x,y,z]):=List.perm_append_comm (l₁:=[x,y,z]) (l₂:=s)
theorem perm3' (x y z : Nat × Blk) (s : Store) : (s ++ [x,y,z]).Perm (x :: y :: z :: s):=(perm3 x y z s).symm
theorem sk69 {A B : Prop} (k : B) (h : Hd7 B → A:=by intro hk7q;(first | refine sb0 ?_ | refine sb1 ?_ | ((with_reducible refine' Cp.by ?hc ?_);(case hc=>first | exact ty_first1 _ _ | exact ty_first2 _ _ _ _ | exact ty_first4 _ _ _ _ _ _ _ _ | exact HV | exact ty_kindE _ _ _ (by assumption) (by assumption) | exact ty_field _ _ (by assumption) | exact HC | exact ty_ruleE _ _ _ (by assumption) (by assumption) (by assumption) (by assumption))) | ((with_reducible refine' CE.pure ?hc ?_);(case hc=>first | exact ty_first1 _ _ | exact ty_first2 _ _ _ _ | exact ty_first4 _ _ _ _ _ _ _ _ | exact HV | exact ty_kindE _ _ _ (by assumption) (by assumption) | exact ty_field _ _ (by assumption) | exact HC | exact ty_ruleE _ _ _ (by assumption) (by assumption) (by assumption) (by assumption))));exact hk7q.run) : A:=h ⟨k⟩
theorem ty_check (x : Sch) (HV : APure Tryz.prog 81 [schD x] (iD (validE x))) : APure Tryz.prog 64 [schD x] (.sl 4 ((probs x).map prbC)):=by
 refine APure.of_call (enterX mixed tget_ok Tryz.func64 (by kernel_rfl) rfl Tryz.ntmps64 rfl ?_);intro BB
 repeat' (first | refine sk69 ?_ | (intro b;conv=>whnf) | refine IxM.mk fun y hy=>?_)
 by_cases hv : validE x = 0
 ·have hV:=vld_of0 hv
  have hl : x.kinds.length ≤ 1000000:=by have:=hV.nk;omega
  have hf : ∀ k ∈ x.kinds,k.fields.length ≤ 1000000:=fun k hk=>by have:=hV.nf k hk;omega
  have hll : x.lives.length ≤ 1000000:=by have:=hV.nl;omega
  have hrl : x.rules.length ≤ 1000000:=by have:=hV.nr;omega
  have hP : probs x = upTo x.lives.length (liveP x) ++ upTo x.kinds.length (kindP x) ++ upTo x.rules.length (ruleP x):=by unfold probs;rw [if_pos hv]
  have hnk:=hV.nk
  have hnl:=hV.nl
  have hnr:=hV.nr
  have hnf:=hV.nf
  clear HV
  repeat' (first | refine sk69 ?_ | (intro b;conv=>whnf) | refine IxM.mk fun y hy=>?_)
  generalize b = b4
  refine lp_loopd mixed tget_ok (γ:=Nat × Value × Store) (fun g=>[(28,iD g.1)]) (fun g=>(b4,.cells 128 [.v g.2.1]) :: g.2.2) (fun g=>g.1 ≤ x.lives.length ∧ RowIs 150 4 ((upTo g.1 (liveP x)).map prbC) g.2.1 g.2.2) (fun g=>x.lives.length - g.1) (0,.slice none 0 0,[]) (chk_of cl2) cl3 ⟨Nat.zero_le _,RowIs.nil _ _⟩ ?_
  rintro ⟨q,v,s⟩ ⟨hq,hrow⟩
  simp only at hq hrow ⊢
  repeat' (first | refine sk69 ?_ | (intro b;conv=>whnf) | refine IxM.mk fun y hy=>?_ | (with_reducible refine Br.d (fun hc=>?_) (fun hc=>?_)) | (with_reducible refine Br.b (fun hc=>?_) (fun hc=>?_)))
  ·have hy : x.lives[q]? = some y:=hy
   have hS:=upTo_succ q (liveP x)
   have hlen:=upTo_len (liveP_len x) q
   rw [show liveP x q = one (-1) q (-1) (if liveTwice x q y then 7 else 0) by simp only [liveP,hy]] at hS
   have HR : APure Tryz.prog 83 [.sl 3 ((x.lives.map lifC).take q),.clo 84 [.ro (lifC y)]] (bD (liveTwice x q y)):=by
    rw [← List.map_take];exact any_lif (x.lives.take q) (fun s=>seq s.name y.name) (by simp;omega) (fun z _=>ty_check2' z y)
   refine CE.pk (APk.peek (.cons (Pk.same _) (.cons (Pk.clo (.cons (Pk.ptr (j:=0) rfl (PkL.refl _)) .nil)) .nil)) HR rfl) ?_
   clear HR
   repeat' (first | refine sk69 ?_ | (intro b;conv=>whnf) | refine IxM.mk fun y hy=>?_)
   refine CE.own (ty_add _ (upTo q (liveP x)) _ _ _ _ _ _ (by assumption) (by (try simp only [List.length_append]);omega)) (perm1 _ _) (fun s'=>_ :: s') (perm1' _) ?_;rintro _ _ ⟨v',s',rfl,rfl,hr'⟩
   rw [first1_eq,← hS] at hr'
   repeat' (first | refine sk69 ?_ | (intro b;conv=>whnf) | refine IxM.mk fun y hy=>?_)
   exact ⟨(q + 1,v',s'),(chk_of cl2),cl3,⟨by simp only;omega,hr'⟩,by simp only;omega⟩
  ·obtain rfl : q = x.lives.length:=by omega
   have hlen1:=upTo_len (liveP_len x) x.lives.length
   generalize hL : upTo x.lives.length (liveP x) = L at *
   refine lp_loopd mixed tget_ok (γ:=Nat × Value × Store) (fun g=>[(50,iD g.1)]) (fun g=>(b4,.cells 128 [.v g.2.1]) :: g.2.2) (fun g=>g.1 ≤ x.kinds.length ∧ RowIs 150 4 ((L ++ upTo g.1 (kindP x)).map prbC) g.2.1 g.2.2) (fun g=>x.kinds.length - g.1) (0,v,s) (chk_of cl2) cl3 ⟨Nat.zero_le _,by simpa [upTo] using hrow⟩ ?_
   rintro ⟨q,v,s⟩ ⟨hq,hrow⟩
   simp only at hq hrow ⊢
   have hlen2:=upTo_len (fun i=>kindP_len x i hnf) q
   repeat' (first | refine sk69 ?_ | (intro b;conv=>whnf) | refine IxM.mk fun y hy=>?_ | (with_reducible refine Br.d (fun hc=>?_) (fun hc=>?_)) | (with_reducible refine Br.b (fun hc=>?_) (fun hc=>?_)))
   ·have hy : x.kinds[q]? = some y:=hy
    have hyf:=hnf y (List.mem_of_getElem? hy)
    have hyl : y.fields.length ≤ 1000000:=by omega
    have ho1:=one_len q (-1) (-1) (kindE x q y)
    have hSK:=upTo_succ q (kindP x)
    rw [show kindP x q = one q (-1) (-1) (kindE x q y) ++ upTo y.fields.length (fieldP x q y) by simp only [kindP,hy]] at hSK
    refine CE.own (ty_add _ (L ++ upTo q (kindP x)) _ _ _ _ _ _ (by assumption) (by (try simp only [List.length_append]);omega)) (perm1 _ _) (fun s'=>_ :: s') (perm1' _) ?_;rintro _ _ ⟨v',s',rfl,rfl,hr'⟩
    repeat' (first | refine sk69 ?_ | (intro b;conv=>whnf) | refine IxM.mk fun y hy=>?_)
    refine lp_loopd mixed tget_ok (γ:=Nat × Value × Store) (fun g=>[(64,iD g.1)]) (fun g=>(b,.cells 97 (kndC y)) :: (b4,.cells 128 [.v g.2.1]) :: g.2.2) (fun g=>g.1 ≤ y.fields.length ∧ RowIs 150 4 ((L ++ upTo q (kindP x) ++ one q (-1) (-1) (kindE x q y) ++ upTo g.1 (fieldP x q y)).map prbC) g.2.1 g.2.2) (fun g=>y.fields.length - g.1) (0,v',s') (chk_of cl2) cl3 ⟨Nat.zero_le _,by simpa [upTo] using hr'⟩ ?_
    generalize b = b10
    rintro ⟨j,v,s⟩ ⟨hj,hrow2⟩
    simp only at hj hrow2 ⊢
    have hlen3:=upTo_len (fieldP_len x q y) j
    have hSF:=upTo_succ j (fieldP x q y)
    by_cases hjl : j < y.fields.length
    ·obtain ⟨f,hf0⟩ : ∃ f,y.fields[j]? = some f:=⟨_,List.getElem?_eq_getElem hjl⟩
     have hfa : fieldAt x q j = some f:=by rw [fieldAt_some1 (by omega) (by omega) hy];exact hf0
     rw [show fieldP x q y j = one q j (-1) (fieldE x q y j f) by simp only [fieldP,hf0]] at hSF
     have hk8:=kind8 hV (List.mem_of_getElem? hy) (List.mem_of_getElem? hf0)
     have hg8 : ∀ k ∈ x.kinds,∀ g ∈ k.fields,0 ≤ g.kind ∧ g.kind ≤ 8:=fun k hk g hg=>kind8 hV hk hg
     have hyf0 : y.fields[((j : Nat) : Int).toNat]? = some f:=hf0
     have hk9 : f.kind = 0 ∨ f.kind = 1 ∨ f.kind = 2 ∨ f.kind = 3 ∨ f.kind = 4 ∨ f.kind = 5 ∨ f.kind = 6 ∨ f.kind = 7 ∨ f.kind = 8:=by omega
     by_cases hfx : fieldIx y f.name < (j : Int)
     ·have he : firstC [(decide (fieldIx y f.name < (j : Int)),7)] = 7:=by rw [first1_eq,if_pos (decide_eq_true hfx)]
      have hFE : fieldE x q y j f = 7:=by unfold fieldE;rw [if_pos hfx]
      rw [hFE] at hSF
      rcases hk9 with hk9 | hk9 | hk9 | hk9 | hk9 | hk9 | hk9 | hk9 | hk9
      ·have hcb : chkB 0 = true:=by rfl
       repeat' (first | refine sk69 ?_ | (intro b;conv=>whnf) | refine IxM.mk fun y hy=>?_)
       refine Ld.yd (yd_checks rfl rfl) ?_
       repeat' (first | refine sk69 ?_ | (intro b;conv=>whnf) | refine IxM.mk fun y hy=>?_)
       refine OtE.yd rfl (yd_look2 (n:=0) rfl rfl rfl hk9 (by omega)) ?_
       repeat' (first | refine sk69 ?_ | (intro b;conv=>whnf) | refine IxM.mk fun y hy=>?_)
       refine CE.own (ty_add _ (L ++ upTo q (kindP x) ++ one q (-1) (-1) (kindE x q y) ++ upTo j (fieldP x q y)) _ _ _ _ _ _ (by assumption) (by (try simp only [List.length_append]);omega)) (perm3 _ _ _ _) (fun s'=>_ :: _ :: _ :: s') (perm3' _ _ _) ?_
       rintro _ _ ⟨v',s',rfl,rfl,hr'⟩
       repeat' (first | refine sk69 ?_ | (intro b;conv=>whnf) | refine IxM.mk fun y hy=>?_)
       exact ⟨(j + 1,v',s'),(chk_of cl2),cl3,⟨by simp only;omega,by simp only;rw [hSF,← List.append_assoc];first | exact hr' | (rw [he] at hr';exact hr') | (rw [hFL];exact hr')⟩,by simp only;omega⟩
      ·have hcb : chkB 1 = true:=by rfl
       repeat' (first | refine sk69 ?_ | (intro b;conv=>whnf) | refine IxM.mk fun y hy=>?_)
       refine Ld.yd (yd_checks rfl rfl) ?_
       repeat' (first | refine sk69 ?_ | (intro b;conv=>whnf) | refine IxM.mk fun y hy=>?_)
       refine OtE.yd rfl (yd_look2 (n:=1) rfl rfl rfl hk9 (by omega)) ?_
       repeat' (first | refine sk69 ?_ | (intro b;conv=>whnf) | refine IxM.mk fun y hy=>?_)
       refine CE.own (ty_add _ (L ++ upTo q (kindP x) ++ one q (-1) (-1) (kindE x q y) ++ upTo j (fieldP x q y)) _ _ _ _ _ _ (by assumption) (by (try simp only [List.length_append]);omega)) (perm3 _ _ _ _) (fun s'=>_ :: _ :: _ :: s') (perm3' _ _ _) ?_
       rintro _ _ ⟨v',s',rfl,rfl,hr'⟩
       repeat' (first | refine sk69 ?_ | (intro b;conv=>whnf) | refine IxM.mk fun y hy=>?_)
       exact ⟨(j + 1,v',s'),(chk_of cl2),cl3,⟨by simp only;omega,by simp only;rw [hSF,← List.append_assoc];first | exact hr' | (rw [he] at hr';exact hr') | (rw [hFL];exact hr')⟩,by simp only;omega⟩
      ·have hcb : chkB 2 = false:=by rfl
       repeat' (first | refine sk69 ?_ | (intro b;conv=>whnf) | refine IxM.mk fun y hy=>?_)
       refine Ld.yd (yd_checks rfl rfl) ?_
       repeat' (first | refine sk69 ?_ | (intro b;conv=>whnf) | refine IxM.mk fun y hy=>?_)
       refine OtE.yd rfl (yd_look2 (n:=2) rfl rfl rfl hk9 (by omega)) ?_
       repeat' (first | refine sk69 ?_ | (intro b;conv=>whnf) | refine IxM.mk fun y hy=>?_)
       refine CE.own (ty_add _ (L ++ upTo q (kindP x) ++ one q (-1) (-1) (kindE x q y) ++ upTo j (fieldP x q y)) _ _ _ _ _ _ (by assumption) (by (try simp only [List.length_append]);omega)) (perm3 _ _ _ _) (fun s'=>_ :: _ :: _ :: s') (perm3' _ _ _) ?_
       rintro _ _ ⟨v',s',rfl,rfl,hr'⟩
       repeat' (first | refine sk69 ?_ | (intro b;conv=>whnf) | refine IxM.mk fun y hy=>?_)
       exact ⟨(j + 1,v',s'),(chk_of cl2),cl3,⟨by simp only;omega,by simp only;rw [hSF,← List.append_assoc];first | exact hr' | (rw [he] at hr';exact hr') | (rw [hFL];exact hr')⟩,by simp only;omega⟩
      ·have hcb : chkB 3 = false:=by rfl
       repeat' (first | refine sk69 ?_ | (intro b;conv=>whnf) | refine IxM.mk fun y hy=>?_)
       refine Ld.yd (yd_checks rfl rfl) ?_
       repeat' (first | refine sk69 ?_ | (intro b;conv=>whnf) | refine IxM.mk fun y hy=>?_)
       refine OtE.yd rfl (yd_look2 (n:=3) rfl rfl rfl hk9 (by omega)) ?_
       repeat' (first | refine sk69 ?_ | (intro b;conv=>whnf) | refine IxM.mk fun y hy=>?_)
       refine CE.own (ty_add _ (L ++ upTo q (kindP x) ++ one q (-1) (-1) (kindE x q y) ++ upTo j (fieldP x q y)) _ _ _ _ _ _ (by assumption) (by (try simp only [List.length_append]);omega)) (perm3 _ _ _ _) (fun s'=>_ :: _ :: _ :: s') (perm3' _ _ _) ?_
       rintro _ _ ⟨v',s',rfl,rfl,hr'⟩
       repeat' (first | refine sk69 ?_ | (intro b;conv=>whnf) | refine IxM.mk fun y hy=>?_)
       exact ⟨(j + 1,v',s'),(chk_of cl2),cl3,⟨by simp only;omega,by simp only;rw [hSF,← List.append_assoc];first | exact hr' | (rw [he] at hr';exact hr') | (rw [hFL];exact hr')⟩,by simp only;omega⟩
      ·have hcb : chkB 4 = true:=by rfl
       repeat' (first | refine sk69 ?_ | (intro b;conv=>whnf) | refine IxM.mk fun y hy=>?_)
       refine Ld.yd (yd_checks rfl rfl) ?_
       repeat' (first | refine sk69 ?_ | (intro b;conv=>whnf) | refine IxM.mk fun y hy=>?_)
       refine OtE.yd rfl (yd_look2 (n:=4) rfl rfl rfl hk9 (by omega)) ?_
       repeat' (first | refine sk69 ?_ | (intro b;conv=>whnf) | refine IxM.mk fun y hy=>?_)
       refine CE.own (ty_add _ (L ++ upTo q (kindP x) ++ one q (-1) (-1) (kindE x q y) ++ upTo j (fieldP x q y)) _ _ _ _ _ _ (by assumption) (by (try simp only [List.length_append]);omega)) (perm3 _ _ _ _) (fun s'=>_ :: _ :: _ :: s') (perm3' _ _ _) ?_
       rintro _ _ ⟨v',s',rfl,rfl,hr'⟩
       repeat' (first | refine sk69 ?_ | (intro b;conv=>whnf) | refine IxM.mk fun y hy=>?_)
       exact ⟨(j + 1,v',s'),(chk_of cl2),cl3,⟨by simp only;omega,by simp only;rw [hSF,← List.append_assoc];first | exact hr' | (rw [he] at hr';exact hr') | (rw [hFL];exact hr')⟩,by simp only;omega⟩
      ·have hcb : chkB 5 = true:=by rfl
       repeat' (first | refine sk69 ?_ | (intro b;conv=>whnf) | refine IxM.mk fun y hy=>?_)
       refine Ld.yd (yd_checks rfl rfl) ?_
       repeat' (first | refine sk69 ?_ | (intro b;conv=>whnf) | refine IxM.mk fun y hy=>?_)
       refine OtE.yd rfl (yd_look2 (n:=5) rfl rfl rfl hk9 (by omega)) ?_
       repeat' (first | refine sk69 ?_ | (intro b;conv=>whnf) | refine IxM.mk fun y hy=>?_)
       refine CE.own (ty_add _ (L ++ upTo q (kindP x) ++ one q (-1) (-1) (kindE x q y) ++ upTo j (fieldP x q y)) _ _ _ _ _ _ (by assumption) (by (try simp only [List.length_append]);omega)) (perm3 _ _ _ _) (fun s'=>_ :: _ :: _ :: s') (perm3' _ _ _) ?_
       rintro _ _ ⟨v',s',rfl,rfl,hr'⟩
       repeat' (first | refine sk69 ?_ | (intro b;conv=>whnf) | refine IxM.mk fun y hy=>?_)
       exact ⟨(j + 1,v',s'),(chk_of cl2),cl3,⟨by simp only;omega,by simp only;rw [hSF,← List.append_assoc];first | exact hr' | (rw [he] at hr';exact hr') | (rw [hFL];exact hr')⟩,by simp only;omega⟩
      ·have hcb : chkB 6 = true:=by rfl
       repeat' (first | refine sk69 ?_ | (intro b;conv=>whnf) | refine IxM.mk fun y hy=>?_)
       refine Ld.yd (yd_checks rfl rfl) ?_
       repeat' (first | refine sk69 ?_ | (intro b;conv=>whnf) | refine IxM.mk fun y hy=>?_)
       refine OtE.yd rfl (yd_look2 (n:=6) rfl rfl rfl hk9 (by omega)) ?_
       repeat' (first | refine sk69 ?_ | (intro b;conv=>whnf) | refine IxM.mk fun y hy=>?_)
       refine CE.own (ty_add _ (L ++ upTo q (kindP x) ++ one q (-1) (-1) (kindE x q y) ++ upTo j (fieldP x q y)) _ _ _ _ _ _ (by assumption) (by (try simp only [List.length_append]);omega)) (perm3 _ _ _ _) (fun s'=>_ :: _ :: _ :: s') (perm3' _ _ _) ?_
       rintro _ _ ⟨v',s',rfl,rfl,hr'⟩
       repeat' (first | refine sk69 ?_ | (intro b;conv=>whnf) | refine IxM.mk fun y hy=>?_)
       exact ⟨(j + 1,v',s'),(chk_of cl2),cl3,⟨by simp only;omega,by simp only;rw [hSF,← List.append_assoc];first | exact hr' | (rw [he] at hr';exact hr') | (rw [hFL];exact hr')⟩,by simp only;omega⟩
      ·have hcb : chkB 7 = true:=by rfl
       repeat' (first | refine sk69 ?_ | (intro b;conv=>whnf) | refine IxM.mk fun y hy=>?_)
       refine Ld.yd (yd_checks rfl rfl) ?_
       repeat' (first | refine sk69 ?_ | (intro b;conv=>whnf) | refine IxM.mk fun y hy=>?_)
       refine OtE.yd rfl (yd_look2 (n:=7) rfl rfl rfl hk9 (by omega)) ?_
       repeat' (first | refine sk69 ?_ | (intro b;conv=>whnf) | refine IxM.mk fun y hy=>?_)
       refine CE.own (ty_add _ (L ++ upTo q (kindP x) ++ one q (-1) (-1) (kindE x q y) ++ upTo j (fieldP x q y)) _ _ _ _ _ _ (by assumption) (by (try simp only [List.length_append]);omega)) (perm3 _ _ _ _) (fun s'=>_ :: _ :: _ :: s') (perm3' _ _ _) ?_
       rintro _ _ ⟨v',s',rfl,rfl,hr'⟩
       repeat' (first | refine sk69 ?_ | (intro b;conv=>whnf) | refine IxM.mk fun y hy=>?_)
       exact ⟨(j + 1,v',s'),(chk_of cl2),cl3,⟨by simp only;omega,by simp only;rw [hSF,← List.append_assoc];first | exact hr' | (rw [he] at hr';exact hr') | (rw [hFL];exact hr')⟩,by simp only;omega⟩
      ·have hcb : chkB 8 = true:=by rfl
       repeat' (first | refine sk69 ?_ | (intro b;conv=>whnf) | refine IxM.mk fun y hy=>?_)
       refine Ld.yd (yd_checks rfl rfl) ?_
       repeat' (first | refine sk69 ?_ | (intro b;conv=>whnf) | refine IxM.mk fun y hy=>?_)
       refine OtE.yd rfl (yd_look2 (n:=8) rfl rfl rfl hk9 (by omega)) ?_
       repeat' (first | refine sk69 ?_ | (intro b;conv=>whnf) | refine IxM.mk fun y hy=>?_)
       refine CE.own (ty_add _ (L ++ upTo q (kindP x) ++ one q (-1) (-1) (kindE x q y) ++ upTo j (fieldP x q y)) _ _ _ _ _ _ (by assumption) (by (try simp only [List.length_append]);omega)) (perm3 _ _ _ _) (fun s'=>_ :: _ :: _ :: s') (perm3' _ _ _) ?_
       rintro _ _ ⟨v',s',rfl,rfl,hr'⟩
       repeat' (first | refine sk69 ?_ | (intro b;conv=>whnf) | refine IxM.mk fun y hy=>?_)
       exact ⟨(j + 1,v',s'),(chk_of cl2),cl3,⟨by simp only;omega,by simp only;rw [hSF,← List.append_assoc];first | exact hr' | (rw [he] at hr';exact hr') | (rw [hFL];exact hr')⟩,by simp only;omega⟩
     ·have he : firstC [(decide (fieldIx y f.name < (j : Int)),7)] = 0:=by rw [first1_eq,if_neg (by simp;omega)]
      have hFL : fieldE x q y j f = leadsE x q j f:=by unfold fieldE;rw [if_neg hfx]
      rcases hk9 with hk9 | hk9 | hk9 | hk9 | hk9 | hk9 | hk9 | hk9 | hk9
      ·have HC:=ty_check1 x q j f hk9
       have hcb : chkB 0 = true:=by rfl
       repeat' (first | refine sk69 ?_ | (intro b;conv=>whnf) | refine IxM.mk fun y hy=>?_)
       refine Ld.yd (yd_checks rfl rfl) ?_
       repeat' (first | refine sk69 ?_ | (intro b;conv=>whnf) | refine IxM.mk fun y hy=>?_)
       refine OtE.yd rfl (yd_look2 (n:=0) rfl rfl rfl hk9 (by omega)) ?_
       repeat' (first | refine sk69 ?_ | (intro b;conv=>whnf) | refine IxM.mk fun y hy=>?_)
       refine CE.own (ty_add _ (L ++ upTo q (kindP x) ++ one q (-1) (-1) (kindE x q y) ++ upTo j (fieldP x q y)) _ _ _ _ _ _ (by assumption) (by (try simp only [List.length_append]);omega)) (perm3 _ _ _ _) (fun s'=>_ :: _ :: _ :: s') (perm3' _ _ _) ?_
       rintro _ _ ⟨v',s',rfl,rfl,hr'⟩
       repeat' (first | refine sk69 ?_ | (intro b;conv=>whnf) | refine IxM.mk fun y hy=>?_)
       exact ⟨(j + 1,v',s'),(chk_of cl2),cl3,⟨by simp only;omega,by simp only;rw [hSF,← List.append_assoc];first | exact hr' | (rw [he] at hr';exact hr') | (rw [hFL];exact hr')⟩,by simp only;omega⟩
      ·have HC:=ty_check2 x q j f hl hf hk9
       have hcb : chkB 1 = true:=by rfl
       repeat' (first | refine sk69 ?_ | (intro b;conv=>whnf) | refine IxM.mk fun y hy=>?_)
       refine Ld.yd (yd_checks rfl rfl) ?_
       repeat' (first | refine sk69 ?_ | (intro b;conv=>whnf) | refine IxM.mk fun y hy=>?_)
       refine OtE.yd rfl (yd_look2 (n:=1) rfl rfl rfl hk9 (by omega)) ?_
       repeat' (first | refine sk69 ?_ | (intro b;conv=>whnf) | refine IxM.mk fun y hy=>?_)
       refine CE.own (ty_add _ (L ++ upTo q (kindP x) ++ one q (-1) (-1) (kindE x q y) ++ upTo j (fieldP x q y)) _ _ _ _ _ _ (by assumption) (by (try simp only [List.length_append]);omega)) (perm3 _ _ _ _) (fun s'=>_ :: _ :: _ :: s') (perm3' _ _ _) ?_
       rintro _ _ ⟨v',s',rfl,rfl,hr'⟩
       repeat' (first | refine sk69 ?_ | (intro b;conv=>whnf) | refine IxM.mk fun y hy=>?_)
       exact ⟨(j + 1,v',s'),(chk_of cl2),cl3,⟨by simp only;omega,by simp only;rw [hSF,← List.append_assoc];first | exact hr' | (rw [he] at hr';exact hr') | (rw [hFL];exact hr')⟩,by simp only;omega⟩
      ·have HC : leadsE x q j f = 0:=by unfold leadsE;simp [hk9]
       rw [hFL,HC] at hSF
       clear hFL HC
       have hcb : chkB 2 = false:=by rfl
       repeat' (first | refine sk69 ?_ | (intro b;conv=>whnf) | refine IxM.mk fun y hy=>?_)
       refine Ld.yd (yd_checks rfl rfl) ?_
       repeat' (first | refine sk69 ?_ | (intro b;conv=>whnf) | refine IxM.mk fun y hy=>?_)
       refine OtE.yd rfl (yd_look2 (n:=2) rfl rfl rfl hk9 (by omega)) ?_
       repeat' (first | refine sk69 ?_ | (intro b;conv=>whnf) | refine IxM.mk fun y hy=>?_)
       refine CE.own (ty_add _ (L ++ upTo q (kindP x) ++ one q (-1) (-1) (kindE x q y) ++ upTo j (fieldP x q y)) _ _ _ _ _ _ (by assumption) (by (try simp only [List.length_append]);omega)) (perm3 _ _ _ _) (fun s'=>_ :: _ :: _ :: s') (perm3' _ _ _) ?_
       rintro _ _ ⟨v',s',rfl,rfl,hr'⟩
       repeat' (first | refine sk69 ?_ | (intro b;conv=>whnf) | refine IxM.mk fun y hy=>?_)
       exact ⟨(j + 1,v',s'),(chk_of cl2),cl3,⟨by simp only;omega,by simp only;rw [hSF,← List.append_assoc];first | exact hr' | (rw [he] at hr';exact hr') | (rw [hFL];exact hr')⟩,by simp only;omega⟩
      ·have HC : leadsE x q j f = 0:=by unfold leadsE;simp [hk9]
       rw [hFL,HC] at hSF
       clear hFL HC
       have hcb : chkB 3 = false:=by rfl
       repeat' (first | refine sk69 ?_ | (intro b;conv=>whnf) | refine IxM.mk fun y hy=>?_)
       refine Ld.yd (yd_checks rfl rfl) ?_
       repeat' (first | refine sk69 ?_ | (intro b;conv=>whnf) | refine IxM.mk fun y hy=>?_)
       refine OtE.yd rfl (yd_look2 (n:=3) rfl rfl rfl hk9 (by omega)) ?_
       repeat' (first | refine sk69 ?_ | (intro b;conv=>whnf) | refine IxM.mk fun y hy=>?_)
       refine CE.own (ty_add _ (L ++ upTo q (kindP x) ++ one q (-1) (-1) (kindE x q y) ++ upTo j (fieldP x q y)) _ _ _ _ _ _ (by assumption) (by (try simp only [List.length_append]);omega)) (perm3 _ _ _ _) (fun s'=>_ :: _ :: _ :: s') (perm3' _ _ _) ?_
       rintro _ _ ⟨v',s',rfl,rfl,hr'⟩
       repeat' (first | refine sk69 ?_ | (intro b;conv=>whnf) | refine IxM.mk fun y hy=>?_)
       exact ⟨(j + 1,v',s'),(chk_of cl2),cl3,⟨by simp only;omega,by simp only;rw [hSF,← List.append_assoc];first | exact hr' | (rw [he] at hr';exact hr') | (rw [hFL];exact hr')⟩,by simp only;omega⟩
      ·have HC:=ty_check3 x q j f hl hf hfa hk9
       have hcb : chkB 4 = true:=by rfl
       repeat' (first | refine sk69 ?_ | (intro b;conv=>whnf) | refine IxM.mk fun y hy=>?_)
       refine Ld.yd (yd_checks rfl rfl) ?_
       repeat' (first | refine sk69 ?_ | (intro b;conv=>whnf) | refine IxM.mk fun y hy=>?_)
       refine OtE.yd rfl (yd_look2 (n:=4) rfl rfl rfl hk9 (by omega)) ?_
       repeat' (first | refine sk69 ?_ | (intro b;conv=>whnf) | refine IxM.mk fun y hy=>?_)
       refine CE.own (ty_add _ (L ++ upTo q (kindP x) ++ one q (-1) (-1) (kindE x q y) ++ upTo j (fieldP x q y)) _ _ _ _ _ _ (by assumption) (by (try simp only [List.length_append]);omega)) (perm3 _ _ _ _) (fun s'=>_ :: _ :: _ :: s') (perm3' _ _ _) ?_
       rintro _ _ ⟨v',s',rfl,rfl,hr'⟩
       repeat' (first | refine sk69 ?_ | (intro b;conv=>whnf) | refine IxM.mk fun y hy=>?_)
       exact ⟨(j + 1,v',s'),(chk_of cl2),cl3,⟨by simp only;omega,by simp only;rw [hSF,← List.append_assoc];first | exact hr' | (rw [he] at hr';exact hr') | (rw [hFL];exact hr')⟩,by simp only;omega⟩
      ·have HC:=ty_check4 x q j f hll hk9
       have hcb : chkB 5 = true:=by rfl
       repeat' (first | refine sk69 ?_ | (intro b;conv=>whnf) | refine IxM.mk fun y hy=>?_)
       refine Ld.yd (yd_checks rfl rfl) ?_
       repeat' (first | refine sk69 ?_ | (intro b;conv=>whnf) | refine IxM.mk fun y hy=>?_)
       refine OtE.yd rfl (yd_look2 (n:=5) rfl rfl rfl hk9 (by omega)) ?_
       repeat' (first | refine sk69 ?_ | (intro b;conv=>whnf) | refine IxM.mk fun y hy=>?_)
       refine CE.own (ty_add _ (L ++ upTo q (kindP x) ++ one q (-1) (-1) (kindE x q y) ++ upTo j (fieldP x q y)) _ _ _ _ _ _ (by assumption) (by (try simp only [List.length_append]);omega)) (perm3 _ _ _ _) (fun s'=>_ :: _ :: _ :: s') (perm3' _ _ _) ?_
       rintro _ _ ⟨v',s',rfl,rfl,hr'⟩
       repeat' (first | refine sk69 ?_ | (intro b;conv=>whnf) | refine IxM.mk fun y hy=>?_)
       exact ⟨(j + 1,v',s'),(chk_of cl2),cl3,⟨by simp only;omega,by simp only;rw [hSF,← List.append_assoc];first | exact hr' | (rw [he] at hr';exact hr') | (rw [hFL];exact hr')⟩,by simp only;omega⟩
      ·have HC:=ty_check5 x q j f (by omega) hl hf hk9
       have hcb : chkB 6 = true:=by rfl
       repeat' (first | refine sk69 ?_ | (intro b;conv=>whnf) | refine IxM.mk fun y hy=>?_)
       refine Ld.yd (yd_checks rfl rfl) ?_
       repeat' (first | refine sk69 ?_ | (intro b;conv=>whnf) | refine IxM.mk fun y hy=>?_)
       refine OtE.yd rfl (yd_look2 (n:=6) rfl rfl rfl hk9 (by omega)) ?_
       repeat' (first | refine sk69 ?_ | (intro b;conv=>whnf) | refine IxM.mk fun y hy=>?_)
       refine CE.own (ty_add _ (L ++ upTo q (kindP x) ++ one q (-1) (-1) (kindE x q y) ++ upTo j (fieldP x q y)) _ _ _ _ _ _ (by assumption) (by (try simp only [List.length_append]);omega)) (perm3 _ _ _ _) (fun s'=>_ :: _ :: _ :: s') (perm3' _ _ _) ?_
       rintro _ _ ⟨v',s',rfl,rfl,hr'⟩
       repeat' (first | refine sk69 ?_ | (intro b;conv=>whnf) | refine IxM.mk fun y hy=>?_)
       exact ⟨(j + 1,v',s'),(chk_of cl2),cl3,⟨by simp only;omega,by simp only;rw [hSF,← List.append_assoc];first | exact hr' | (rw [he] at hr';exact hr') | (rw [hFL];exact hr')⟩,by simp only;omega⟩
      ·have HC:=ty_check6 x q j f hl hf hk9
       have hcb : chkB 7 = true:=by rfl
       repeat' (first | refine sk69 ?_ | (intro b;conv=>whnf) | refine IxM.mk fun y hy=>?_)
       refine Ld.yd (yd_checks rfl rfl) ?_
       repeat' (first | refine sk69 ?_ | (intro b;conv=>whnf) | refine IxM.mk fun y hy=>?_)
       refine OtE.yd rfl (yd_look2 (n:=7) rfl rfl rfl hk9 (by omega)) ?_
       repeat' (first | refine sk69 ?_ | (intro b;conv=>whnf) | refine IxM.mk fun y hy=>?_)
       refine CE.own (ty_add _ (L ++ upTo q (kindP x) ++ one q (-1) (-1) (kindE x q y) ++ upTo j (fieldP x q y)) _ _ _ _ _ _ (by assumption) (by (try simp only [List.length_append]);omega)) (perm3 _ _ _ _) (fun s'=>_ :: _ :: _ :: s') (perm3' _ _ _) ?_
       rintro _ _ ⟨v',s',rfl,rfl,hr'⟩
       repeat' (first | refine sk69 ?_ | (intro b;conv=>whnf) | refine IxM.mk fun y hy=>?_)
       exact ⟨(j + 1,v',s'),(chk_of cl2),cl3,⟨by simp only;omega,by simp only;rw [hSF,← List.append_assoc];first | exact hr' | (rw [he] at hr';exact hr') | (rw [hFL];exact hr')⟩,by simp only;omega⟩
      ·have HC:=ty_check7 x q j f hl hf hg8 hk9
       have hcb : chkB 8 = true:=by rfl
       repeat' (first | refine sk69 ?_ | (intro b;conv=>whnf) | refine IxM.mk fun y hy=>?_)
       refine Ld.yd (yd_checks rfl rfl) ?_
       repeat' (first | refine sk69 ?_ | (intro b;conv=>whnf) | refine IxM.mk fun y hy=>?_)
       refine OtE.yd rfl (yd_look2 (n:=8) rfl rfl rfl hk9 (by omega)) ?_
       repeat' (first | refine sk69 ?_ | (intro b;conv=>whnf) | refine IxM.mk fun y hy=>?_)
       refine CE.own (ty_add _ (L ++ upTo q (kindP x) ++ one q (-1) (-1) (kindE x q y) ++ upTo j (fieldP x q y)) _ _ _ _ _ _ (by assumption) (by (try simp only [List.length_append]);omega)) (perm3 _ _ _ _) (fun s'=>_ :: _ :: _ :: s') (perm3' _ _ _) ?_
       rintro _ _ ⟨v',s',rfl,rfl,hr'⟩
       repeat' (first | refine sk69 ?_ | (intro b;conv=>whnf) | refine IxM.mk fun y hy=>?_)
       exact ⟨(j + 1,v',s'),(chk_of cl2),cl3,⟨by simp only;omega,by simp only;rw [hSF,← List.append_assoc];first | exact hr' | (rw [he] at hr';exact hr') | (rw [hFL];exact hr')⟩,by simp only;omega⟩
    ·obtain rfl : j = y.fields.length:=by omega
     repeat' (first | refine sk69 ?_ | (intro b;conv=>whnf) | refine IxM.mk fun y hy=>?_ | (with_reducible refine Br.d (fun hc=>?_) (fun hc=>?_)) | (with_reducible refine Br.b (fun hc=>?_) (fun hc=>?_)))
     exact ⟨(q + 1,v,s),(chk_of cl2),cl3,⟨by simp only;omega,by simp only;rw [hSK];simp only [List.append_assoc] at hrow2 ⊢;exact hrow2⟩,by simp only;omega⟩
   ·obtain rfl : q = x.kinds.length:=by omega
    generalize hM : upTo x.kinds.length (kindP x) = M at *
    refine lp_loopd mixed tget_ok (γ:=Nat × Value × Store) (fun g=>[(108,iD g.1)]) (fun g=>(b4,.cells 128 [.v g.2.1]) :: g.2.2) (fun g=>g.1 ≤ x.rules.length ∧ RowIs 150 4 ((L ++ M ++ upTo g.1 (ruleP x)).map prbC) g.2.1 g.2.2) (fun g=>x.rules.length - g.1) (0,v,s) (chk_of cl2) cl3 ⟨Nat.zero_le _,by simpa [upTo] using hrow⟩ ?_
    rintro ⟨q,v,s⟩ ⟨hq,hrow2⟩
    simp only at hq hrow2 ⊢
    have hlen3:=upTo_len (ruleP_len x) q
    have hS:=upTo_succ q (ruleP x)
    by_cases hql : q < x.rules.length
    ·obtain ⟨r,hr0⟩ : ∃ r,x.rules[q]? = some r:=⟨_,List.getElem?_eq_getElem hql⟩
     rw [show ruleP x q = one (-1) (-1) q (ruleE x q r) by simp only [ruleP,hr0]] at hS
     repeat' (first | refine sk69 ?_ | (intro b;conv=>whnf) | refine IxM.mk fun y hy=>?_)
     refine CE.own (ty_add _ (L ++ M ++ upTo q (ruleP x)) _ _ _ _ _ _ (by assumption) (by (try simp only [List.length_append]);omega)) (perm0 _) (fun s'=>s') perm0' ?_;rintro _ _ ⟨v',s',rfl,rfl,hr'⟩
     repeat' (first | refine sk69 ?_ | (intro b;conv=>whnf) | refine IxM.mk fun y hy=>?_)
     exact ⟨(q + 1,v',s'),(chk_of cl2),cl3,⟨by simp only;omega,by simp only;rw [hS,← List.append_assoc];exact hr'⟩,by simp only;omega⟩
    ·obtain rfl : q = x.rules.length:=by omega
     rw [hP]
     repeat' (first | refine sk69 ?_ | (intro b;conv=>whnf) | refine IxM.mk fun y hy=>?_ | (with_reducible refine Br.d (fun hc=>?_) (fun hc=>?_)) | (with_reducible refine Br.b (fun hc=>?_) (fun hc=>?_)))
     exact Rt.by (Vs.trans (Vs.drop (List.sublist_cons_self _ _)) (Vs.row hrow2 (perm0 _))) rfl
 ·have hP : probs x = [(-1,-1,-1,validE x)]:=by unfold probs;rw [if_neg hv]
  rw [hP]
  repeat' (first | refine sk69 ?_ | (intro b;conv=>whnf) | refine IxM.mk fun y hy=>?_ | (with_reducible refine Br.d (fun hc=>?_) (fun hc=>?_)) | (with_reducible refine Br.b (fun hc=>?_) (fun hc=>?_)))
  exact Rt.same rfl
end
section
open Go
structure Ss (s : Sb) : Prop where
 nk : s.length ≤ 1000
 nr : ∀ l ∈ s,l.length ≤ 1000
theorem lens_no {α β : Type} {a : List (List α)} {b : List (List β)} (h : a.length ≠ b.length) : decide (a.map List.length = b.map List.length) = false:=by
 rw [decide_eq_false_iff_not];intro e;have:=congrArg List.length e;simp at this;exact h this
theorem lens_at {α β : Type} {a : List (List α)} {b : List (List β)} {k : Nat} {l : List α} {m : List β} (h1 : a[k]? = some l) (h2 : b[k]? = some m) (h : l.length ≠ m.length) : decide (a.map List.length = b.map List.length) = false:=by
 rw [decide_eq_false_iff_not];intro e
 have:=congrArg (fun z=>z[k]?) e
 simp [h1,h2] at this
 exact h this
theorem lens_yes {α β : Type} {a : List (List α)} {b : List (List β)} (h : a.length = b.length) (hk : ∀ (k : Nat) l m,a[k]? = some l → b[k]? = some m → l.length = m.length) : decide (a.map List.length = b.map List.length) = true:=by
 rw [decide_eq_true_eq]
 apply List.ext_getElem?
 intro k
 rw [List.getElem?_map,List.getElem?_map]
 by_cases hl : k < a.length
 ·have hl2 : k < b.length:=by omega
  have:=hk k a[k] b[k] (List.getElem?_eq_getElem hl) (List.getElem?_eq_getElem hl2)
  simp [hl,hl2,this]
 ·have hl2 : ¬ k < b.length:=by omega
  simp [hl,hl2]
theorem lens_get {α β : Type} {a : List (List α)} {b : List (List β)} (h : a.map List.length = b.map List.length) {k : Nat} {l : List α} (hl : a[k]? = some l) : ∃ m,b[k]? = some m ∧ m.length = l.length:=by
 have:=congrArg (fun z=>z[k]?) h
 simp [hl] at this
 cases hb : b[k]? with
 | none=>simp [hb] at this
 | some m=>simp [hb] at this;exact ⟨m,rfl,this.symm⟩
theorem cl_shaped1 (l : List (List Int)) (m : List Bool) : APure Tryz.prog 92 [slW1 l,slB m] (bD (decide ((l.length : Int) = m.length))):=by
 refine APure.of_call (enterX mixed tget_ok Tryz.func92 (by kernel_rfl) rfl Tryz.ntmps92 rfl ?_);intro BB
 repeat' (first | refine sk2 ?_ | (intro b;conv=>whnf))
 refine Rt.pure (congrArg bD ?_);simp
theorem sk70 {A B : Prop} (k : B) (h : Hd7 B → A:=by intro hk7q;(first | refine sb0 ?_ | refine sb1 ?_ | ((with_reducible refine' Cp.by ?hc ?_);(case hc=>exact cl_shaped1 _ _)) | ((with_reducible refine' CE.pure ?hc ?_);(case hc=>exact cl_shaped1 _ _)));exact hk7q.run) : A:=h ⟨k⟩
theorem eqf_ws (w : Wd) (s : Sb) (hw : w.length ≤ 1000) : APure Tryz.prog 91 [slW w,slS2 s,.v (.func (.func 92) #[] #[])] (bD (shapedB w s)):=by
 refine APure.of_call (enterX mixed tget_ok Tryz.func91 (by kernel_rfl) rfl Tryz.ntmps91 rfl ?_);intro BB
 repeat' (first | refine sk70 ?_ | (intro b;conv=>whnf) | (with_reducible refine Br.d (fun hc=>?_) (fun hc=>?_)) | (with_reducible refine Br.b (fun hc=>?_) (fun hc=>?_)))
 rotate_left
 ·refine Rt.pure (congrArg bD ?_);exact (lens_no (by omega)).symm
 have hlen : w.length = s.length:=by omega
 refine lp_loopd mixed tget_ok (γ:=Nat) (fun j=>[(17,iD j)]) (fun _=>[]) (fun j=>j ≤ w.length ∧ ∀ (k : Nat) l m,k < j → w[k]? = some l → s[k]? = some m → l.length = m.length) (fun j=>w.length - j) 0 (chk_of cl2) cl3 ⟨Nat.zero_le _,fun k l m h=>by omega⟩ ?_
 rintro j ⟨hj,hno⟩
 by_cases hjl : j < w.length
 ·obtain ⟨l,hl⟩ : ∃ l,w[j]? = some l:=⟨_,List.getElem?_eq_getElem hjl⟩
  have hl' : w[((j : Nat) : Int).toNat]? = some l:=hl
  obtain ⟨m,hm⟩ : ∃ m,s[j]? = some m:=⟨_,List.getElem?_eq_getElem (by omega)⟩
  have hm' : s[((j : Nat) : Int).toNat]? = some m:=hm
  repeat' (first | refine sk70 ?_ | (intro b;conv=>whnf) | (with_reducible refine Br.d (fun hc=>?_) (fun hc=>?_)) | (with_reducible refine Br.b (fun hc=>?_) (fun hc=>?_)))
  ·refine ⟨j + 1,(chk_of cl2),cl3,⟨by omega,fun k l' m' hk hl2 hm2=>?_⟩,by omega⟩
   by_cases e : k = j
   ·subst e;cases hl.symm.trans hl2;cases hm.symm.trans hm2;omega
   ·exact hno k l' m' (by omega) hl2 hm2
  ·refine Rt.pure (congrArg bD ?_);exact (lens_at hl hm (by omega)).symm
 ·obtain rfl : j = w.length:=by omega
  repeat' (first | refine sk70 ?_ | (intro b;conv=>whnf))
  refine Rt.pure (congrArg bD ?_)
  exact (lens_yes hlen (fun k l m h1 h2=>hno k l m (List.getElem?_eq_some_iff.1 h1).1 h1 h2)).symm
theorem sk71 {A B : Prop} (k : B) (h : Hd7 B → A:=by intro hk7q;(first | refine sb0 ?_ | refine sb1 ?_ | ((with_reducible refine' Cp.by ?hc ?_);(case hc=>exact eqf_ws _ _ (by assumption))) | ((with_reducible refine' CE.pure ?hc ?_);(case hc=>exact eqf_ws _ _ (by assumption))));exact hk7q.run) : A:=h ⟨k⟩
theorem cl_shaped (w : Wd) (s : Sb) (hw : w.length ≤ 1000) : APure Tryz.prog 66 [slW w,slS2 s] (bD (shapedB w s)):=by
 refine APure.of_call (enterX mixed tget_ok Tryz.func66 (by kernel_rfl) rfl Tryz.ntmps66 rfl ?_);intro BB
 repeat' (first | refine sk71 ?_ | (intro b;conv=>whnf))
 refine Rt.pure (congrArg bD ?_);rfl
theorem r31_shaped (w : Wd) (s : Sb) (hw : w.length ≤ 1000) : APure Tryz.prog 26 [slW w,slS2 s] (bD (shapedB w s)):=by
 refine APure.of_call (enterX mixed tget_ok Tryz.func26 (by kernel_rfl) rfl Tryz.ntmps26 rfl ?_);intro BB
 repeat' (first | refine sk2 ?_ | (intro b;conv=>whnf) | (with_reducible refine Br.d (fun hc=>?_) (fun hc=>?_)) | (with_reducible refine Br.b (fun hc=>?_) (fun hc=>?_)))
 rotate_left
 ·refine Rt.pure (congrArg bD ?_);exact (lens_no (by omega)).symm
 have hlen : w.length = s.length:=by omega
 refine lp_loopd mixed tget_ok (γ:=Nat) (fun j=>[(5,iD j)]) (fun _=>[]) (fun j=>j ≤ w.length ∧ ∀ (k : Nat) l m,k < j → w[k]? = some l → s[k]? = some m → l.length = m.length) (fun j=>w.length - j) 0 (chk_of cl2) cl3 ⟨Nat.zero_le _,fun k l m h=>by omega⟩ ?_
 rintro j ⟨hj,hno⟩
 by_cases hjl : j < w.length
 ·obtain ⟨l,hl⟩ : ∃ l,w[j]? = some l:=⟨_,List.getElem?_eq_getElem hjl⟩
  have hl' : w[((j : Nat) : Int).toNat]? = some l:=hl
  obtain ⟨m,hm⟩ : ∃ m,s[j]? = some m:=⟨_,List.getElem?_eq_getElem (by omega)⟩
  have hm' : s[((j : Nat) : Int).toNat]? = some m:=hm
  repeat' (first | refine sk2 ?_ | (intro b;conv=>whnf) | (with_reducible refine Br.d (fun hc=>?_) (fun hc=>?_)) | (with_reducible refine Br.b (fun hc=>?_) (fun hc=>?_)))
  ·refine ⟨j + 1,(chk_of cl2),cl3,⟨by omega,fun k l' m' hk hl2 hm2=>?_⟩,by omega⟩
   by_cases e : k = j
   ·subst e;cases hl.symm.trans hl2;cases hm.symm.trans hm2;omega
   ·exact hno k l' m' (by omega) hl2 hm2
  ·refine Rt.pure (congrArg bD ?_);exact (lens_at hl hm (by omega)).symm
 ·obtain rfl : j = w.length:=by omega
  repeat' (first | refine sk2 ?_ | (intro b;conv=>whnf))
  refine Rt.pure (congrArg bD ?_)
  exact (lens_yes hlen (fun k l m h1 h2=>hno k l m (List.getElem?_eq_some_iff.1 h1).1 h1 h2)).symm
theorem probs_len {x : Sch} : ((probs x).length : Int) = 0 ↔ probs x = []:=by simp
theorem sk72 {A B : Prop} (k : B) (h : Hd7 B → A:=by intro hk7q;(first | refine sb0 ?_ | refine sb1 ?_ | ((with_reducible refine' Cp.by ?hc ?_);(case hc=>first | exact HC | exact HF | exact cl_shaped _ _ (by assumption))) | ((with_reducible refine' CE.pure ?hc ?_);(case hc=>first | exact HC | exact HF | exact cl_shaped _ _ (by assumption))));exact hk7q.run) : A:=h ⟨k⟩
theorem cl_checked (x : Sch) (w : Wd) (s : Sb) (hw : Ws w) (HV : APure Tryz.prog 81 [schD x] (iD (validE x))) : APure Tryz.prog 39 [schD x,slW w,slS2 s] (iD (checkedE x w s)):=by
 have HC:=ty_check x HV
 have hwl:=hw.nk
 by_cases hp : probs x = []
 ·have HF:=cl_fits x (snd_of hp) w hw
  have hp0 : (probs x).length = 0:=by rw [hp];rfl
  refine APure.of_call (enterX mixed tget_ok Tryz.func39 (by kernel_rfl) rfl Tryz.ntmps39 rfl ?_);intro BB
  repeat' (first | refine sk72 ?_ | (intro b;conv=>whnf) | (with_reducible refine Br.d (fun hc=>?_) (fun hc=>?_)) | (with_reducible refine Br.b (fun hc=>?_) (fun hc=>?_)))
  all_goals (refine Rt.pure (congrArg iD ?_);unfold checkedE;rw [if_neg (by omega)];simp [*])
 ·have hp0 : ((probs x).length : Int) ≠ 0:=fun h=>hp (probs_len.1 h)
  have HF:=True.intro
  refine APure.of_call (enterX mixed tget_ok Tryz.func39 (by kernel_rfl) rfl Tryz.ntmps39 rfl ?_);intro BB
  repeat' (first | refine sk72 ?_ | (intro b;conv=>whnf) | (with_reducible refine Br.d (fun hc=>?_) (fun hc=>?_)) | (with_reducible refine Br.b (fun hc=>?_) (fun hc=>?_)))
  refine Rt.pure (congrArg iD ?_);unfold checkedE;rw [if_pos (by omega)]
theorem sk73 {A B : Prop} (k : B) (h : Hd7 B → A:=by intro hk7q;(first | refine sb0 ?_ | refine sb1 ?_ | ((with_reducible refine' Cp.by ?hc ?_);(case hc=>first | exact HC | exact HF | exact r31_shaped _ _ (by assumption))) | ((with_reducible refine' CE.pure ?hc ?_);(case hc=>first | exact HC | exact HF | exact r31_shaped _ _ (by assumption))));exact hk7q.run) : A:=h ⟨k⟩
end
section
open Go
theorem kept_of {s : Sb} {k i : Nat} {l : List Bool} {b : Bool} (h1 : s[k]? = some l) (h2 : l[i]? = some b) : keptB s k i = b:=by
 unfold keptB;rw [getD_get h1,getD_get h2]
theorem all_pos {s : Sb} {p : Nat × Nat → Bool} : (posOf s).all p = true ↔ ∀ (k : Nat) l,s[k]? = some l → ∀ i,i < l.length → p (k,i) = true:=by
 rw [List.all_eq_true]
 constructor
 ·intro h k l hl i hi
  exact h (k,i) (mem_posOf.2 ⟨(List.getElem?_eq_some_iff.1 hl).1,by rw [getD_get hl];exact hi⟩)
 ·intro h q hq
  obtain ⟨h1,h2⟩:=mem_posOf.1 hq
  rw [getD_get (List.getElem?_eq_getElem h1)] at h2
  exact h q.1 _ (List.getElem?_eq_getElem h1) q.2 h2
theorem all_pos_no {s : Sb} {p : Nat × Nat → Bool} {k i : Nat} {l : List Bool} (h1 : s[k]? = some l) (h2 : i < l.length) (hp : p (k,i) = false) : (posOf s).all p = false:=by
 rw [Bool.eq_false_iff]
 intro h
 have:=all_pos.1 h k l h1 i h2
 rw [hp] at this;cases this
theorem cnt_take_succ {s : Sb} {j : Nat} {l : List Bool} (h : s[j]? = some l) : ((s.take (j + 1)).map fun l=>l.countP id).sum = ((s.take j).map fun l=>l.countP id).sum + l.countP id:=by
 rw [List.take_add_one,h];simp
theorem cnt_take_le : ∀ {s : Sb} (_ : ∀ l ∈ s,l.length ≤ 1000) (j : Nat),((s.take j).map fun l=>l.countP id).sum ≤ j * 1000
 | [],_,j=>by simp
 | l :: s,_,0=>by simp
 | l :: s,h,j + 1=>by
  have h1:=h l (by simp)
  have h2:=cnt_take_le (s:=s) (fun l hl=>h l (by simp [hl])) j
  have h3 : l.countP id ≤ l.length:=List.countP_le_length
  simp only [List.take_succ_cons,List.map_cons,List.sum_cons]
  omega
theorem countP_take_succ {l : List Bool} {i : Nat} {b : Bool} (h : l[i]? = some b) : (l.take (i + 1)).countP id = (l.take i).countP id + (if b = true then 1 else 0):=by
 rw [List.take_add_one,h];cases b <;> simp
theorem r31_size (s : Sb) (hs : Ss s) : APure Tryz.prog 31 [slS2 s] (iD (sizeE s)):=by
 have hsl:=hs.nk
 refine APure.of_call (enterX mixed tget_ok Tryz.func31 (by kernel_rfl) rfl Tryz.ntmps31 rfl ?_);intro BB
 repeat' (first | refine sk2 ?_ | (intro b;conv=>whnf))
 refine lp_loopd mixed tget_ok (γ:=Nat) (fun j=>[(3,iD ((((s.take j).map fun l=>l.countP id).sum : Nat) : Int)),(4,iD j)]) (fun _=>[]) (fun j=>j ≤ s.length) (fun j=>s.length - j) 0 (chk_of cl2) cl3 (Nat.zero_le _) ?_
 rintro j hj
 have hc1:=cnt_take_le hs.nr j
 by_cases hjl : j < s.length
 ·obtain ⟨l,hl⟩ : ∃ l,s[j]? = some l:=⟨_,List.getElem?_eq_getElem hjl⟩
  have hl' : s[((j : Nat) : Int).toNat]? = some l:=hl
  have hc2:=cnt_take_succ hl
  have hll:=hs.nr l (List.mem_of_getElem? hl)
  generalize hN : ((s.take j).map fun l=>l.countP id).sum = N at *
  repeat' (first | refine sk2 ?_ | (intro b;conv=>whnf))
  refine lp_loopd mixed tget_ok (γ:=Nat) (fun i=>[(3,iD ((N + (l.take i).countP id : Nat) : Int)),(5,iD i)]) (fun _=>[]) (fun i=>i ≤ l.length) (fun i=>l.length - i) 0 (chk_of cl7) cl3 (Nat.zero_le _) ?_
  rintro i hi
  have hc3 : (l.take i).countP id ≤ (l.take i).length:=List.countP_le_length
  rw [List.length_take] at hc3
  by_cases hil : i < l.length
  ·obtain ⟨b,hb⟩ : ∃ b,l[i]? = some b:=⟨_,List.getElem?_eq_getElem hil⟩
   have hb' : l[((i : Nat) : Int).toNat]? = some b:=hb
   have hc4:=countP_take_succ hb
   cases b <;> simp only [Bool.false_eq_true,if_false,if_true,Nat.add_zero] at hc4
   ·repeat' (first | refine sk2 ?_ | (intro b;conv=>whnf))
    exact ⟨i + 1,(chk_of cl7),cl3,by omega,by omega⟩
   ·repeat' (first | refine sk2 ?_ | (intro b;conv=>whnf))
    exact ⟨i + 1,(chk_of cl7),cl3,by omega,by omega⟩
  ·obtain rfl : i = l.length:=by omega
   rw [List.take_of_length_le (Nat.le_refl _)] at hc3
   repeat' (first | refine sk2 ?_ | (intro b;conv=>whnf))
   exact ⟨j + 1,chk_of (.cons (congrArg (fun n=>some (iD n)) (by rw [hc2,List.take_of_length_le (Nat.le_refl _)])) cl2),cl3,by omega,by omega⟩
 ·obtain rfl : j = s.length:=by omega
  repeat' (first | refine sk2 ?_ | (intro b;conv=>whnf))
  refine Rt.pure (congrArg iD ?_)
  unfold sizeE
  rw [List.take_of_length_le (Nat.le_refl _)]
end
section
open Go
theorem sb_ext {a b : Sb} (h : a.length = b.length) (hk : ∀ (k : Nat) l m,a[k]? = some l → b[k]? = some m → l = m) : a = b:=by
 apply List.ext_getElem?
 intro k
 by_cases hl : k < a.length
 ·have hl2 : k < b.length:=by omega
  rw [List.getElem?_eq_getElem hl,List.getElem?_eq_getElem hl2,hk k a[k] b[k] (List.getElem?_eq_getElem hl) (List.getElem?_eq_getElem hl2)]
 ·rw [List.getElem?_eq_none (by omega),List.getElem?_eq_none (by omega)]
theorem row_ext {l m : List Bool} (h : l.length = m.length) (hk : ∀ (i : Nat) x y,l[i]? = some x → m[i]? = some y → x = y) : l = m:=by
 apply List.ext_getElem?
 intro k
 by_cases hl : k < l.length
 ·have hl2 : k < m.length:=by omega
  rw [List.getElem?_eq_getElem hl,List.getElem?_eq_getElem hl2,hk k l[k] m[k] (List.getElem?_eq_getElem hl) (List.getElem?_eq_getElem hl2)]
 ·rw [List.getElem?_eq_none (by omega),List.getElem?_eq_none (by omega)]
theorem r31_same (a b : Sb) (ha : Ss a) : APure Tryz.prog 16 [slS2 a,slS2 b] (bD (decide (a = b))):=by
 have hal:=ha.nk
 refine APure.of_call (enterX mixed tget_ok Tryz.func16 (by kernel_rfl) rfl Tryz.ntmps16 rfl ?_);intro BB
 repeat' (first | refine sk2 ?_ | (intro b;conv=>whnf) | (with_reducible refine Br.d (fun hc=>?_) (fun hc=>?_)) | (with_reducible refine Br.b (fun hc=>?_) (fun hc=>?_)))
 rotate_left
 ·refine Rt.pure (congrArg bD ?_);exact (decide_eq_false (fun e=>by subst e;omega)).symm
 have hlen : a.length = b.length:=by omega
 refine lp_loopd mixed tget_ok (γ:=Nat) (fun j=>[(5,iD j)]) (fun _=>[]) (fun j=>j ≤ a.length ∧ ∀ (k : Nat) l m,k < j → a[k]? = some l → b[k]? = some m → l = m) (fun j=>a.length - j) 0 (chk_of cl2) cl3 ⟨Nat.zero_le _,fun k l m h=>by omega⟩ ?_
 rintro j ⟨hj,hno⟩
 by_cases hjl : j < a.length
 ·obtain ⟨l,hl⟩ : ∃ l,a[j]? = some l:=⟨_,List.getElem?_eq_getElem hjl⟩
  have hl' : a[((j : Nat) : Int).toNat]? = some l:=hl
  obtain ⟨m,hm⟩ : ∃ m,b[j]? = some m:=⟨_,List.getElem?_eq_getElem (by omega)⟩
  have hm' : b[((j : Nat) : Int).toNat]? = some m:=hm
  have hll:=ha.nr l (List.mem_of_getElem? hl)
  repeat' (first | refine sk2 ?_ | (intro b;conv=>whnf) | (with_reducible refine Br.d (fun hc=>?_) (fun hc=>?_)) | (with_reducible refine Br.b (fun hc=>?_) (fun hc=>?_)))
  rotate_left
  ·refine Rt.pure (congrArg bD ?_);exact (decide_eq_false (fun e=>by subst e;cases hl.symm.trans hm;omega)).symm
  have hlm : l.length = m.length:=by omega
  refine lp_loopd mixed tget_ok (γ:=Nat) (fun i=>[(6,iD i)]) (fun _=>[]) (fun i=>i ≤ l.length ∧ ∀ (n : Nat) x y,n < i → l[n]? = some x → m[n]? = some y → x = y) (fun i=>l.length - i) 0 (chk_of cl2) cl3 ⟨Nat.zero_le _,fun n x y h=>by omega⟩ ?_
  rintro i ⟨hi,hni⟩
  by_cases hil : i < l.length
  ·obtain ⟨x,hx⟩ : ∃ x,l[i]? = some x:=⟨_,List.getElem?_eq_getElem hil⟩
   have hx' : l[((i : Nat) : Int).toNat]? = some x:=hx
   obtain ⟨y,hy⟩ : ∃ y,m[i]? = some y:=⟨_,List.getElem?_eq_getElem (by omega)⟩
   have hy' : m[((i : Nat) : Int).toNat]? = some y:=hy
   by_cases hxy : x = y
   ·subst hxy
    have hbb : (x == x) = true:=by simp
    repeat' (first | refine sk2 ?_ | (intro b;conv=>whnf))
    refine ⟨i + 1,(chk_of cl2),cl3,⟨by omega,fun n x' y' hn h1 h2=>?_⟩,by omega⟩
    by_cases e : n = i
    ·subst e;cases hx.symm.trans h1;cases hy.symm.trans h2;rfl
    ·exact hni n x' y' (by omega) h1 h2
   ·have hbb : (x == y) = false:=by simpa using hxy
    repeat' (first | refine sk2 ?_ | (intro b;conv=>whnf))
    refine Rt.pure (congrArg bD ?_);exact (decide_eq_false (fun e=>by subst e;cases hl.symm.trans hm;cases hx.symm.trans hy;exact hxy rfl)).symm
  ·obtain rfl : i = l.length:=by omega
   repeat' (first | refine sk2 ?_ | (intro b;conv=>whnf))
   refine ⟨j + 1,(chk_of cl2),cl3,⟨by omega,fun k l' m' hk h1 h2=>?_⟩,by omega⟩
   by_cases e : k = j
   ·subst e;cases hl.symm.trans h1;cases hm.symm.trans h2
    exact row_ext hlm (fun i x y h1 h2=>hni i x y (List.getElem?_eq_some_iff.1 h1).1 h1 h2)
   ·exact hno k l' m' (by omega) h1 h2
 ·obtain rfl : j = a.length:=by omega
  repeat' (first | refine sk2 ?_ | (intro b;conv=>whnf))
  refine Rt.pure (congrArg bD ?_)
  exact (decide_eq_true (sb_ext hlen (fun k l m h1 h2=>hno k l m (List.getElem?_eq_some_iff.1 h1).1 h1 h2))).symm
theorem r31_within (a b : Sb) (ha : Ss a) (hab : a.map List.length = b.map List.length) : APure Tryz.prog 22 [slS2 a,slS2 b] (bD (withinE a b)):=by
 have hal:=ha.nk
 have hlen : a.length = b.length:=by have:=congrArg List.length hab;simpa using this
 refine APure.of_call (enterX mixed tget_ok Tryz.func22 (by kernel_rfl) rfl Tryz.ntmps22 rfl ?_);intro BB
 repeat' (first | refine sk2 ?_ | (intro b;conv=>whnf))
 refine lp_loopd mixed tget_ok (γ:=Nat) (fun j=>[(5,iD j)]) (fun _=>[]) (fun j=>j ≤ a.length ∧ ∀ (k : Nat) l,k < j → a[k]? = some l → ∀ i,i < l.length → (!(keptB a k i && !keptB b k i)) = true) (fun j=>a.length - j) 0 (chk_of cl2) cl3 ⟨Nat.zero_le _,fun k l h=>by omega⟩ ?_
 rintro j ⟨hj,hno⟩
 by_cases hjl : j < a.length
 ·obtain ⟨l,hl⟩ : ∃ l,a[j]? = some l:=⟨_,List.getElem?_eq_getElem hjl⟩
  have hl' : a[((j : Nat) : Int).toNat]? = some l:=hl
  obtain ⟨m,hm,hml⟩:=lens_get hab hl
  have hm' : b[((j : Nat) : Int).toNat]? = some m:=hm
  have hll:=ha.nr l (List.mem_of_getElem? hl)
  repeat' (first | refine sk2 ?_ | (intro b;conv=>whnf))
  refine lp_loopd mixed tget_ok (γ:=Nat) (fun i=>[(6,iD i)]) (fun _=>[]) (fun i=>i ≤ l.length ∧ ∀ n,n < i → (!(keptB a j n && !keptB b j n)) = true) (fun i=>l.length - i) 0 (chk_of cl2) cl3 ⟨Nat.zero_le _,fun n h=>by omega⟩ ?_
  rintro i ⟨hi,hni⟩
  by_cases hil : i < l.length
  ·obtain ⟨x,hx⟩ : ∃ x,l[i]? = some x:=⟨_,List.getElem?_eq_getElem hil⟩
   have hx' : l[((i : Nat) : Int).toNat]? = some x:=hx
   obtain ⟨y,hy⟩ : ∃ y,m[i]? = some y:=⟨_,List.getElem?_eq_getElem (by omega)⟩
   have hy' : m[((i : Nat) : Int).toNat]? = some y:=hy
   have hke : (!(keptB a j i && !keptB b j i)) = (!(x && !y)):=by rw [kept_of hl hx,kept_of hm hy]
   cases x <;> cases y
   all_goals repeat' (first | refine sk2 ?_ | (intro b;conv=>whnf))
   all_goals first
    | (refine Rt.pure (congrArg bD ?_);exact (all_pos_no hl hil (by simp only;rw [hke];rfl)).symm)
    | (refine ⟨i + 1,(chk_of cl2),cl3,⟨by omega,fun n hn=>?_⟩,by omega⟩;by_cases e : n = i;(subst e;rw [hke];rfl);exact hni n (by omega))
  ·obtain rfl : i = l.length:=by omega
   repeat' (first | refine sk2 ?_ | (intro b;conv=>whnf))
   refine ⟨j + 1,(chk_of cl2),cl3,⟨by omega,fun k l' hk h1=>?_⟩,by omega⟩
   by_cases e : k = j
   ·subst e;cases hl.symm.trans h1;exact hni
   ·exact hno k l' (by omega) h1
 ·obtain rfl : j = a.length:=by omega
  repeat' (first | refine sk2 ?_ | (intro b;conv=>whnf))
  refine Rt.pure (congrArg bD ?_)
  exact (all_pos.2 (fun k l hl=>hno k l (List.getElem?_eq_some_iff.1 hl).1 hl)).symm
theorem cl_less1 (l m : List Bool) : APure Tryz.prog 57 [slB l,slB m] (bD (decide ((l.length : Int) = m.length))):=by
 refine APure.of_call (enterX mixed tget_ok Tryz.func57 (by kernel_rfl) rfl Tryz.ntmps57 rfl ?_);intro BB
 repeat' (first | refine sk2 ?_ | (intro b;conv=>whnf))
 refine Rt.pure (congrArg bD ?_);simp
theorem sk74 {A B : Prop} (k : B) (h : Hd7 B → A:=by intro hk7q;(first | refine sb0 ?_ | refine sb1 ?_ | ((with_reducible refine' Cp.by ?hc ?_);(case hc=>exact cl_less1 _ _)) | ((with_reducible refine' CE.pure ?hc ?_);(case hc=>exact cl_less1 _ _)));exact hk7q.run) : A:=h ⟨k⟩
theorem eqf_ss (w s : Sb) (hw : w.length ≤ 1000) : APure Tryz.prog 56 [slS2 w,slS2 s,.v (.func (.func 57) #[] #[])] (bD (sameLens w s)):=by
 refine APure.of_call (enterX mixed tget_ok Tryz.func56 (by kernel_rfl) rfl Tryz.ntmps56 rfl ?_);intro BB
 repeat' (first | refine sk74 ?_ | (intro b;conv=>whnf) | (with_reducible refine Br.d (fun hc=>?_) (fun hc=>?_)) | (with_reducible refine Br.b (fun hc=>?_) (fun hc=>?_)))
 rotate_left
 ·refine Rt.pure (congrArg bD ?_);exact (lens_no (by omega)).symm
 have hlen : w.length = s.length:=by omega
 refine lp_loopd mixed tget_ok (γ:=Nat) (fun j=>[(17,iD j)]) (fun _=>[]) (fun j=>j ≤ w.length ∧ ∀ (k : Nat) l m,k < j → w[k]? = some l → s[k]? = some m → l.length = m.length) (fun j=>w.length - j) 0 (chk_of cl2) cl3 ⟨Nat.zero_le _,fun k l m h=>by omega⟩ ?_
 rintro j ⟨hj,hno⟩
 by_cases hjl : j < w.length
 ·obtain ⟨l,hl⟩ : ∃ l,w[j]? = some l:=⟨_,List.getElem?_eq_getElem hjl⟩
  have hl' : w[((j : Nat) : Int).toNat]? = some l:=hl
  obtain ⟨m,hm⟩ : ∃ m,s[j]? = some m:=⟨_,List.getElem?_eq_getElem (by omega)⟩
  have hm' : s[((j : Nat) : Int).toNat]? = some m:=hm
  repeat' (first | refine sk74 ?_ | (intro b;conv=>whnf) | (with_reducible refine Br.d (fun hc=>?_) (fun hc=>?_)) | (with_reducible refine Br.b (fun hc=>?_) (fun hc=>?_)))
  ·refine ⟨j + 1,(chk_of cl2),cl3,⟨by omega,fun k l' m' hk hl2 hm2=>?_⟩,by omega⟩
   by_cases e : k = j
   ·subst e;cases hl.symm.trans hl2;cases hm.symm.trans hm2;omega
   ·exact hno k l' m' (by omega) hl2 hm2
  ·refine Rt.pure (congrArg bD ?_);exact (lens_at hl hm (by omega)).symm
 ·obtain rfl : j = w.length:=by omega
  repeat' (first | refine sk74 ?_ | (intro b;conv=>whnf))
  refine Rt.pure (congrArg bD ?_)
  exact (lens_yes hlen (fun k l m h1 h2=>hno k l m (List.getElem?_eq_some_iff.1 h1).1 h1 h2)).symm
end
section
open Go
def posTo (s : Sb) (k i : Nat) : List (Nat × Nat):=upTo k (fun k=>(List.range (s.getD k []).length).map fun i=>(k,i)) ++ (List.range i).map fun i=>(k,i)
def keptTo (s : Sb) (k i : Nat) : List (Nat × Nat):=(posTo s k i).filter fun p=>keptB s p.1 p.2
theorem posTo_succ (s : Sb) (k i : Nat) : posTo s k (i + 1) = posTo s k i ++ [(k,i)]:=by simp [posTo,List.range_succ]
theorem posTo_row {s : Sb} {k : Nat} {l : List Bool} (h : s[k]? = some l) : posTo s (k + 1) 0 = posTo s k l.length:=by
 simp [posTo,upTo_succ,List.getD_eq_getElem?_getD,h]
theorem posTo_all (s : Sb) : posTo s s.length 0 = posOf s:=by simp [posTo,posOf]
theorem upTo_pre {α : Type} (g : Nat → List α) {q n : Nat} (h : q ≤ n) : upTo q g <+: upTo n g:=by
 induction n with
 | zero=>rw [show q = 0 by omega];exact List.prefix_refl _
 | succ n ih=>
  by_cases e : q = n + 1
  ·rw [e];exact List.prefix_refl _
  ·rw [upTo_succ];exact (ih (by omega)).trans (List.prefix_append _ _)
theorem range_pre {i n : Nat} (h : i ≤ n) : List.range i <+: List.range n:=by
 obtain ⟨d,rfl⟩ : ∃ d,n = i + d:=⟨n - i,by omega⟩
 rw [List.range_add];exact List.prefix_append _ _
theorem posTo_pre {s : Sb} {k i : Nat} {l : List Bool} (h : s[k]? = some l) (hi : i ≤ l.length) : posTo s k i <+: posOf s:=by
 have hk:=(List.getElem?_eq_some_iff.1 h).1
 have h1 : posTo s k i <+: upTo (k + 1) (fun k=>(List.range (s.getD k []).length).map fun i=>(k,i)):=by
  rw [upTo_succ]
  unfold posTo
  refine (List.prefix_append_right_inj _).2 ?_
  rw [getD_get h]
  exact (range_pre hi).map _
 exact h1.trans (upTo_pre _ (by omega))
theorem keptTo_yes {s : Sb} {k i : Nat} (h : keptB s k i = true) : keptTo s k (i + 1) = keptTo s k i ++ [(k,i)]:=by
 unfold keptTo;rw [posTo_succ,List.filter_append];simp [h]
theorem keptTo_no {s : Sb} {k i : Nat} (h : keptB s k i = false) : keptTo s k (i + 1) = keptTo s k i:=by
 unfold keptTo;rw [posTo_succ,List.filter_append];simp [h]
theorem keptTo_row {s : Sb} {k : Nat} {l : List Bool} (h : s[k]? = some l) : keptTo s (k + 1) 0 = keptTo s k l.length:=by
 unfold keptTo;rw [posTo_row h]
theorem keptTo_all (s : Sb) : keptTo s s.length 0 = keptL s:=by unfold keptTo keptL;rw [posTo_all]
theorem keptTo_pre {s : Sb} {k i : Nat} {l : List Bool} (h : s[k]? = some l) (hi : i ≤ l.length) : keptTo s k i <+: keptL s:=(posTo_pre h hi).filter _
theorem keptL_next {s : Sb} {k i : Nat} {l : List Bool} (h : s[k]? = some l) (hi : i < l.length) (hb : keptB s k i = true) : (keptL s)[(keptTo s k i).length]? = some (k,i):=by
 obtain ⟨r,hr⟩:=keptTo_pre h (Nat.succ_le_of_lt hi)
 rw [← hr,keptTo_yes hb,List.append_assoc,List.getElem?_append_right (Nat.le_refl _)]
 simp
theorem keptL_mem {s : Sb} {p : Nat × Nat} : p ∈ keptL s ↔ keptB s p.1 p.2 = true:=by
 unfold keptL
 rw [List.mem_filter]
 exact ⟨fun h=>h.2,fun h=>⟨keptB_pos h,h⟩⟩
theorem keptL_nodup (s : Sb) : (keptL s).Nodup:=(posOf_nodup s).filter _
end
end Go.Proofs.YtjbbmjjildhfbaaGreatDoor
