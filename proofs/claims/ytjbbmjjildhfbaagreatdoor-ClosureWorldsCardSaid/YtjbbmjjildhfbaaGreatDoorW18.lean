/- A part of the proof: Tf Ke Kf Kg Po Kp Kq. -/
import Derived.Test.YtjbbmjjildhfbaaGreatDoorW17
import Derived.Shelf.Abstract
import Derived.WalkKit
import Derived.OwnWalkIn
import Derived.TacticsInMore
import Derived.LoopNIn
import Derived.LoopIn
set_option maxRecDepth 100000
set_option maxHeartbeats 4000000
set_option linter.unusedVariables false
set_option linter.unusedSimpArgs false
namespace Go.Proofs.YtjbbmjjildhfbaaGreatDoor
section
open Go
theorem al3 (b:Nat) (l:List Prb) (v:Value) (s:aa1) (k f r e:Int) (hr:RowIs 150 4 (l.map prbC) v s) (hl:l.length≤1000000) :
  ACall Tryz.prog 82 [iD k,iD f,iD r,iD e,.v (.pointer (some ⟨b,0,none⟩))] ((b,.cells 128 [.v v]) :: s)
   (fun d σ'=>∃ v' s',d = .v (.tuple #[])∧σ'=(b,.cells 128 [.v v']) :: s'∧RowIs 150 4 ((l ++ one k f r e).map prbC) v' s'):=by
 obtain ⟨a,c,rfl⟩:=hr.slice
 refine aa3 mixed aa0 Tryz.func82 (by kernel_rfl) rfl Tryz.ntmps82 rfl ?_;intro BB
 repeat' (first|refine sk2 ?_|(intro b;conv=>whnf)|(with_reducible refine Br.d (fun hc=>?_) (fun hc=>?_))|(with_reducible refine Br.b (fun hc=>?_) (fun hc=>?_)))
 ·refine Rt.same ⟨_,s,rfl,rfl,?_⟩
  unfold one;rw [if_pos (by omega)];simpa using hr
 ·refine Ap.go rfl rfl rfl rfl hr (perm1 _ _) rfl (zs:=(l ++ one k f r e).map prbC) (by unfold one;rw [if_neg (by omega)];simp [prbC]) (by simp [one];split <;> simp <;> omega) (by simp [one];split <;> simp <;> omega) (fun s'=>_ :: s') (bf9 _) (fun a' c' s' hr'=>?_)
  repeat' (first|refine sk2 ?_|(intro b;conv=>whnf))
  exact Rt.same ⟨_,s',rfl,rfl,hr'⟩
theorem ty_check2' (y l:Lif):APure Tryz.prog 84 [lifD y,.ro (lifC l)] (bD (seq y.name l.name)):=by
 refine APure.of_call (aa3 mixed aa0 Tryz.func84 (by kernel_rfl) rfl Tryz.ntmps84 rfl ?_);intro BB
 repeat' (first|refine sk2 ?_|(intro b;conv=>whnf))
 refine Rt.pure (congrArg bD ?_);rfl
theorem ah0 {ρ:Operand→D} {σ:aa1} {o:Oper} {x i:Operand} {m n:Int} (ho:o.op = .lookup 161 x i true) (hx:ρ x = .gl 0) (hi:ρ i = .v (.int .i64 m)) (hm:m=n) (hn:0≤n∧n≤8) :
  Yd Tryz.prog o ρ σ (.tup [chkD n,.v (.bool (chkB n))]):=by subst hm;exact yd_look ho hx hi hn
theorem kind8 {x:Sch} (hV:Vld x) {k:Knd} {f:Fld} (hk:k∈x.kinds) (hf:f∈k.fields):0≤f.kind∧f.kind≤8:=by
 have h1:=hV.kinds k hk
 simp only [ag2,Bool.and_eq_true,List.all_eq_true] at h1
 have h2:=h1.2 f hf
 simp only [aa9,Bool.and_eq_true] at h2
 have h3:=h2.2
 unfold ak7 at h3
 repeat (split at h3;omega)
 cases h3
theorem ay4 (x y z:Nat × Blk) (s:aa1):(x :: y :: z :: s).Perm (s ++ [x,y,z]):=List.perm_append_comm (l₁:=[x,y,z]) (l₂:=s)
theorem ao2 (x y z:Nat × Blk) (s:aa1):(s ++ [x,y,z]).Perm (x :: y :: z :: s):=(ay4 x y z s).symm
theorem sk69 {A B:Prop} (k:B) (h:Hd7 B→A:=by intro hk7q;(first|refine sb0 ?_|refine sb1 ?_|((with_reducible refine' Cp.by ?hc ?_);(case hc=>first|exact ad2 _ _|exact ad1 _ _ _ _|exact ap7 _ _ _ _ _ _ _ _|exact HV|exact ty_kindE _ _ _ (by assumption) (by assumption)|exact ak3 _ _ (by assumption)|exact HC|exact ty_ruleE _ _ _ (by assumption) (by assumption) (by assumption) (by assumption)))|((with_reducible refine' CE.pure ?hc ?_);(case hc=>first|exact ad2 _ _|exact ad1 _ _ _ _|exact ap7 _ _ _ _ _ _ _ _|exact HV|exact ty_kindE _ _ _ (by assumption) (by assumption)|exact ak3 _ _ (by assumption)|exact HC|exact ty_ruleE _ _ _ (by assumption) (by assumption) (by assumption) (by assumption))));exact hk7q.run):A:=h ⟨k⟩
theorem ty_check (x:Sch) (HV:APure Tryz.prog 81 [schD x] (iD (ac9 x))):APure Tryz.prog 64 [schD x] (.sl 4 ((ap8 x).map prbC)):=by
 refine APure.of_call (aa3 mixed aa0 Tryz.func64 (by kernel_rfl) rfl Tryz.ntmps64 rfl ?_);intro BB
 repeat' (first|refine sk69 ?_|(intro b;conv=>whnf)|refine IxM.mk fun y hy=>?_)
 by_cases hv:ac9 x=0
 ·have hV:=vld_of0 hv
  have hl:x.kinds.length≤1000000:=by have:=hV.nk;omega
  have hf:∀ k∈x.kinds,k.fields.length≤1000000:=fun k hk=>by have:=hV.nf k hk;omega
  have hll:x.lives.length≤1000000:=by have:=hV.nl;omega
  have hrl:x.rules.length≤1000000:=by have:=hV.nr;omega
  have hP:ap8 x=upTo x.lives.length (aA2 x) ++ upTo x.kinds.length (ae5 x) ++ upTo x.rules.length (aD1 x):=by unfold ap8;rw [if_pos hv]
  have hnk:=hV.nk
  have hnl:=hV.nl
  have hnr:=hV.nr
  have hnf:=hV.nf
  clear HV
  repeat' (first|refine sk69 ?_|(intro b;conv=>whnf)|refine IxM.mk fun y hy=>?_)
  generalize b=b4
  refine aa6 mixed aa0 (γ:=Nat × Value × aa1) (fun g=>[(28,iD g.1)]) (fun g=>(b4,.cells 128 [.v g.2.1]) :: g.2.2) (fun g=>g.1≤x.lives.length∧RowIs 150 4 ((upTo g.1 (aA2 x)).map prbC) g.2.1 g.2.2) (fun g=>x.lives.length - g.1) (0,.slice none 0 0,[]) (aa2 cl2) cl3 ⟨Nat.zero_le _,RowIs.nil _ _⟩ ?_
  rintro ⟨q,v,s⟩ ⟨hq,hrow⟩
  simp only at hq hrow ⊢
  repeat' (first|refine sk69 ?_|(intro b;conv=>whnf)|refine IxM.mk fun y hy=>?_|(with_reducible refine Br.d (fun hc=>?_) (fun hc=>?_))|(with_reducible refine Br.b (fun hc=>?_) (fun hc=>?_)))
  ·have hy:x.lives[q]?=some y:=hy
   have hS:=ac8 q (aA2 x)
   have hlen:=af6 (aG1 x) q
   rw [show aA2 x q=one (-1) q (-1) (if aq2 x q y then 7 else 0) by simp only [aA2,hy]] at hS
   have HR:APure Tryz.prog 83 [.sl 3 ((x.lives.map lifC).take q),.clo 84 [.ro (lifC y)]] (bD (aq2 x q y)):=by
    rw [← List.map_take];exact any_lif (x.lives.take q) (fun s=>seq s.name y.name) (by simp;omega) (fun z _=>ty_check2' z y)
   refine CE.pk (APk.peek (.cons (Pk.same _) (.cons (Pk.clo (.cons (Pk.ptr (j:=0) rfl (PkL.refl _)) .nil)) .nil)) HR rfl) ?_
   clear HR
   repeat' (first|refine sk69 ?_|(intro b;conv=>whnf)|refine IxM.mk fun y hy=>?_)
   refine CE.own (al3 _ (upTo q (aA2 x)) _ _ _ _ _ _ (by assumption) (by (try simp only [List.length_append]);omega)) (perm1 _ _) (fun s'=>_ :: s') (bf9 _) ?_;rintro _ _ ⟨v',s',rfl,rfl,hr'⟩
   rw [aq8,← hS] at hr'
   repeat' (first|refine sk69 ?_|(intro b;conv=>whnf)|refine IxM.mk fun y hy=>?_)
   exact ⟨(q+1,v',s'),(aa2 cl2),cl3,⟨by simp only;omega,hr'⟩,by simp only;omega⟩
  ·obtain rfl:q=x.lives.length:=by omega
   have hlen1:=af6 (aG1 x) x.lives.length
   generalize hL:upTo x.lives.length (aA2 x)=L at *
   refine aa6 mixed aa0 (γ:=Nat × Value × aa1) (fun g=>[(50,iD g.1)]) (fun g=>(b4,.cells 128 [.v g.2.1]) :: g.2.2) (fun g=>g.1≤x.kinds.length∧RowIs 150 4 ((L ++ upTo g.1 (ae5 x)).map prbC) g.2.1 g.2.2) (fun g=>x.kinds.length - g.1) (0,v,s) (aa2 cl2) cl3 ⟨Nat.zero_le _,by simpa [upTo] using hrow⟩ ?_
   rintro ⟨q,v,s⟩ ⟨hq,hrow⟩
   simp only at hq hrow ⊢
   have hlen2:=af6 (fun i=>bh4 x i hnf) q
   repeat' (first|refine sk69 ?_|(intro b;conv=>whnf)|refine IxM.mk fun y hy=>?_|(with_reducible refine Br.d (fun hc=>?_) (fun hc=>?_))|(with_reducible refine Br.b (fun hc=>?_) (fun hc=>?_)))
   ·have hy:x.kinds[q]?=some y:=hy
    have hyf:=hnf y (List.mem_of_getElem? hy)
    have hyl:y.fields.length≤1000000:=by omega
    have ho1:=aA0 q (-1) (-1) (af8 x q y)
    have hSK:=ac8 q (ae5 x)
    rw [show ae5 x q=one q (-1) (-1) (af8 x q y) ++ upTo y.fields.length (ac5 x q y) by simp only [ae5,hy]] at hSK
    refine CE.own (al3 _ (L ++ upTo q (ae5 x)) _ _ _ _ _ _ (by assumption) (by (try simp only [List.length_append]);omega)) (perm1 _ _) (fun s'=>_ :: s') (bf9 _) ?_;rintro _ _ ⟨v',s',rfl,rfl,hr'⟩
    repeat' (first|refine sk69 ?_|(intro b;conv=>whnf)|refine IxM.mk fun y hy=>?_)
    refine aa6 mixed aa0 (γ:=Nat × Value × aa1) (fun g=>[(64,iD g.1)]) (fun g=>(b,.cells 97 (kndC y)) :: (b4,.cells 128 [.v g.2.1]) :: g.2.2) (fun g=>g.1≤y.fields.length∧RowIs 150 4 ((L ++ upTo q (ae5 x) ++ one q (-1) (-1) (af8 x q y) ++ upTo g.1 (ac5 x q y)).map prbC) g.2.1 g.2.2) (fun g=>y.fields.length - g.1) (0,v',s') (aa2 cl2) cl3 ⟨Nat.zero_le _,by simpa [upTo] using hr'⟩ ?_
    generalize b=b10
    rintro ⟨j,v,s⟩ ⟨hj,hrow2⟩
    simp only at hj hrow2 ⊢
    have hlen3:=af6 (ax8 x q y) j
    have hSF:=ac8 j (ac5 x q y)
    by_cases hjl:j<y.fields.length
    ·obtain ⟨f,hf0⟩:∃ f,y.fields[j]?=some f:=⟨_,List.getElem?_eq_getElem hjl⟩
     have hfa:fieldAt x q j=some f:=by rw [af3 (by omega) (by omega) hy];exact hf0
     rw [show ac5 x q y j=one q j (-1) (al1 x q y j f) by simp only [ac5,hf0]] at hSF
     have hk8:=kind8 hV (List.mem_of_getElem? hy) (List.mem_of_getElem? hf0)
     have hg8:∀ k∈x.kinds,∀ g∈k.fields,0≤g.kind∧g.kind≤8:=fun k hk g hg=>kind8 hV hk hg
     have hyf0:y.fields[((j:Nat):Int).toNat]?=some f:=hf0
     have hk9:f.kind=0∨f.kind=1∨f.kind=2∨f.kind=3∨f.kind=4∨f.kind=5∨f.kind=6∨f.kind=7∨f.kind=8:=by omega
     by_cases hfx:ab7 y f.name<(j:Int)
     ·have he:ao4 [(decide (ab7 y f.name<(j:Int)),7)]=7:=by rw [aq8,if_pos (decide_eq_true hfx)]
      have hFE:al1 x q y j f=7:=by unfold al1;rw [if_pos hfx]
      rw [hFE] at hSF
      rcases hk9 with hk9|hk9|hk9|hk9|hk9|hk9|hk9|hk9|hk9
      ·have hcb:chkB 0=true:=by rfl
       repeat' (first|refine sk69 ?_|(intro b;conv=>whnf)|refine IxM.mk fun y hy=>?_)
       refine Ld.yd (ae4 rfl rfl) ?_
       repeat' (first|refine sk69 ?_|(intro b;conv=>whnf)|refine IxM.mk fun y hy=>?_)
       refine OtE.yd rfl (ah0 (n:=0) rfl rfl rfl hk9 (by omega)) ?_
       repeat' (first|refine sk69 ?_|(intro b;conv=>whnf)|refine IxM.mk fun y hy=>?_)
       refine CE.own (al3 _ (L ++ upTo q (ae5 x) ++ one q (-1) (-1) (af8 x q y) ++ upTo j (ac5 x q y)) _ _ _ _ _ _ (by assumption) (by (try simp only [List.length_append]);omega)) (ay4 _ _ _ _) (fun s'=>_ :: _ :: _ :: s') (ao2 _ _ _) ?_
       rintro _ _ ⟨v',s',rfl,rfl,hr'⟩
       repeat' (first|refine sk69 ?_|(intro b;conv=>whnf)|refine IxM.mk fun y hy=>?_)
       exact ⟨(j+1,v',s'),(aa2 cl2),cl3,⟨by simp only;omega,by simp only;rw [hSF,← List.append_assoc];first|exact hr' | (rw [he] at hr';exact hr')|(rw [hFL];exact hr')⟩,by simp only;omega⟩
      ·have hcb:chkB 1=true:=by rfl
       repeat' (first|refine sk69 ?_|(intro b;conv=>whnf)|refine IxM.mk fun y hy=>?_)
       refine Ld.yd (ae4 rfl rfl) ?_
       repeat' (first|refine sk69 ?_|(intro b;conv=>whnf)|refine IxM.mk fun y hy=>?_)
       refine OtE.yd rfl (ah0 (n:=1) rfl rfl rfl hk9 (by omega)) ?_
       repeat' (first|refine sk69 ?_|(intro b;conv=>whnf)|refine IxM.mk fun y hy=>?_)
       refine CE.own (al3 _ (L ++ upTo q (ae5 x) ++ one q (-1) (-1) (af8 x q y) ++ upTo j (ac5 x q y)) _ _ _ _ _ _ (by assumption) (by (try simp only [List.length_append]);omega)) (ay4 _ _ _ _) (fun s'=>_ :: _ :: _ :: s') (ao2 _ _ _) ?_
       rintro _ _ ⟨v',s',rfl,rfl,hr'⟩
       repeat' (first|refine sk69 ?_|(intro b;conv=>whnf)|refine IxM.mk fun y hy=>?_)
       exact ⟨(j+1,v',s'),(aa2 cl2),cl3,⟨by simp only;omega,by simp only;rw [hSF,← List.append_assoc];first|exact hr' | (rw [he] at hr';exact hr')|(rw [hFL];exact hr')⟩,by simp only;omega⟩
      ·have hcb:chkB 2=false:=by rfl
       repeat' (first|refine sk69 ?_|(intro b;conv=>whnf)|refine IxM.mk fun y hy=>?_)
       refine Ld.yd (ae4 rfl rfl) ?_
       repeat' (first|refine sk69 ?_|(intro b;conv=>whnf)|refine IxM.mk fun y hy=>?_)
       refine OtE.yd rfl (ah0 (n:=2) rfl rfl rfl hk9 (by omega)) ?_
       repeat' (first|refine sk69 ?_|(intro b;conv=>whnf)|refine IxM.mk fun y hy=>?_)
       refine CE.own (al3 _ (L ++ upTo q (ae5 x) ++ one q (-1) (-1) (af8 x q y) ++ upTo j (ac5 x q y)) _ _ _ _ _ _ (by assumption) (by (try simp only [List.length_append]);omega)) (ay4 _ _ _ _) (fun s'=>_ :: _ :: _ :: s') (ao2 _ _ _) ?_
       rintro _ _ ⟨v',s',rfl,rfl,hr'⟩
       repeat' (first|refine sk69 ?_|(intro b;conv=>whnf)|refine IxM.mk fun y hy=>?_)
       exact ⟨(j+1,v',s'),(aa2 cl2),cl3,⟨by simp only;omega,by simp only;rw [hSF,← List.append_assoc];first|exact hr' | (rw [he] at hr';exact hr')|(rw [hFL];exact hr')⟩,by simp only;omega⟩
      ·have hcb:chkB 3=false:=by rfl
       repeat' (first|refine sk69 ?_|(intro b;conv=>whnf)|refine IxM.mk fun y hy=>?_)
       refine Ld.yd (ae4 rfl rfl) ?_
       repeat' (first|refine sk69 ?_|(intro b;conv=>whnf)|refine IxM.mk fun y hy=>?_)
       refine OtE.yd rfl (ah0 (n:=3) rfl rfl rfl hk9 (by omega)) ?_
       repeat' (first|refine sk69 ?_|(intro b;conv=>whnf)|refine IxM.mk fun y hy=>?_)
       refine CE.own (al3 _ (L ++ upTo q (ae5 x) ++ one q (-1) (-1) (af8 x q y) ++ upTo j (ac5 x q y)) _ _ _ _ _ _ (by assumption) (by (try simp only [List.length_append]);omega)) (ay4 _ _ _ _) (fun s'=>_ :: _ :: _ :: s') (ao2 _ _ _) ?_
       rintro _ _ ⟨v',s',rfl,rfl,hr'⟩
       repeat' (first|refine sk69 ?_|(intro b;conv=>whnf)|refine IxM.mk fun y hy=>?_)
       exact ⟨(j+1,v',s'),(aa2 cl2),cl3,⟨by simp only;omega,by simp only;rw [hSF,← List.append_assoc];first|exact hr' | (rw [he] at hr';exact hr')|(rw [hFL];exact hr')⟩,by simp only;omega⟩
      ·have hcb:chkB 4=true:=by rfl
       repeat' (first|refine sk69 ?_|(intro b;conv=>whnf)|refine IxM.mk fun y hy=>?_)
       refine Ld.yd (ae4 rfl rfl) ?_
       repeat' (first|refine sk69 ?_|(intro b;conv=>whnf)|refine IxM.mk fun y hy=>?_)
       refine OtE.yd rfl (ah0 (n:=4) rfl rfl rfl hk9 (by omega)) ?_
       repeat' (first|refine sk69 ?_|(intro b;conv=>whnf)|refine IxM.mk fun y hy=>?_)
       refine CE.own (al3 _ (L ++ upTo q (ae5 x) ++ one q (-1) (-1) (af8 x q y) ++ upTo j (ac5 x q y)) _ _ _ _ _ _ (by assumption) (by (try simp only [List.length_append]);omega)) (ay4 _ _ _ _) (fun s'=>_ :: _ :: _ :: s') (ao2 _ _ _) ?_
       rintro _ _ ⟨v',s',rfl,rfl,hr'⟩
       repeat' (first|refine sk69 ?_|(intro b;conv=>whnf)|refine IxM.mk fun y hy=>?_)
       exact ⟨(j+1,v',s'),(aa2 cl2),cl3,⟨by simp only;omega,by simp only;rw [hSF,← List.append_assoc];first|exact hr' | (rw [he] at hr';exact hr')|(rw [hFL];exact hr')⟩,by simp only;omega⟩
      ·have hcb:chkB 5=true:=by rfl
       repeat' (first|refine sk69 ?_|(intro b;conv=>whnf)|refine IxM.mk fun y hy=>?_)
       refine Ld.yd (ae4 rfl rfl) ?_
       repeat' (first|refine sk69 ?_|(intro b;conv=>whnf)|refine IxM.mk fun y hy=>?_)
       refine OtE.yd rfl (ah0 (n:=5) rfl rfl rfl hk9 (by omega)) ?_
       repeat' (first|refine sk69 ?_|(intro b;conv=>whnf)|refine IxM.mk fun y hy=>?_)
       refine CE.own (al3 _ (L ++ upTo q (ae5 x) ++ one q (-1) (-1) (af8 x q y) ++ upTo j (ac5 x q y)) _ _ _ _ _ _ (by assumption) (by (try simp only [List.length_append]);omega)) (ay4 _ _ _ _) (fun s'=>_ :: _ :: _ :: s') (ao2 _ _ _) ?_
       rintro _ _ ⟨v',s',rfl,rfl,hr'⟩
       repeat' (first|refine sk69 ?_|(intro b;conv=>whnf)|refine IxM.mk fun y hy=>?_)
       exact ⟨(j+1,v',s'),(aa2 cl2),cl3,⟨by simp only;omega,by simp only;rw [hSF,← List.append_assoc];first|exact hr' | (rw [he] at hr';exact hr')|(rw [hFL];exact hr')⟩,by simp only;omega⟩
      ·have hcb:chkB 6=true:=by rfl
       repeat' (first|refine sk69 ?_|(intro b;conv=>whnf)|refine IxM.mk fun y hy=>?_)
       refine Ld.yd (ae4 rfl rfl) ?_
       repeat' (first|refine sk69 ?_|(intro b;conv=>whnf)|refine IxM.mk fun y hy=>?_)
       refine OtE.yd rfl (ah0 (n:=6) rfl rfl rfl hk9 (by omega)) ?_
       repeat' (first|refine sk69 ?_|(intro b;conv=>whnf)|refine IxM.mk fun y hy=>?_)
       refine CE.own (al3 _ (L ++ upTo q (ae5 x) ++ one q (-1) (-1) (af8 x q y) ++ upTo j (ac5 x q y)) _ _ _ _ _ _ (by assumption) (by (try simp only [List.length_append]);omega)) (ay4 _ _ _ _) (fun s'=>_ :: _ :: _ :: s') (ao2 _ _ _) ?_
       rintro _ _ ⟨v',s',rfl,rfl,hr'⟩
       repeat' (first|refine sk69 ?_|(intro b;conv=>whnf)|refine IxM.mk fun y hy=>?_)
       exact ⟨(j+1,v',s'),(aa2 cl2),cl3,⟨by simp only;omega,by simp only;rw [hSF,← List.append_assoc];first|exact hr' | (rw [he] at hr';exact hr')|(rw [hFL];exact hr')⟩,by simp only;omega⟩
      ·have hcb:chkB 7=true:=by rfl
       repeat' (first|refine sk69 ?_|(intro b;conv=>whnf)|refine IxM.mk fun y hy=>?_)
       refine Ld.yd (ae4 rfl rfl) ?_
       repeat' (first|refine sk69 ?_|(intro b;conv=>whnf)|refine IxM.mk fun y hy=>?_)
       refine OtE.yd rfl (ah0 (n:=7) rfl rfl rfl hk9 (by omega)) ?_
       repeat' (first|refine sk69 ?_|(intro b;conv=>whnf)|refine IxM.mk fun y hy=>?_)
       refine CE.own (al3 _ (L ++ upTo q (ae5 x) ++ one q (-1) (-1) (af8 x q y) ++ upTo j (ac5 x q y)) _ _ _ _ _ _ (by assumption) (by (try simp only [List.length_append]);omega)) (ay4 _ _ _ _) (fun s'=>_ :: _ :: _ :: s') (ao2 _ _ _) ?_
       rintro _ _ ⟨v',s',rfl,rfl,hr'⟩
       repeat' (first|refine sk69 ?_|(intro b;conv=>whnf)|refine IxM.mk fun y hy=>?_)
       exact ⟨(j+1,v',s'),(aa2 cl2),cl3,⟨by simp only;omega,by simp only;rw [hSF,← List.append_assoc];first|exact hr' | (rw [he] at hr';exact hr')|(rw [hFL];exact hr')⟩,by simp only;omega⟩
      ·have hcb:chkB 8=true:=by rfl
       repeat' (first|refine sk69 ?_|(intro b;conv=>whnf)|refine IxM.mk fun y hy=>?_)
       refine Ld.yd (ae4 rfl rfl) ?_
       repeat' (first|refine sk69 ?_|(intro b;conv=>whnf)|refine IxM.mk fun y hy=>?_)
       refine OtE.yd rfl (ah0 (n:=8) rfl rfl rfl hk9 (by omega)) ?_
       repeat' (first|refine sk69 ?_|(intro b;conv=>whnf)|refine IxM.mk fun y hy=>?_)
       refine CE.own (al3 _ (L ++ upTo q (ae5 x) ++ one q (-1) (-1) (af8 x q y) ++ upTo j (ac5 x q y)) _ _ _ _ _ _ (by assumption) (by (try simp only [List.length_append]);omega)) (ay4 _ _ _ _) (fun s'=>_ :: _ :: _ :: s') (ao2 _ _ _) ?_
       rintro _ _ ⟨v',s',rfl,rfl,hr'⟩
       repeat' (first|refine sk69 ?_|(intro b;conv=>whnf)|refine IxM.mk fun y hy=>?_)
       exact ⟨(j+1,v',s'),(aa2 cl2),cl3,⟨by simp only;omega,by simp only;rw [hSF,← List.append_assoc];first|exact hr' | (rw [he] at hr';exact hr')|(rw [hFL];exact hr')⟩,by simp only;omega⟩
     ·have he:ao4 [(decide (ab7 y f.name<(j:Int)),7)]=0:=by rw [aq8,if_neg (by simp;omega)]
      have hFL:al1 x q y j f=ac2 x q j f:=by unfold al1;rw [if_neg hfx]
      rcases hk9 with hk9|hk9|hk9|hk9|hk9|hk9|hk9|hk9|hk9
      ·have HC:=ty_check1 x q j f hk9
       have hcb:chkB 0=true:=by rfl
       repeat' (first|refine sk69 ?_|(intro b;conv=>whnf)|refine IxM.mk fun y hy=>?_)
       refine Ld.yd (ae4 rfl rfl) ?_
       repeat' (first|refine sk69 ?_|(intro b;conv=>whnf)|refine IxM.mk fun y hy=>?_)
       refine OtE.yd rfl (ah0 (n:=0) rfl rfl rfl hk9 (by omega)) ?_
       repeat' (first|refine sk69 ?_|(intro b;conv=>whnf)|refine IxM.mk fun y hy=>?_)
       refine CE.own (al3 _ (L ++ upTo q (ae5 x) ++ one q (-1) (-1) (af8 x q y) ++ upTo j (ac5 x q y)) _ _ _ _ _ _ (by assumption) (by (try simp only [List.length_append]);omega)) (ay4 _ _ _ _) (fun s'=>_ :: _ :: _ :: s') (ao2 _ _ _) ?_
       rintro _ _ ⟨v',s',rfl,rfl,hr'⟩
       repeat' (first|refine sk69 ?_|(intro b;conv=>whnf)|refine IxM.mk fun y hy=>?_)
       exact ⟨(j+1,v',s'),(aa2 cl2),cl3,⟨by simp only;omega,by simp only;rw [hSF,← List.append_assoc];first|exact hr' | (rw [he] at hr';exact hr')|(rw [hFL];exact hr')⟩,by simp only;omega⟩
      ·have HC:=ty_check2 x q j f hl hf hk9
       have hcb:chkB 1=true:=by rfl
       repeat' (first|refine sk69 ?_|(intro b;conv=>whnf)|refine IxM.mk fun y hy=>?_)
       refine Ld.yd (ae4 rfl rfl) ?_
       repeat' (first|refine sk69 ?_|(intro b;conv=>whnf)|refine IxM.mk fun y hy=>?_)
       refine OtE.yd rfl (ah0 (n:=1) rfl rfl rfl hk9 (by omega)) ?_
       repeat' (first|refine sk69 ?_|(intro b;conv=>whnf)|refine IxM.mk fun y hy=>?_)
       refine CE.own (al3 _ (L ++ upTo q (ae5 x) ++ one q (-1) (-1) (af8 x q y) ++ upTo j (ac5 x q y)) _ _ _ _ _ _ (by assumption) (by (try simp only [List.length_append]);omega)) (ay4 _ _ _ _) (fun s'=>_ :: _ :: _ :: s') (ao2 _ _ _) ?_
       rintro _ _ ⟨v',s',rfl,rfl,hr'⟩
       repeat' (first|refine sk69 ?_|(intro b;conv=>whnf)|refine IxM.mk fun y hy=>?_)
       exact ⟨(j+1,v',s'),(aa2 cl2),cl3,⟨by simp only;omega,by simp only;rw [hSF,← List.append_assoc];first|exact hr' | (rw [he] at hr';exact hr')|(rw [hFL];exact hr')⟩,by simp only;omega⟩
      ·have HC:ac2 x q j f=0:=by unfold ac2;simp [hk9]
       rw [hFL,HC] at hSF
       clear hFL HC
       have hcb:chkB 2=false:=by rfl
       repeat' (first|refine sk69 ?_|(intro b;conv=>whnf)|refine IxM.mk fun y hy=>?_)
       refine Ld.yd (ae4 rfl rfl) ?_
       repeat' (first|refine sk69 ?_|(intro b;conv=>whnf)|refine IxM.mk fun y hy=>?_)
       refine OtE.yd rfl (ah0 (n:=2) rfl rfl rfl hk9 (by omega)) ?_
       repeat' (first|refine sk69 ?_|(intro b;conv=>whnf)|refine IxM.mk fun y hy=>?_)
       refine CE.own (al3 _ (L ++ upTo q (ae5 x) ++ one q (-1) (-1) (af8 x q y) ++ upTo j (ac5 x q y)) _ _ _ _ _ _ (by assumption) (by (try simp only [List.length_append]);omega)) (ay4 _ _ _ _) (fun s'=>_ :: _ :: _ :: s') (ao2 _ _ _) ?_
       rintro _ _ ⟨v',s',rfl,rfl,hr'⟩
       repeat' (first|refine sk69 ?_|(intro b;conv=>whnf)|refine IxM.mk fun y hy=>?_)
       exact ⟨(j+1,v',s'),(aa2 cl2),cl3,⟨by simp only;omega,by simp only;rw [hSF,← List.append_assoc];first|exact hr' | (rw [he] at hr';exact hr')|(rw [hFL];exact hr')⟩,by simp only;omega⟩
      ·have HC:ac2 x q j f=0:=by unfold ac2;simp [hk9]
       rw [hFL,HC] at hSF
       clear hFL HC
       have hcb:chkB 3=false:=by rfl
       repeat' (first|refine sk69 ?_|(intro b;conv=>whnf)|refine IxM.mk fun y hy=>?_)
       refine Ld.yd (ae4 rfl rfl) ?_
       repeat' (first|refine sk69 ?_|(intro b;conv=>whnf)|refine IxM.mk fun y hy=>?_)
       refine OtE.yd rfl (ah0 (n:=3) rfl rfl rfl hk9 (by omega)) ?_
       repeat' (first|refine sk69 ?_|(intro b;conv=>whnf)|refine IxM.mk fun y hy=>?_)
       refine CE.own (al3 _ (L ++ upTo q (ae5 x) ++ one q (-1) (-1) (af8 x q y) ++ upTo j (ac5 x q y)) _ _ _ _ _ _ (by assumption) (by (try simp only [List.length_append]);omega)) (ay4 _ _ _ _) (fun s'=>_ :: _ :: _ :: s') (ao2 _ _ _) ?_
       rintro _ _ ⟨v',s',rfl,rfl,hr'⟩
       repeat' (first|refine sk69 ?_|(intro b;conv=>whnf)|refine IxM.mk fun y hy=>?_)
       exact ⟨(j+1,v',s'),(aa2 cl2),cl3,⟨by simp only;omega,by simp only;rw [hSF,← List.append_assoc];first|exact hr' | (rw [he] at hr';exact hr')|(rw [hFL];exact hr')⟩,by simp only;omega⟩
      ·have HC:=ty_check3 x q j f hl hf hfa hk9
       have hcb:chkB 4=true:=by rfl
       repeat' (first|refine sk69 ?_|(intro b;conv=>whnf)|refine IxM.mk fun y hy=>?_)
       refine Ld.yd (ae4 rfl rfl) ?_
       repeat' (first|refine sk69 ?_|(intro b;conv=>whnf)|refine IxM.mk fun y hy=>?_)
       refine OtE.yd rfl (ah0 (n:=4) rfl rfl rfl hk9 (by omega)) ?_
       repeat' (first|refine sk69 ?_|(intro b;conv=>whnf)|refine IxM.mk fun y hy=>?_)
       refine CE.own (al3 _ (L ++ upTo q (ae5 x) ++ one q (-1) (-1) (af8 x q y) ++ upTo j (ac5 x q y)) _ _ _ _ _ _ (by assumption) (by (try simp only [List.length_append]);omega)) (ay4 _ _ _ _) (fun s'=>_ :: _ :: _ :: s') (ao2 _ _ _) ?_
       rintro _ _ ⟨v',s',rfl,rfl,hr'⟩
       repeat' (first|refine sk69 ?_|(intro b;conv=>whnf)|refine IxM.mk fun y hy=>?_)
       exact ⟨(j+1,v',s'),(aa2 cl2),cl3,⟨by simp only;omega,by simp only;rw [hSF,← List.append_assoc];first|exact hr' | (rw [he] at hr';exact hr')|(rw [hFL];exact hr')⟩,by simp only;omega⟩
      ·have HC:=ty_check4 x q j f hll hk9
       have hcb:chkB 5=true:=by rfl
       repeat' (first|refine sk69 ?_|(intro b;conv=>whnf)|refine IxM.mk fun y hy=>?_)
       refine Ld.yd (ae4 rfl rfl) ?_
       repeat' (first|refine sk69 ?_|(intro b;conv=>whnf)|refine IxM.mk fun y hy=>?_)
       refine OtE.yd rfl (ah0 (n:=5) rfl rfl rfl hk9 (by omega)) ?_
       repeat' (first|refine sk69 ?_|(intro b;conv=>whnf)|refine IxM.mk fun y hy=>?_)
       refine CE.own (al3 _ (L ++ upTo q (ae5 x) ++ one q (-1) (-1) (af8 x q y) ++ upTo j (ac5 x q y)) _ _ _ _ _ _ (by assumption) (by (try simp only [List.length_append]);omega)) (ay4 _ _ _ _) (fun s'=>_ :: _ :: _ :: s') (ao2 _ _ _) ?_
       rintro _ _ ⟨v',s',rfl,rfl,hr'⟩
       repeat' (first|refine sk69 ?_|(intro b;conv=>whnf)|refine IxM.mk fun y hy=>?_)
       exact ⟨(j+1,v',s'),(aa2 cl2),cl3,⟨by simp only;omega,by simp only;rw [hSF,← List.append_assoc];first|exact hr' | (rw [he] at hr';exact hr')|(rw [hFL];exact hr')⟩,by simp only;omega⟩
      ·have HC:=ty_check5 x q j f (by omega) hl hf hk9
       have hcb:chkB 6=true:=by rfl
       repeat' (first|refine sk69 ?_|(intro b;conv=>whnf)|refine IxM.mk fun y hy=>?_)
       refine Ld.yd (ae4 rfl rfl) ?_
       repeat' (first|refine sk69 ?_|(intro b;conv=>whnf)|refine IxM.mk fun y hy=>?_)
       refine OtE.yd rfl (ah0 (n:=6) rfl rfl rfl hk9 (by omega)) ?_
       repeat' (first|refine sk69 ?_|(intro b;conv=>whnf)|refine IxM.mk fun y hy=>?_)
       refine CE.own (al3 _ (L ++ upTo q (ae5 x) ++ one q (-1) (-1) (af8 x q y) ++ upTo j (ac5 x q y)) _ _ _ _ _ _ (by assumption) (by (try simp only [List.length_append]);omega)) (ay4 _ _ _ _) (fun s'=>_ :: _ :: _ :: s') (ao2 _ _ _) ?_
       rintro _ _ ⟨v',s',rfl,rfl,hr'⟩
       repeat' (first|refine sk69 ?_|(intro b;conv=>whnf)|refine IxM.mk fun y hy=>?_)
       exact ⟨(j+1,v',s'),(aa2 cl2),cl3,⟨by simp only;omega,by simp only;rw [hSF,← List.append_assoc];first|exact hr' | (rw [he] at hr';exact hr')|(rw [hFL];exact hr')⟩,by simp only;omega⟩
      ·have HC:=ty_check6 x q j f hl hf hk9
       have hcb:chkB 7=true:=by rfl
       repeat' (first|refine sk69 ?_|(intro b;conv=>whnf)|refine IxM.mk fun y hy=>?_)
       refine Ld.yd (ae4 rfl rfl) ?_
       repeat' (first|refine sk69 ?_|(intro b;conv=>whnf)|refine IxM.mk fun y hy=>?_)
       refine OtE.yd rfl (ah0 (n:=7) rfl rfl rfl hk9 (by omega)) ?_
       repeat' (first|refine sk69 ?_|(intro b;conv=>whnf)|refine IxM.mk fun y hy=>?_)
       refine CE.own (al3 _ (L ++ upTo q (ae5 x) ++ one q (-1) (-1) (af8 x q y) ++ upTo j (ac5 x q y)) _ _ _ _ _ _ (by assumption) (by (try simp only [List.length_append]);omega)) (ay4 _ _ _ _) (fun s'=>_ :: _ :: _ :: s') (ao2 _ _ _) ?_
       rintro _ _ ⟨v',s',rfl,rfl,hr'⟩
       repeat' (first|refine sk69 ?_|(intro b;conv=>whnf)|refine IxM.mk fun y hy=>?_)
       exact ⟨(j+1,v',s'),(aa2 cl2),cl3,⟨by simp only;omega,by simp only;rw [hSF,← List.append_assoc];first|exact hr' | (rw [he] at hr';exact hr')|(rw [hFL];exact hr')⟩,by simp only;omega⟩
      ·have HC:=ty_check7 x q j f hl hf hg8 hk9
       have hcb:chkB 8=true:=by rfl
       repeat' (first|refine sk69 ?_|(intro b;conv=>whnf)|refine IxM.mk fun y hy=>?_)
       refine Ld.yd (ae4 rfl rfl) ?_
       repeat' (first|refine sk69 ?_|(intro b;conv=>whnf)|refine IxM.mk fun y hy=>?_)
       refine OtE.yd rfl (ah0 (n:=8) rfl rfl rfl hk9 (by omega)) ?_
       repeat' (first|refine sk69 ?_|(intro b;conv=>whnf)|refine IxM.mk fun y hy=>?_)
       refine CE.own (al3 _ (L ++ upTo q (ae5 x) ++ one q (-1) (-1) (af8 x q y) ++ upTo j (ac5 x q y)) _ _ _ _ _ _ (by assumption) (by (try simp only [List.length_append]);omega)) (ay4 _ _ _ _) (fun s'=>_ :: _ :: _ :: s') (ao2 _ _ _) ?_
       rintro _ _ ⟨v',s',rfl,rfl,hr'⟩
       repeat' (first|refine sk69 ?_|(intro b;conv=>whnf)|refine IxM.mk fun y hy=>?_)
       exact ⟨(j+1,v',s'),(aa2 cl2),cl3,⟨by simp only;omega,by simp only;rw [hSF,← List.append_assoc];first|exact hr' | (rw [he] at hr';exact hr')|(rw [hFL];exact hr')⟩,by simp only;omega⟩
    ·obtain rfl:j=y.fields.length:=by omega
     repeat' (first|refine sk69 ?_|(intro b;conv=>whnf)|refine IxM.mk fun y hy=>?_|(with_reducible refine Br.d (fun hc=>?_) (fun hc=>?_))|(with_reducible refine Br.b (fun hc=>?_) (fun hc=>?_)))
     exact ⟨(q+1,v,s),(aa2 cl2),cl3,⟨by simp only;omega,by simp only;rw [hSK];simp only [List.append_assoc] at hrow2 ⊢;exact hrow2⟩,by simp only;omega⟩
   ·obtain rfl:q=x.kinds.length:=by omega
    generalize hM:upTo x.kinds.length (ae5 x)=M at *
    refine aa6 mixed aa0 (γ:=Nat × Value × aa1) (fun g=>[(108,iD g.1)]) (fun g=>(b4,.cells 128 [.v g.2.1]) :: g.2.2) (fun g=>g.1≤x.rules.length∧RowIs 150 4 ((L ++ M ++ upTo g.1 (aD1 x)).map prbC) g.2.1 g.2.2) (fun g=>x.rules.length - g.1) (0,v,s) (aa2 cl2) cl3 ⟨Nat.zero_le _,by simpa [upTo] using hrow⟩ ?_
    rintro ⟨q,v,s⟩ ⟨hq,hrow2⟩
    simp only at hq hrow2 ⊢
    have hlen3:=af6 (bd7 x) q
    have hS:=ac8 q (aD1 x)
    by_cases hql:q<x.rules.length
    ·obtain ⟨r,hr0⟩:∃ r,x.rules[q]?=some r:=⟨_,List.getElem?_eq_getElem hql⟩
     rw [show aD1 x q=one (-1) (-1) q (az8 x q r) by simp only [aD1,hr0]] at hS
     repeat' (first|refine sk69 ?_|(intro b;conv=>whnf)|refine IxM.mk fun y hy=>?_)
     refine CE.own (al3 _ (L ++ M ++ upTo q (aD1 x)) _ _ _ _ _ _ (by assumption) (by (try simp only [List.length_append]);omega)) (as1 _) (fun s'=>s') aq0 ?_;rintro _ _ ⟨v',s',rfl,rfl,hr'⟩
     repeat' (first|refine sk69 ?_|(intro b;conv=>whnf)|refine IxM.mk fun y hy=>?_)
     exact ⟨(q+1,v',s'),(aa2 cl2),cl3,⟨by simp only;omega,by simp only;rw [hS,← List.append_assoc];exact hr'⟩,by simp only;omega⟩
    ·obtain rfl:q=x.rules.length:=by omega
     rw [hP]
     repeat' (first|refine sk69 ?_|(intro b;conv=>whnf)|refine IxM.mk fun y hy=>?_|(with_reducible refine Br.d (fun hc=>?_) (fun hc=>?_))|(with_reducible refine Br.b (fun hc=>?_) (fun hc=>?_)))
     exact Rt.by (Vs.trans (Vs.drop (List.sublist_cons_self _ _)) (Vs.row hrow2 (as1 _))) rfl
 ·have hP:ap8 x=[(-1,-1,-1,ac9 x)]:=by unfold ap8;rw [if_neg hv]
  rw [hP]
  repeat' (first|refine sk69 ?_|(intro b;conv=>whnf)|refine IxM.mk fun y hy=>?_|(with_reducible refine Br.d (fun hc=>?_) (fun hc=>?_))|(with_reducible refine Br.b (fun hc=>?_) (fun hc=>?_)))
  exact Rt.same rfl
end
section
open Go
structure Ss (s:Sb):Prop where
 nk:s.length≤1000
 nr:∀ l∈s,l.length≤1000
theorem lens_no {α β:Type} {a:List (List α)} {b:List (List β)} (h:a.length≠b.length):decide (a.map List.length=b.map List.length)=false:=by
 rw [decide_eq_false_iff_not];intro e;have:=congrArg List.length e;simp at this;exact h this
theorem lens_at {α β:Type} {a:List (List α)} {b:List (List β)} {k:Nat} {l:List α} {m:List β} (h1:a[k]?=some l) (h2:b[k]?=some m) (h:l.length≠m.length):decide (a.map List.length=b.map List.length)=false:=by
 rw [decide_eq_false_iff_not];intro e
 have:=congrArg (fun z=>z[k]?) e
 simp [h1,h2] at this
 exact h this
theorem ba4 {α β:Type} {a:List (List α)} {b:List (List β)} (h:a.length=b.length) (hk:∀ (k:Nat) l m,a[k]?=some l→b[k]?=some m→l.length=m.length):decide (a.map List.length=b.map List.length)=true:=by
 rw [decide_eq_true_eq]
 apply List.ext_getElem?
 intro k
 rw [List.getElem?_map,List.getElem?_map]
 by_cases hl:k<a.length
 ·have hl2:k<b.length:=by omega
  have:=hk k a[k] b[k] (List.getElem?_eq_getElem hl) (List.getElem?_eq_getElem hl2)
  simp [hl,hl2,this]
 ·have hl2:¬ k<b.length:=by omega
  simp [hl,hl2]
theorem ai1 {α β:Type} {a:List (List α)} {b:List (List β)} (h:a.map List.length=b.map List.length) {k:Nat} {l:List α} (hl:a[k]?=some l):∃ m,b[k]?=some m∧m.length=l.length:=by
 have:=congrArg (fun z=>z[k]?) h
 simp [hl] at this
 cases hb:b[k]? with
 | none=>simp [hb] at this
 | some m=>simp [hb] at this;exact ⟨m,rfl,this.symm⟩
theorem aV3 (l:List (List Int)) (m:List Bool):APure Tryz.prog 92 [slW1 l,slB m] (bD (decide ((l.length:Int)=m.length))):=by
 refine APure.of_call (aa3 mixed aa0 Tryz.func92 (by kernel_rfl) rfl Tryz.ntmps92 rfl ?_);intro BB
 repeat' (first|refine sk2 ?_|(intro b;conv=>whnf))
 refine Rt.pure (congrArg bD ?_);simp
theorem sk70 {A B:Prop} (k:B) (h:Hd7 B→A:=by intro hk7q;(first|refine sb0 ?_|refine sb1 ?_|((with_reducible refine' Cp.by ?hc ?_);(case hc=>exact aV3 _ _))|((with_reducible refine' CE.pure ?hc ?_);(case hc=>exact aV3 _ _)));exact hk7q.run):A:=h ⟨k⟩
theorem eqf_ws (w:Wd) (s:Sb) (hw:w.length≤1000):APure Tryz.prog 91 [slW w,slS2 s,.v (.func (.func 92) #[] #[])] (bD (aO1 w s)):=by
 refine APure.of_call (aa3 mixed aa0 Tryz.func91 (by kernel_rfl) rfl Tryz.ntmps91 rfl ?_);intro BB
 repeat' (first|refine sk70 ?_|(intro b;conv=>whnf)|(with_reducible refine Br.d (fun hc=>?_) (fun hc=>?_))|(with_reducible refine Br.b (fun hc=>?_) (fun hc=>?_)))
 rotate_left
 ·refine Rt.pure (congrArg bD ?_);exact (lens_no (by omega)).symm
 have hlen:w.length=s.length:=by omega
 refine aa6 mixed aa0 (γ:=Nat) (fun j=>[(17,iD j)]) (fun _=>[]) (fun j=>j≤w.length∧∀ (k:Nat) l m,k<j→w[k]?=some l→s[k]?=some m→l.length=m.length) (fun j=>w.length - j) 0 (aa2 cl2) cl3 ⟨Nat.zero_le _,fun k l m h=>by omega⟩ ?_
 rintro j ⟨hj,hno⟩
 by_cases hjl:j<w.length
 ·obtain ⟨l,hl⟩:∃ l,w[j]?=some l:=⟨_,List.getElem?_eq_getElem hjl⟩
  have hl':w[((j:Nat):Int).toNat]?=some l:=hl
  obtain ⟨m,hm⟩:∃ m,s[j]?=some m:=⟨_,List.getElem?_eq_getElem (by omega)⟩
  have hm':s[((j:Nat):Int).toNat]?=some m:=hm
  repeat' (first|refine sk70 ?_|(intro b;conv=>whnf)|(with_reducible refine Br.d (fun hc=>?_) (fun hc=>?_))|(with_reducible refine Br.b (fun hc=>?_) (fun hc=>?_)))
  ·refine ⟨j+1,(aa2 cl2),cl3,⟨by omega,fun k l' m' hk hl2 hm2=>?_⟩,by omega⟩
   by_cases e:k=j
   ·subst e;cases hl.symm.trans hl2;cases hm.symm.trans hm2;omega
   ·exact hno k l' m' (by omega) hl2 hm2
  ·refine Rt.pure (congrArg bD ?_);exact (lens_at hl hm (by omega)).symm
 ·obtain rfl:j=w.length:=by omega
  repeat' (first|refine sk70 ?_|(intro b;conv=>whnf))
  refine Rt.pure (congrArg bD ?_)
  exact (ba4 hlen (fun k l m h1 h2=>hno k l m (List.getElem?_eq_some_iff.1 h1).1 h1 h2)).symm
theorem sk71 {A B:Prop} (k:B) (h:Hd7 B→A:=by intro hk7q;(first|refine sb0 ?_|refine sb1 ?_|((with_reducible refine' Cp.by ?hc ?_);(case hc=>exact eqf_ws _ _ (by assumption)))|((with_reducible refine' CE.pure ?hc ?_);(case hc=>exact eqf_ws _ _ (by assumption))));exact hk7q.run):A:=h ⟨k⟩
theorem cl_shaped (w:Wd) (s:Sb) (hw:w.length≤1000):APure Tryz.prog 66 [slW w,slS2 s] (bD (aO1 w s)):=by
 refine APure.of_call (aa3 mixed aa0 Tryz.func66 (by kernel_rfl) rfl Tryz.ntmps66 rfl ?_);intro BB
 repeat' (first|refine sk71 ?_|(intro b;conv=>whnf))
 refine Rt.pure (congrArg bD ?_);rfl
theorem aT4 (w:Wd) (s:Sb) (hw:w.length≤1000):APure Tryz.prog 26 [slW w,slS2 s] (bD (aO1 w s)):=by
 refine APure.of_call (aa3 mixed aa0 Tryz.func26 (by kernel_rfl) rfl Tryz.ntmps26 rfl ?_);intro BB
 repeat' (first|refine sk2 ?_|(intro b;conv=>whnf)|(with_reducible refine Br.d (fun hc=>?_) (fun hc=>?_))|(with_reducible refine Br.b (fun hc=>?_) (fun hc=>?_)))
 rotate_left
 ·refine Rt.pure (congrArg bD ?_);exact (lens_no (by omega)).symm
 have hlen:w.length=s.length:=by omega
 refine aa6 mixed aa0 (γ:=Nat) (fun j=>[(5,iD j)]) (fun _=>[]) (fun j=>j≤w.length∧∀ (k:Nat) l m,k<j→w[k]?=some l→s[k]?=some m→l.length=m.length) (fun j=>w.length - j) 0 (aa2 cl2) cl3 ⟨Nat.zero_le _,fun k l m h=>by omega⟩ ?_
 rintro j ⟨hj,hno⟩
 by_cases hjl:j<w.length
 ·obtain ⟨l,hl⟩:∃ l,w[j]?=some l:=⟨_,List.getElem?_eq_getElem hjl⟩
  have hl':w[((j:Nat):Int).toNat]?=some l:=hl
  obtain ⟨m,hm⟩:∃ m,s[j]?=some m:=⟨_,List.getElem?_eq_getElem (by omega)⟩
  have hm':s[((j:Nat):Int).toNat]?=some m:=hm
  repeat' (first|refine sk2 ?_|(intro b;conv=>whnf)|(with_reducible refine Br.d (fun hc=>?_) (fun hc=>?_))|(with_reducible refine Br.b (fun hc=>?_) (fun hc=>?_)))
  ·refine ⟨j+1,(aa2 cl2),cl3,⟨by omega,fun k l' m' hk hl2 hm2=>?_⟩,by omega⟩
   by_cases e:k=j
   ·subst e;cases hl.symm.trans hl2;cases hm.symm.trans hm2;omega
   ·exact hno k l' m' (by omega) hl2 hm2
  ·refine Rt.pure (congrArg bD ?_);exact (lens_at hl hm (by omega)).symm
 ·obtain rfl:j=w.length:=by omega
  repeat' (first|refine sk2 ?_|(intro b;conv=>whnf))
  refine Rt.pure (congrArg bD ?_)
  exact (ba4 hlen (fun k l m h1 h2=>hno k l m (List.getElem?_eq_some_iff.1 h1).1 h1 h2)).symm
theorem bf5 {x:Sch}:((ap8 x).length:Int)=0↔ap8 x=[]:=by simp
theorem sk72 {A B:Prop} (k:B) (h:Hd7 B→A:=by intro hk7q;(first|refine sb0 ?_|refine sb1 ?_|((with_reducible refine' Cp.by ?hc ?_);(case hc=>first|exact HC|exact HF|exact cl_shaped _ _ (by assumption)))|((with_reducible refine' CE.pure ?hc ?_);(case hc=>first|exact HC|exact HF|exact cl_shaped _ _ (by assumption))));exact hk7q.run):A:=h ⟨k⟩
theorem aI8 (x:Sch) (w:Wd) (s:Sb) (hw:Ws w) (HV:APure Tryz.prog 81 [schD x] (iD (ac9 x))):APure Tryz.prog 39 [schD x,slW w,slS2 s] (iD (ac0 x w s)):=by
 have HC:=ty_check x HV
 have hwl:=hw.nk
 by_cases hp:ap8 x=[]
 ·have HF:=cl_fits x (snd_of hp) w hw
  have hp0:(ap8 x).length=0:=by rw [hp];rfl
  refine APure.of_call (aa3 mixed aa0 Tryz.func39 (by kernel_rfl) rfl Tryz.ntmps39 rfl ?_);intro BB
  repeat' (first|refine sk72 ?_|(intro b;conv=>whnf)|(with_reducible refine Br.d (fun hc=>?_) (fun hc=>?_))|(with_reducible refine Br.b (fun hc=>?_) (fun hc=>?_)))
  all_goals (refine Rt.pure (congrArg iD ?_);unfold ac0;rw [if_neg (by omega)];simp [*])
 ·have hp0:((ap8 x).length:Int)≠0:=fun h=>hp (bf5.1 h)
  have HF:=True.intro
  refine APure.of_call (aa3 mixed aa0 Tryz.func39 (by kernel_rfl) rfl Tryz.ntmps39 rfl ?_);intro BB
  repeat' (first|refine sk72 ?_|(intro b;conv=>whnf)|(with_reducible refine Br.d (fun hc=>?_) (fun hc=>?_))|(with_reducible refine Br.b (fun hc=>?_) (fun hc=>?_)))
  refine Rt.pure (congrArg iD ?_);unfold ac0;rw [if_pos (by omega)]
theorem sk73 {A B:Prop} (k:B) (h:Hd7 B→A:=by intro hk7q;(first|refine sb0 ?_|refine sb1 ?_|((with_reducible refine' Cp.by ?hc ?_);(case hc=>first|exact HC|exact HF|exact aT4 _ _ (by assumption)))|((with_reducible refine' CE.pure ?hc ?_);(case hc=>first|exact HC|exact HF|exact aT4 _ _ (by assumption))));exact hk7q.run):A:=h ⟨k⟩
theorem aD2 (x:Sch) (w:Wd) (s:Sb) (hw:Ws w) (HV:APure Tryz.prog 94 [schD x] (iD (ac9 x))):APure Tryz.prog 43 [schD x,slW w,slS2 s] (iD (ac0 x w s)):=by
 have HC:=r10_check x HV
 have hwl:=hw.nk
 by_cases hp:ap8 x=[]
 ·have HF:=r31_fits x (snd_of hp) w hw
  have hp0:(ap8 x).length=0:=by rw [hp];rfl
  refine APure.of_call (aa3 mixed aa0 Tryz.func43 (by kernel_rfl) rfl Tryz.ntmps43 rfl ?_);intro BB
  repeat' (first|refine sk73 ?_|(intro b;conv=>whnf)|(with_reducible refine Br.d (fun hc=>?_) (fun hc=>?_))|(with_reducible refine Br.b (fun hc=>?_) (fun hc=>?_)))
  all_goals (refine Rt.pure (congrArg iD ?_);unfold ac0;rw [if_neg (by omega)];simp [*])
 ·have hp0:((ap8 x).length:Int)≠0:=fun h=>hp (bf5.1 h)
  have HF:=True.intro
  refine APure.of_call (aa3 mixed aa0 Tryz.func43 (by kernel_rfl) rfl Tryz.ntmps43 rfl ?_);intro BB
  repeat' (first|refine sk73 ?_|(intro b;conv=>whnf)|(with_reducible refine Br.d (fun hc=>?_) (fun hc=>?_))|(with_reducible refine Br.b (fun hc=>?_) (fun hc=>?_)))
  refine Rt.pure (congrArg iD ?_);unfold ac0;rw [if_pos (by omega)]
end
section
open Go
theorem at6 {s:Sb} {k i:Nat} {l:List Bool} {b:Bool} (h1:s[k]?=some l) (h2:l[i]?=some b):keptB s k i=b:=by
 unfold keptB;rw [aa4 h1,aa4 h2]
theorem all_pos {s:Sb} {p:Nat × Nat→Bool}:(aw7 s).all p=true↔∀ (k:Nat) l,s[k]?=some l→∀ i,i<l.length→p (k,i)=true:=by
 rw [List.all_eq_true]
 constructor
 ·intro h k l hl i hi
  exact h (k,i) (aP5.2 ⟨(List.getElem?_eq_some_iff.1 hl).1,by rw [aa4 hl];exact hi⟩)
 ·intro h q hq
  obtain ⟨h1,h2⟩:=aP5.1 hq
  rw [aa4 (List.getElem?_eq_getElem h1)] at h2
  exact h q.1 _ (List.getElem?_eq_getElem h1) q.2 h2
theorem all_pos_no {s:Sb} {p:Nat × Nat→Bool} {k i:Nat} {l:List Bool} (h1:s[k]?=some l) (h2:i<l.length) (hp:p (k,i)=false):(aw7 s).all p=false:=by
 rw [Bool.eq_false_iff]
 intro h
 have:=all_pos.1 h k l h1 i h2
 rw [hp] at this;cases this
theorem bb3 {s:Sb} {j:Nat} {l:List Bool} (h:s[j]?=some l):((s.take (j+1)).map fun l=>l.countP id).sum=((s.take j).map fun l=>l.countP id).sum+l.countP id:=by
 rw [List.take_add_one,h];simp
theorem aE1:∀ {s:Sb} (_:∀ l∈s,l.length≤1000) (j:Nat),((s.take j).map fun l=>l.countP id).sum≤j*1000
 | [],_,j=>by simp
 | l :: s,_,0=>by simp
 | l :: s,h,j+1=>by
  have h1:=h l (by simp)
  have h2:=aE1 (s:=s) (fun l hl=>h l (by simp [hl])) j
  have h3:l.countP id≤l.length:=List.countP_le_length
  simp only [List.take_succ_cons,List.map_cons,List.sum_cons]
  omega
theorem aL1 {l:List Bool} {i:Nat} {b:Bool} (h:l[i]?=some b):(l.take (i+1)).countP id=(l.take i).countP id+(if b=true then 1 else 0):=by
 rw [List.take_add_one,h];cases b <;> simp
theorem r31_size (s:Sb) (hs:Ss s):APure Tryz.prog 31 [slS2 s] (iD (am8 s)):=by
 have hsl:=hs.nk
 refine APure.of_call (aa3 mixed aa0 Tryz.func31 (by kernel_rfl) rfl Tryz.ntmps31 rfl ?_);intro BB
 repeat' (first|refine sk2 ?_|(intro b;conv=>whnf))
 refine aa6 mixed aa0 (γ:=Nat) (fun j=>[(3,iD ((((s.take j).map fun l=>l.countP id).sum:Nat):Int)),(4,iD j)]) (fun _=>[]) (fun j=>j≤s.length) (fun j=>s.length - j) 0 (aa2 cl2) cl3 (Nat.zero_le _) ?_
 rintro j hj
 have hc1:=aE1 hs.nr j
 by_cases hjl:j<s.length
 ·obtain ⟨l,hl⟩:∃ l,s[j]?=some l:=⟨_,List.getElem?_eq_getElem hjl⟩
  have hl':s[((j:Nat):Int).toNat]?=some l:=hl
  have hc2:=bb3 hl
  have hll:=hs.nr l (List.mem_of_getElem? hl)
  generalize hN:((s.take j).map fun l=>l.countP id).sum=N at *
  repeat' (first|refine sk2 ?_|(intro b;conv=>whnf))
  refine aa6 mixed aa0 (γ:=Nat) (fun i=>[(3,iD ((N+(l.take i).countP id:Nat):Int)),(5,iD i)]) (fun _=>[]) (fun i=>i≤l.length) (fun i=>l.length - i) 0 (aa2 cl7) cl3 (Nat.zero_le _) ?_
  rintro i hi
  have hc3:(l.take i).countP id≤(l.take i).length:=List.countP_le_length
  rw [List.length_take] at hc3
  by_cases hil:i<l.length
  ·obtain ⟨b,hb⟩:∃ b,l[i]?=some b:=⟨_,List.getElem?_eq_getElem hil⟩
   have hb':l[((i:Nat):Int).toNat]?=some b:=hb
   have hc4:=aL1 hb
   cases b <;> simp only [Bool.false_eq_true,if_false,if_true,Nat.add_zero] at hc4
   ·repeat' (first|refine sk2 ?_|(intro b;conv=>whnf))
    exact ⟨i+1,(aa2 cl7),cl3,by omega,by omega⟩
   ·repeat' (first|refine sk2 ?_|(intro b;conv=>whnf))
    exact ⟨i+1,(aa2 cl7),cl3,by omega,by omega⟩
  ·obtain rfl:i=l.length:=by omega
   rw [List.take_of_length_le (Nat.le_refl _)] at hc3
   repeat' (first|refine sk2 ?_|(intro b;conv=>whnf))
   exact ⟨j+1,aa2 (.cons (congrArg (fun n=>some (iD n)) (by rw [hc2,List.take_of_length_le (Nat.le_refl _)])) cl2),cl3,by omega,by omega⟩
 ·obtain rfl:j=s.length:=by omega
  repeat' (first|refine sk2 ?_|(intro b;conv=>whnf))
  refine Rt.pure (congrArg iD ?_)
  unfold am8
  rw [List.take_of_length_le (Nat.le_refl _)]
end
section
open Go
theorem cl_less1 (l m:List Bool):APure Tryz.prog 57 [slB l,slB m] (bD (decide ((l.length:Int)=m.length))):=by
 refine APure.of_call (aa3 mixed aa0 Tryz.func57 (by kernel_rfl) rfl Tryz.ntmps57 rfl ?_);intro BB
 repeat' (first|refine sk2 ?_|(intro b;conv=>whnf))
 refine Rt.pure (congrArg bD ?_);simp
theorem sk74 {A B:Prop} (k:B) (h:Hd7 B→A:=by intro hk7q;(first|refine sb0 ?_|refine sb1 ?_|((with_reducible refine' Cp.by ?hc ?_);(case hc=>exact cl_less1 _ _))|((with_reducible refine' CE.pure ?hc ?_);(case hc=>exact cl_less1 _ _)));exact hk7q.run):A:=h ⟨k⟩
theorem eqf_ss (w s:Sb) (hw:w.length≤1000):APure Tryz.prog 56 [slS2 w,slS2 s,.v (.func (.func 57) #[] #[])] (bD (sameLens w s)):=by
 refine APure.of_call (aa3 mixed aa0 Tryz.func56 (by kernel_rfl) rfl Tryz.ntmps56 rfl ?_);intro BB
 repeat' (first|refine sk74 ?_|(intro b;conv=>whnf)|(with_reducible refine Br.d (fun hc=>?_) (fun hc=>?_))|(with_reducible refine Br.b (fun hc=>?_) (fun hc=>?_)))
 rotate_left
 ·refine Rt.pure (congrArg bD ?_);exact (lens_no (by omega)).symm
 have hlen:w.length=s.length:=by omega
 refine aa6 mixed aa0 (γ:=Nat) (fun j=>[(17,iD j)]) (fun _=>[]) (fun j=>j≤w.length∧∀ (k:Nat) l m,k<j→w[k]?=some l→s[k]?=some m→l.length=m.length) (fun j=>w.length - j) 0 (aa2 cl2) cl3 ⟨Nat.zero_le _,fun k l m h=>by omega⟩ ?_
 rintro j ⟨hj,hno⟩
 by_cases hjl:j<w.length
 ·obtain ⟨l,hl⟩:∃ l,w[j]?=some l:=⟨_,List.getElem?_eq_getElem hjl⟩
  have hl':w[((j:Nat):Int).toNat]?=some l:=hl
  obtain ⟨m,hm⟩:∃ m,s[j]?=some m:=⟨_,List.getElem?_eq_getElem (by omega)⟩
  have hm':s[((j:Nat):Int).toNat]?=some m:=hm
  repeat' (first|refine sk74 ?_|(intro b;conv=>whnf)|(with_reducible refine Br.d (fun hc=>?_) (fun hc=>?_))|(with_reducible refine Br.b (fun hc=>?_) (fun hc=>?_)))
  ·refine ⟨j+1,(aa2 cl2),cl3,⟨by omega,fun k l' m' hk hl2 hm2=>?_⟩,by omega⟩
   by_cases e:k=j
   ·subst e;cases hl.symm.trans hl2;cases hm.symm.trans hm2;omega
   ·exact hno k l' m' (by omega) hl2 hm2
  ·refine Rt.pure (congrArg bD ?_);exact (lens_at hl hm (by omega)).symm
 ·obtain rfl:j=w.length:=by omega
  repeat' (first|refine sk74 ?_|(intro b;conv=>whnf))
  refine Rt.pure (congrArg bD ?_)
  exact (ba4 hlen (fun k l m h1 h2=>hno k l m (List.getElem?_eq_some_iff.1 h1).1 h1 h2)).symm
end
section
open Go
def aD3 (s:Sb) (k i:Nat):List (Nat × Nat):=upTo k (fun k=>(List.range (s.getD k []).length).map fun i=>(k,i)) ++ (List.range i).map fun i=>(k,i)
def al6 (s:Sb) (k i:Nat):List (Nat × Nat):=(aD3 s k i).filter fun p=>keptB s p.1 p.2
theorem aI2 (s:Sb) (k i:Nat):aD3 s k (i+1)=aD3 s k i ++ [(k,i)]:=by simp [aD3,List.range_succ]
theorem bf6 {s:Sb} {k:Nat} {l:List Bool} (h:s[k]?=some l):aD3 s (k+1) 0=aD3 s k l.length:=by
 simp [aD3,ac8,List.getD_eq_getElem?_getD,h]
theorem bf7 (s:Sb):aD3 s s.length 0=aw7 s:=by simp [aD3,aw7]
theorem upTo_pre {α:Type} (g:Nat→List α) {q n:Nat} (h:q≤n):upTo q g <+: upTo n g:=by
 induction n with
 | zero=>rw [show q=0 by omega];exact List.prefix_refl _
 | succ n ih=>
  by_cases e:q=n+1
  ·rw [e];exact List.prefix_refl _
  ·rw [ac8];exact (ih (by omega)).trans (List.prefix_append _ _)
theorem range_pre {i n:Nat} (h:i≤n):List.range i <+: List.range n:=by
 obtain ⟨d,rfl⟩:∃ d,n=i+d:=⟨n - i,by omega⟩
 rw [List.range_add];exact List.prefix_append _ _
theorem posTo_pre {s:Sb} {k i:Nat} {l:List Bool} (h:s[k]?=some l) (hi:i≤l.length):aD3 s k i <+: aw7 s:=by
 have hk:=(List.getElem?_eq_some_iff.1 h).1
 have h1:aD3 s k i <+: upTo (k+1) (fun k=>(List.range (s.getD k []).length).map fun i=>(k,i)):=by
  rw [ac8]
  unfold aD3
  refine (List.prefix_append_right_inj _).2 ?_
  rw [aa4 h]
  exact (range_pre hi).map _
 exact h1.trans (upTo_pre _ (by omega))
theorem aU3 {s:Sb} {k i:Nat} (h:keptB s k i=true):al6 s k (i+1)=al6 s k i ++ [(k,i)]:=by
 unfold al6;rw [aI2,List.filter_append];simp [h]
theorem keptTo_no {s:Sb} {k i:Nat} (h:keptB s k i=false):al6 s k (i+1)=al6 s k i:=by
 unfold al6;rw [aI2,List.filter_append];simp [h]
theorem keptTo_row {s:Sb} {k:Nat} {l:List Bool} (h:s[k]?=some l):al6 s (k+1) 0=al6 s k l.length:=by
 unfold al6;rw [bf6 h]
theorem aU5 (s:Sb):al6 s s.length 0=ag1 s:=by unfold al6 ag1;rw [bf7]
theorem aU4 {s:Sb} {k i:Nat} {l:List Bool} (h:s[k]?=some l) (hi:i≤l.length):al6 s k i <+: ag1 s:=(posTo_pre h hi).filter _
theorem aU6 {s:Sb} {k i:Nat} {l:List Bool} (h:s[k]?=some l) (hi:i<l.length) (hb:keptB s k i=true):(ag1 s)[(al6 s k i).length]?=some (k,i):=by
 obtain ⟨r,hr⟩:=aU4 h (Nat.succ_le_of_lt hi)
 rw [← hr,aU3 hb,List.append_assoc,List.getElem?_append_right (Nat.le_refl _)]
 simp
theorem at7 {s:Sb} {p:Nat × Nat}:p∈ag1 s↔keptB s p.1 p.2=true:=by
 unfold ag1
 rw [List.mem_filter]
 exact ⟨fun h=>h.2,fun h=>⟨aG5 h,h⟩⟩
theorem aQ1 (s:Sb):(ag1 s).Nodup:=(aD4 s).filter _
end
section
open Go Go.RowKit Go.Shelf
attribute [local go_sem] Oper.semAt_some
theorem aA7 (s:Sb):APure Tryz.prog 46 [slS2 s] (.clo 69 [.ro [slS2 s]]):=by
 refine APure.of_call (aa3 mixed aa0 Tryz.func46 (by kernel_rfl) rfl Tryz.ntmps46 rfl ?_);intro BB
 repeat' (first|refine sk2 ?_|(intro b;conv=>whnf))
 exact Rt.pure rfl
theorem kept1_in (s:Sb) (hs:Ss s) (l:Nat) (O:Nat→Prop) (J Jx:Nat→World→Prop) (W:World) (b0 o0:Nat) (ad:Option Addr) (cap:Nat) (va:Nat→Value)
  (h0b:¬ O b0∧b0<W.heap.size) (h0:W.cell? ⟨b0,o0,none⟩=some (.slice ad s.length cap))
  (h1:∀ (k:Nat) m,s[k]?=some m→∃ b off a2 c2,ad=some ⟨b,off,none⟩∧¬ O b∧b<W.heap.size∧W.cell? ⟨b,off+k,none⟩=some (.slice a2 m.length c2) ∧
   ∀ (i:Nat) x,m[i]?=some x→∃ b' off',a2=some ⟨b',off',none⟩∧¬ O b'∧b' < W.heap.size∧W.cell? ⟨b',off' + i,none⟩=some (.bool x))
  (hY:∀ (k:Nat) (p:Nat × Nat) W1,(ag1 s)[k]?=some p→J k W1→YieldAt Fence.wide 7 Tryz.prog l #[.agg #[.int .i64 p.1,.int .i64 p.2]] W1 fun e W'=>
    (e = .returned (.bool true)∧J (k+1) W'∧W1.heap.size≤W'.heap.size∧∀ b,b<W.heap.size→¬ O b→W'.heap[b]?=W1.heap[b]?)∨(e = .returned (.bool false)∧Jx (k+1) W'))
  (hJ:J 0 W):CallsIn Fence.wide 8 Tryz.prog 69 #[.func (.yield l) #[] #[],.pointer (some ⟨b0,o0,none⟩)] W fun e W'=>∃ v,e = .returned v∧(J (ag1 s).length W'∨∃ k,Jx k W'):=by
 refine callsIn_of_wp Tryz.func69 rfl trivial ?_ rfl
 simp only [Tryz.ntmps69,List.size_toArray,List.length_cons,List.length_nil,Nat.reduceAdd,Nat.reduceSub,Array.replicate_succ,Array.replicate_zero,List.push_toArray,List.append_toArray,List.nil_append,List.cons_append]
 have cellK:∀ (wr:World),(∀ b,b<W.heap.size→¬ O b→wr.heap[b]?=W.heap[b]?)→∀ (b o:Nat) (v:Value),b<W.heap.size→¬ O b→W.cell? ⟨b,o,none⟩=some v→wr.cell? ⟨b,o,none⟩=some v:=
  fun wr h b o v hb hn hc=>(World.cell?_of_block (w:=W) (a:=⟨b,o,none⟩) (h b hb hn)).trans hc
 have hsl:=hs.nk
 gi_wp2
 gi_loopw [9] (fun i wr=>∃ k:Nat,k≤s.length∧i = .int .i64 k∧J (al6 s k 0).length wr∧W.heap.size≤wr.heap.size∧∀ b,b<W.heap.size→¬ O b→wr.heap[b]?=W.heap[b]?) (fun i _=>s.length - (intOf i).toNat)
 case atStart=>exact ⟨0,Nat.zero_le _,rfl,hJ,Nat.le_refl _,fun _ _ _=>rfl⟩
 case round=>
  obtain ⟨k,hk,rfl,hJs,hzs,hks⟩:=hrel
  by_cases hlt:k<s.length
  ·obtain ⟨m,hm⟩:∃ m,s[k]?=some m:=⟨_,List.getElem?_eq_getElem hlt⟩
   have hml:=hs.nr m (List.mem_of_getElem? hm)
   obtain ⟨b,off,a2,c2,rfl,hb1,hb2,hb3,hb4⟩:=h1 k m hm
   have hrow:=cellK wr hks b (off+k) _ hb2 hb1 hb3
   gi_wp2
   gi_loopw [16] (fun i wr=>∃ j:Nat,j≤m.length∧i = .int .i64 j∧J (al6 s k j).length wr∧W.heap.size≤wr.heap.size∧∀ b,b<W.heap.size→¬ O b→wr.heap[b]?=W.heap[b]?) (fun i _=>m.length - (intOf i).toNat)
   case atStart=>exact ⟨0,Nat.zero_le _,rfl,hJs,hzs,hks⟩
   case round=>
    clear hJs hzs hks hrow
    obtain ⟨j,hj,rfl,hJs,hzs,hks⟩:=hrel
    by_cases hjl:j<m.length
    ·obtain ⟨x,hx⟩:∃ x,m[j]?=some x:=⟨_,List.getElem?_eq_getElem hjl⟩
     obtain ⟨b',off',rfl,hc1,hc2,hc3⟩:=hb4 j x hx
     have hcell:=cellK wr hks b' (off' + j) _ hc2 hc1 hc3
     have hkb:=at6 hm hx
     cases x
     ·gi_wp2
      refine ⟨fun _ h=>(by cases h),?_⟩
      gi_wp2
      go_roundw
      case rel=>exact ⟨j+1,by omega,by simp,by rw [keptTo_no hkb];exact hJs,hzs,hks⟩
      case measure=>simp [intOf];omega
     ·obtain ⟨fn,tmps,assign,body,hy,hR⟩:=hY _ (k,j) wr (aU6 hm hjl hkb) hJs
      gi_wp2
      refine hR.mono ?_
      rintro e W3 (⟨rfl,hJ3,hz3,hk3⟩|⟨rfl,hJx3⟩)
      ·gi_wp2
       go_roundw
       case rel=>exact ⟨j+1,by omega,by simp,by rw [aU3 hkb,List.length_append];exact hJ3,Nat.le_trans hzs hz3,fun b hb hn=>(hk3 b hb hn).trans (hks b hb hn)⟩
       case measure=>simp [intOf];omega
      ·gi_wp2
       refine bodyPost_ret (results_none rfl _ _ _) rfl ?_
       exact ⟨_,rfl,.inr ⟨_,hJx3⟩⟩
    ·obtain rfl:j=m.length:=by omega
     gi_wp2
     go_roundw
     case rel=>exact ⟨k+1,by omega,by simp,by rw [keptTo_row hm];exact hJs,hzs,hks⟩
     case measure=>simp [intOf];omega
  ·obtain rfl:k=s.length:=by omega
   gi_wp2
   go_end0
   exact ⟨_,rfl,.inl (by rw [aU5] at hJs;exact hJs)⟩
theorem aA4 (s:Sb) (hs:Ss s):AIter Tryz.prog 69 [.ro [slS2 s]] ((ag1 s).map fun p=>[atD p.1 p.2]):=by
 refine ⟨enters_of Tryz.func69 (by kernel_rfl) rfl,fun O W lb hlb=>?_⟩
 refine ⟨(ag1 s).map fun p=>[.agg #[.int .i64 p.1,.int .i64 p.2]],by simp,fun k x vs hx hv=>?_,fun l J Jx hJs hJxs hY hJ=>?_⟩
 ·rw [List.getElem?_map,Option.map_eq_some_iff] at hx hv
  obtain ⟨p,hp,rfl⟩:=hx
  obtain ⟨q,hq,rfl⟩:=hv
  cases hp.symm.trans hq
  exact .cons (Rd.agg [iD p.1,iD p.2] [.int .i64 p.1,.int .i64 p.2] rfl (RdL.vals [.int .i64 p.1,.int .i64 p.2]).at_) .nil
 ·cases lb with
  | nil=>have:=hlb.len;simp at this
  | cons u lb=>
   have:lb=[]:=by have:=hlb.len;simpa using this
   subst this
   obtain ⟨b0,o0,va,rfl,g1,g2,g3,g4⟩:=(hlb.at_ 0 _ u rfl rfl).ro_inv
   obtain ⟨ad,cap,vs,e1,hcap,hk1,hc1,hr1⟩:=(g4 0 _ rfl).sl_inv
   have hcell:=g3 0 (by simp)
   rw [e1,List.length_map] at hcell
   refine CallsIn.mono (kept1_in s hs l O J Jx W b0 o0 ad cap va ⟨g1,g2⟩ (by simpa using hcell) (fun k m hm=>?_) (fun k p W1 hp hJ1=>hY k _ W1 (by rw [List.getElem?_map,hp];rfl) hJ1) hJ) (fun e W' h=>by simpa using h)
   have hkm:(s.map fun l=>[slB l])[k]?=some [slB m]:=by rw [List.getElem?_map,hm];rfl
   obtain ⟨b,off,ha,q1,q2,q3⟩:=hc1 k _ hkm
   obtain ⟨a2,c2,vs2,e2,hcap2,hk2,hc2,hr2⟩:=(hr1 k _ hkm 0 _ rfl).sl_inv
   have hcell2:=q3 0 (by omega)
   rw [e2,List.length_map] at hcell2
   refine ⟨b,off,a2,c2,ha,q1,q2,by simpa using hcell2,fun i x hx=>?_⟩
   have hix:(m.map fun b=>[bD b])[i]?=some [bD x]:=by rw [List.getElem?_map,hx];rfl
   obtain ⟨b',off',ha',r1,r2,r3⟩:=hc2 i _ hix
   have hcell3:=r3 0 (by omega)
   rw [(hr2 i _ hix 0 _ rfl).val rfl] at hcell3
   exact ⟨b',off',ha',r1,r2,by simpa using hcell3⟩
end
section
open Go
theorem aQ2 {s:Sb} {x:List D} (h:x∈(ag1 s).map fun p=>[atD p.1 p.2]):x.length=1:=by
 obtain ⟨p,_,rfl⟩:=List.mem_map.1 h;rfl
theorem aQ3 {s:Sb} {k:Nat} {x:List D} (h:((ag1 s).map fun p=>[atD p.1 p.2])[k]?=some x):∃ p:Nat × Nat,(ag1 s)[k]?=some p∧x=[atD p.1 p.2]:=by
 rw [List.getElem?_map,Option.map_eq_some_iff] at h
 obtain ⟨p,hp,rfl⟩:=h
 exact ⟨p,hp,rfl⟩
theorem aG4 {s:Sb} (hs:Ss s):(ag1 s).length≤1000000:=by
 rw [← aE8]
 have h1:=aE1 hs.nr s.length
 rw [List.take_of_length_le (Nat.le_refl _)] at h1
 have:=hs.nk
 unfold am8;omega
theorem sk75 {A B:Prop} (k:B) (h:Hd7 B→A:=by intro hk7q;(first|refine sb0 ?_|refine sb1 ?_|((with_reducible refine' Cp.by ?hc ?_);(case hc=>exact aA7 _))|((with_reducible refine' CE.pure ?hc ?_);(case hc=>exact aA7 _)));exact hk7q.run):A:=h ⟨k⟩
theorem cl_size (s:Sb) (hs:Ss s):APure Tryz.prog 17 [slS2 s] (iD (am8 s)):=by
 have hkl:=aG4 hs
 refine APure.of_call (aa3 mixed aa0 Tryz.func17 (by kernel_rfl) rfl Tryz.ntmps17 rfl ?_);intro BB
 repeat' (first|refine sk75 ?_|(intro b;conv=>whnf))
 generalize b=b3
 refine aG0 mixed aa0 rfl (aA4 _ (by assumption)) (fun x hx=>aQ2 hx) rfl (γ:=Unit) (fun k _=>[(b3,.cells 3 [iD k])]) (fun _ _=>True) () cl3 trivial ?_ ?_
 ·rintro l k _ x hx -
  obtain ⟨p,hp,rfl⟩:=aQ3 hx
  have hlt:=(List.getElem?_eq_some_iff.1 hp).1
  repeat' (first|refine sk75 ?_|(intro b;conv=>whnf))
  exact ⟨(),cl3,trivial⟩
 ·rintro _ -
  repeat' (first|refine sk75 ?_|(intro b;conv=>whnf))
  refine Rt.pure (congrArg iD ?_)
  rw [List.length_map,aE8]
theorem sk76 {A B:Prop} (k:B) (h:Hd7 B→A:=by intro hk7q;(first|refine sb0 ?_|refine sb1 ?_|((with_reducible refine' Cp.by ?hc ?_);(case hc=>first|exact eqf_ss _ _ (by assumption)|exact cl_size _ (by assumption)))|((with_reducible refine' CE.pure ?hc ?_);(case hc=>first|exact eqf_ss _ _ (by assumption)|exact cl_size _ (by assumption))));exact hk7q.run):A:=h ⟨k⟩
theorem sk77 {A B:Prop} (k:B) (h:Hd7 B→A:=by intro hk7q;(first|refine sb0 ?_|refine sb1 ?_|((with_reducible refine' Cp.by ?hc ?_);(case hc=>exact r31_size _ (by assumption)))|((with_reducible refine' CE.pure ?hc ?_);(case hc=>exact r31_size _ (by assumption))));exact hk7q.run):A:=h ⟨k⟩
end
end Go.Proofs.YtjbbmjjildhfbaaGreatDoor
