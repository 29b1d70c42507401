/- A part of the proof: Tf Jn Jp Jq Xd Xe Xf Bl O2. -/
import Derived.Test.YtlcfiilejnnlnaaGreatDoorO06
import Derived.Shelf.Abstract
import Derived.WalkKit
import Derived.OwnWalkIn
import Derived.TacticsInMore
import Derived.LoopNIn
import Derived.LoopIn
set_option maxRecDepth 100000
set_option maxHeartbeats 20000000
set_option linter.unusedVariables false
set_option linter.unusedSimpArgs false
namespace Go.Proofs.YtlcfiilejnnlnaaGreatDoor
section
open Go
theorem ak0 (b:Nat) (l:List Prb) (v:Value) (s:aa1) (k f r e:Int) (hr:RowIs 191 4 (l.map prbC) v s) (hl:l.length≤1000000) :
  ACall Tryz.prog 144 [iD k,iD f,iD r,iD e,.v (.pointer (some ⟨b,0,none⟩))] ((b,.cells 189 [.v v]) :: s)
   (fun d σ'=>∃ v' s',d = .v (.tuple #[])∧σ'=(b,.cells 189 [.v v']) :: s'∧RowIs 191 4 ((l ++ one k f r e).map prbC) v' s'):=by
 obtain ⟨a,c,rfl⟩:=hr.slice
 refine eC7 Tryz.func144 Tryz.ntmps144 fun BB=>?_
 repeat' first|refine sk2 ?_|(intro b;conv=>whnf)|(with_reducible refine Br.d (fun hc=>?_) (fun hc=>?_))|(with_reducible refine Br.b (fun hc=>?_) (fun hc=>?_))
 ·refine Rt.same ⟨_,s,rfl,rfl,?_⟩
  unfold one;rw [if_pos (by omega)];simpa using hr
 ·refine Ap.go rfl rfl rfl rfl hr (ba7 _ _) rfl (zs:=(l ++ one k f r e).map prbC) (by unfold one;rw [if_neg (by omega)];simp [prbC]) (by simp [one];split <;> simp <;> omega) (by simp [one];split <;> simp <;> omega) (fun s'=>_ :: s') (aL4 _) (fun a' c' s' hr'=>?_)
  repeat' first|refine sk2 ?_|(intro b;conv=>whnf)
  exact Rt.same ⟨_,s',rfl,rfl,hr'⟩
theorem bq5 (y l:Lif):APure Tryz.prog 146 [lifD y,.ro (lifC l)] (bD (seq y.name l.name)):=by
 refine eP7 Tryz.func146 Tryz.ntmps146 fun BB=>?_
 repeat' first|refine sk2 ?_|(intro b;conv=>whnf)
 refine Rt.pure (congrArg bD ?_);rfl
theorem ae9 {ρ:Operand→D} {σ:aa1} {o:Oper} {x i:Operand} {m n:Int} (ho:o.op = .lookup 246 x i true) (hx:ρ x = .gl 0) (hi:ρ i = .v (.int .i64 m)) (hm:m=n) (hn:0≤n∧n≤8) :
  Yd Tryz.prog o ρ σ (.tup [chkD n,.v (.bool (chkB n))]):=by subst hm;exact bX7 ho hx hi hn
theorem cr4 {x:Sch} (hV:Vld x) {k:Knd} {f:Fld} (hk:k∈x.kinds) (hf:f∈k.fields):0≤f.kind∧f.kind≤8:=by
 have h1:=hV.kinds k hk
 simp only [aj3,Bool.and_eq_true,List.all_eq_true] at h1
 have h2:=h1.2 f hf
 simp only [ab3,Bool.and_eq_true] at h2
 have h3:=h2.2
 unfold ak2 at h3
 repeat (split at h3;omega)
 cases h3
theorem av2 (x y z:Nat × Blk) (s:aa1):(x :: y :: z :: s).Perm (s ++ [x,y,z]):=List.perm_append_comm (l₁:=[x,y,z]) (l₂:=s)
theorem an5 (x y z:Nat × Blk) (s:aa1):(s ++ [x,y,z]).Perm (x :: y :: z :: s):=(av2 x y z s).symm
theorem sk31 {A B:Prop} (k:B) (h:Hd7 B→A:=by intro hk7q;(first|refine sb0 ?_|refine sb1 ?_|((with_reducible refine' Cp.by ?hc ?_);(case hc=>first|exact ad2 _ _|exact ad1 _ _ _ _|exact ap6 _ _ _ _ _ _ _ _|exact HV|exact bk4 _ _ _ (by assumption) (by assumption)|exact ad3 _ _ (by assumption)|exact HC|exact bk2 _ _ _ (by assumption) (by assumption) (by assumption) (by assumption)))|((with_reducible refine' CE.pure ?hc ?_);(case hc=>first|exact ad2 _ _|exact ad1 _ _ _ _|exact ap6 _ _ _ _ _ _ _ _|exact HV|exact bk4 _ _ _ (by assumption) (by assumption)|exact ad3 _ _ (by assumption)|exact HC|exact bk2 _ _ _ (by assumption) (by assumption) (by assumption) (by assumption))));exact hk7q.run):A:=h ⟨k⟩
theorem bk6 (x:Sch) (HV:APure Tryz.prog 143 [schD x] (iD (ai3 x))):APure Tryz.prog 97 [schD x] (.sl 4 ((ah6 x).map prbC)):=by
 refine eP7 Tryz.func97 Tryz.ntmps97 fun BB=>?_
 repeat' first|refine sk31 ?_|(intro b;conv=>whnf)|refine IxM.mk fun y hy=>?_
 by_cases hv:ai3 x=0
 ·have hV:=bv1 hv
  have hl:x.kinds.length≤1000000:=by have:=hV.nk;omega
  have hf:∀ k∈x.kinds,k.fields.length≤1000000:=fun k hk=>by have:=hV.nf k hk;omega
  have hll:x.lives.length≤1000000:=by have:=hV.nl;omega
  have hrl:x.rules.length≤1000000:=by have:=hV.nr;omega
  have hP:ah6 x=upTo x.lives.length (aM1 x) ++ upTo x.kinds.length (ak1 x) ++ upTo x.rules.length (aK5 x):=by unfold ah6;rw [if_pos hv]
  have hnk:=hV.nk
  have hnl:=hV.nl
  have hnr:=hV.nr
  have hnf:=hV.nf
  clear HV
  repeat' first|refine sk31 ?_|(intro b;conv=>whnf)|refine IxM.mk fun y hy=>?_
  generalize b=b4
  refine af0 mixed aa0 (γ:=Nat × Value × aa1) (fun g=>[(28,iD g.1)]) (fun g=>(b4,.cells 189 [.v g.2.1]) :: g.2.2) (fun g=>g.1≤x.lives.length∧RowIs 191 4 ((upTo g.1 (aM1 x)).map prbC) g.2.1 g.2.2) (fun g=>x.lives.length - g.1) (0,.slice none 0 0,[]) (aa2 cl3) cl2 ⟨Nat.zero_le _,RowIs.nil _ _⟩ ?_
  rintro ⟨q,v,s⟩ ⟨hq,hrow⟩
  simp only at hq hrow ⊢
  repeat' first|refine sk31 ?_|(intro b;conv=>whnf)|refine IxM.mk fun y hy=>?_|(with_reducible refine Br.d (fun hc=>?_) (fun hc=>?_))|(with_reducible refine Br.b (fun hc=>?_) (fun hc=>?_))
  ·have hy:x.lives[q]?=some y:=hy
   have hS:=ac4 q (aM1 x)
   have hlen:=ab9 (bb4 x) q
   rw [show aM1 x q=one (-1) q (-1) (if aB8 x q y then 7 else 0) by simp only [aM1,hy]] at hS
   have HR:APure Tryz.prog 145 [.sl 3 ((x.lives.map lifC).take q),.clo 146 [.ro (lifC y)]] (bD (aB8 x q y)):=by
    rw [← List.map_take];exact bi7 (x.lives.take q) (fun s=>seq s.name y.name) (by simp;omega) (fun z _=>bq5 z y)
   refine CE.pk (APk.peek (.cons (Pk.same _) (.cons (Pk.clo (.cons (Pk.ptr (j:=0) rfl (PkL.refl _)) .nil)) .nil)) HR rfl) ?_
   clear HR
   repeat' first|refine sk31 ?_|(intro b;conv=>whnf)|refine IxM.mk fun y hy=>?_
   refine CE.own (ak0 _ (upTo q (aM1 x)) _ _ _ _ _ _ (by assumption) (by (try simp only [List.length_append]);omega)) (ba7 _ _) (fun s'=>_ :: s') (aL4 _) ?_;rintro _ _ ⟨v',s',rfl,rfl,hr'⟩
   rw [aq0,← hS] at hr'
   repeat' first|refine sk31 ?_|(intro b;conv=>whnf)|refine IxM.mk fun y hy=>?_
   exact ⟨(q+1,v',s'),(aa2 cl3),cl2,⟨by simp only;omega,hr'⟩,by simp only;omega⟩
  ·obtain rfl:q=x.lives.length:=by omega
   have hlen1:=ab9 (bb4 x) x.lives.length
   generalize hL:upTo x.lives.length (aM1 x)=L at *
   refine af0 mixed aa0 (γ:=Nat × Value × aa1) (fun g=>[(50,iD g.1)]) (fun g=>(b4,.cells 189 [.v g.2.1]) :: g.2.2) (fun g=>g.1≤x.kinds.length∧RowIs 191 4 ((L ++ upTo g.1 (ak1 x)).map prbC) g.2.1 g.2.2) (fun g=>x.kinds.length - g.1) (0,v,s) (aa2 cl3) cl2 ⟨Nat.zero_le _,by simpa [upTo] using hrow⟩ ?_
   rintro ⟨q,v,s⟩ ⟨hq,hrow⟩
   simp only at hq hrow ⊢
   have hlen2:=ab9 (fun i=>bC8 x i hnf) q
   repeat' first|refine sk31 ?_|(intro b;conv=>whnf)|refine IxM.mk fun y hy=>?_|(with_reducible refine Br.d (fun hc=>?_) (fun hc=>?_))|(with_reducible refine Br.b (fun hc=>?_) (fun hc=>?_))
   ·have hy:x.kinds[q]?=some y:=hy
    have hyf:=hnf y (List.mem_of_getElem? hy)
    have hyl:y.fields.length≤1000000:=by omega
    have ho1:=av3 q (-1) (-1) (am6 x q y)
    have hSK:=ac4 q (ak1 x)
    rw [show ak1 x q=one q (-1) (-1) (am6 x q y) ++ upTo y.fields.length (ag4 x q y) by simp only [ak1,hy]] at hSK
    refine CE.own (ak0 _ (L ++ upTo q (ak1 x)) _ _ _ _ _ _ (by assumption) (by (try simp only [List.length_append]);omega)) (ba7 _ _) (fun s'=>_ :: s') (aL4 _) ?_;rintro _ _ ⟨v',s',rfl,rfl,hr'⟩
    repeat' first|refine sk31 ?_|(intro b;conv=>whnf)|refine IxM.mk fun y hy=>?_
    refine af0 mixed aa0 (γ:=Nat × Value × aa1) (fun g=>[(64,iD g.1)]) (fun g=>(b,.cells 85 (kndC y)) :: (b4,.cells 189 [.v g.2.1]) :: g.2.2) (fun g=>g.1≤y.fields.length∧RowIs 191 4 ((L ++ upTo q (ak1 x) ++ one q (-1) (-1) (am6 x q y) ++ upTo g.1 (ag4 x q y)).map prbC) g.2.1 g.2.2) (fun g=>y.fields.length - g.1) (0,v',s') (aa2 cl3) cl2 ⟨Nat.zero_le _,by simpa [upTo] using hr'⟩ ?_
    generalize b=b10
    rintro ⟨j,v,s⟩ ⟨hj,hrow2⟩
    simp only at hj hrow2 ⊢
    have hlen3:=ab9 (aR2 x q y) j
    have hSF:=ac4 j (ag4 x q y)
    by_cases hjl:j<y.fields.length
    ·obtain ⟨f,hf0⟩:∃ f,y.fields[j]?=some f:=⟨_,List.getElem?_eq_getElem hjl⟩
     have hfa:fieldAt x q j=some f:=by rw [af7 (by omega) (by omega) hy];exact hf0
     rw [show ag4 x q y j=one q j (-1) (aG3 x q y j f) by simp only [ag4,hf0]] at hSF
     have hk8:=cr4 hV (List.mem_of_getElem? hy) (List.mem_of_getElem? hf0)
     have hg8:∀ k∈x.kinds,∀ g∈k.fields,0≤g.kind∧g.kind≤8:=fun k hk g hg=>cr4 hV hk hg
     have hyf0:y.fields[((j:Nat):Int).toNat]?=some f:=hf0
     have hk9:f.kind=0∨f.kind=1∨f.kind=2∨f.kind=3∨f.kind=4∨f.kind=5∨f.kind=6∨f.kind=7∨f.kind=8:=by omega
     by_cases hfx:aa3 y f.name<(j:Int)
     ·have he:ak3 [(decide (aa3 y f.name<(j:Int)),7)]=7:=by rw [aq0,if_pos (decide_eq_true hfx)]
      have hFE:aG3 x q y j f=7:=by unfold aG3;rw [if_pos hfx]
      rw [hFE] at hSF
      rcases hk9 with hk9|hk9|hk9|hk9|hk9|hk9|hk9|hk9|hk9
      ·have hcb:chkB 0=true:=by rfl
       repeat' first|refine sk31 ?_|(intro b;conv=>whnf)|refine IxM.mk fun y hy=>?_
       refine Ld.yd (ad7 rfl rfl) ?_
       repeat' first|refine sk31 ?_|(intro b;conv=>whnf)|refine IxM.mk fun y hy=>?_
       refine OtE.yd rfl (ae9 (n:=0) rfl rfl rfl hk9 (by omega)) ?_
       repeat' first|refine sk31 ?_|(intro b;conv=>whnf)|refine IxM.mk fun y hy=>?_
       refine CE.own (ak0 _ (L ++ upTo q (ak1 x) ++ one q (-1) (-1) (am6 x q y) ++ upTo j (ag4 x q y)) _ _ _ _ _ _ (by assumption) (by (try simp only [List.length_append]);omega)) (av2 _ _ _ _) (fun s'=>_ :: _ :: _ :: s') (an5 _ _ _) ?_
       rintro _ _ ⟨v',s',rfl,rfl,hr'⟩
       repeat' first|refine sk31 ?_|(intro b;conv=>whnf)|refine IxM.mk fun y hy=>?_
       exact ⟨(j+1,v',s'),(aa2 cl3),cl2,⟨by simp only;omega,by simp only;rw [hSF,← List.append_assoc];first|exact hr' | (rw [he] at hr';exact hr')|(rw [hFL];exact hr')⟩,by simp only;omega⟩
      ·have hcb:chkB 1=true:=by rfl
       repeat' first|refine sk31 ?_|(intro b;conv=>whnf)|refine IxM.mk fun y hy=>?_
       refine Ld.yd (ad7 rfl rfl) ?_
       repeat' first|refine sk31 ?_|(intro b;conv=>whnf)|refine IxM.mk fun y hy=>?_
       refine OtE.yd rfl (ae9 (n:=1) rfl rfl rfl hk9 (by omega)) ?_
       repeat' first|refine sk31 ?_|(intro b;conv=>whnf)|refine IxM.mk fun y hy=>?_
       refine CE.own (ak0 _ (L ++ upTo q (ak1 x) ++ one q (-1) (-1) (am6 x q y) ++ upTo j (ag4 x q y)) _ _ _ _ _ _ (by assumption) (by (try simp only [List.length_append]);omega)) (av2 _ _ _ _) (fun s'=>_ :: _ :: _ :: s') (an5 _ _ _) ?_
       rintro _ _ ⟨v',s',rfl,rfl,hr'⟩
       repeat' first|refine sk31 ?_|(intro b;conv=>whnf)|refine IxM.mk fun y hy=>?_
       exact ⟨(j+1,v',s'),(aa2 cl3),cl2,⟨by simp only;omega,by simp only;rw [hSF,← List.append_assoc];first|exact hr' | (rw [he] at hr';exact hr')|(rw [hFL];exact hr')⟩,by simp only;omega⟩
      ·have hcb:chkB 2=false:=by rfl
       repeat' first|refine sk31 ?_|(intro b;conv=>whnf)|refine IxM.mk fun y hy=>?_
       refine Ld.yd (ad7 rfl rfl) ?_
       repeat' first|refine sk31 ?_|(intro b;conv=>whnf)|refine IxM.mk fun y hy=>?_
       refine OtE.yd rfl (ae9 (n:=2) rfl rfl rfl hk9 (by omega)) ?_
       repeat' first|refine sk31 ?_|(intro b;conv=>whnf)|refine IxM.mk fun y hy=>?_
       refine CE.own (ak0 _ (L ++ upTo q (ak1 x) ++ one q (-1) (-1) (am6 x q y) ++ upTo j (ag4 x q y)) _ _ _ _ _ _ (by assumption) (by (try simp only [List.length_append]);omega)) (av2 _ _ _ _) (fun s'=>_ :: _ :: _ :: s') (an5 _ _ _) ?_
       rintro _ _ ⟨v',s',rfl,rfl,hr'⟩
       repeat' first|refine sk31 ?_|(intro b;conv=>whnf)|refine IxM.mk fun y hy=>?_
       exact ⟨(j+1,v',s'),(aa2 cl3),cl2,⟨by simp only;omega,by simp only;rw [hSF,← List.append_assoc];first|exact hr' | (rw [he] at hr';exact hr')|(rw [hFL];exact hr')⟩,by simp only;omega⟩
      ·have hcb:chkB 3=false:=by rfl
       repeat' first|refine sk31 ?_|(intro b;conv=>whnf)|refine IxM.mk fun y hy=>?_
       refine Ld.yd (ad7 rfl rfl) ?_
       repeat' first|refine sk31 ?_|(intro b;conv=>whnf)|refine IxM.mk fun y hy=>?_
       refine OtE.yd rfl (ae9 (n:=3) rfl rfl rfl hk9 (by omega)) ?_
       repeat' first|refine sk31 ?_|(intro b;conv=>whnf)|refine IxM.mk fun y hy=>?_
       refine CE.own (ak0 _ (L ++ upTo q (ak1 x) ++ one q (-1) (-1) (am6 x q y) ++ upTo j (ag4 x q y)) _ _ _ _ _ _ (by assumption) (by (try simp only [List.length_append]);omega)) (av2 _ _ _ _) (fun s'=>_ :: _ :: _ :: s') (an5 _ _ _) ?_
       rintro _ _ ⟨v',s',rfl,rfl,hr'⟩
       repeat' first|refine sk31 ?_|(intro b;conv=>whnf)|refine IxM.mk fun y hy=>?_
       exact ⟨(j+1,v',s'),(aa2 cl3),cl2,⟨by simp only;omega,by simp only;rw [hSF,← List.append_assoc];first|exact hr' | (rw [he] at hr';exact hr')|(rw [hFL];exact hr')⟩,by simp only;omega⟩
      ·have hcb:chkB 4=true:=by rfl
       repeat' first|refine sk31 ?_|(intro b;conv=>whnf)|refine IxM.mk fun y hy=>?_
       refine Ld.yd (ad7 rfl rfl) ?_
       repeat' first|refine sk31 ?_|(intro b;conv=>whnf)|refine IxM.mk fun y hy=>?_
       refine OtE.yd rfl (ae9 (n:=4) rfl rfl rfl hk9 (by omega)) ?_
       repeat' first|refine sk31 ?_|(intro b;conv=>whnf)|refine IxM.mk fun y hy=>?_
       refine CE.own (ak0 _ (L ++ upTo q (ak1 x) ++ one q (-1) (-1) (am6 x q y) ++ upTo j (ag4 x q y)) _ _ _ _ _ _ (by assumption) (by (try simp only [List.length_append]);omega)) (av2 _ _ _ _) (fun s'=>_ :: _ :: _ :: s') (an5 _ _ _) ?_
       rintro _ _ ⟨v',s',rfl,rfl,hr'⟩
       repeat' first|refine sk31 ?_|(intro b;conv=>whnf)|refine IxM.mk fun y hy=>?_
       exact ⟨(j+1,v',s'),(aa2 cl3),cl2,⟨by simp only;omega,by simp only;rw [hSF,← List.append_assoc];first|exact hr' | (rw [he] at hr';exact hr')|(rw [hFL];exact hr')⟩,by simp only;omega⟩
      ·have hcb:chkB 5=true:=by rfl
       repeat' first|refine sk31 ?_|(intro b;conv=>whnf)|refine IxM.mk fun y hy=>?_
       refine Ld.yd (ad7 rfl rfl) ?_
       repeat' first|refine sk31 ?_|(intro b;conv=>whnf)|refine IxM.mk fun y hy=>?_
       refine OtE.yd rfl (ae9 (n:=5) rfl rfl rfl hk9 (by omega)) ?_
       repeat' first|refine sk31 ?_|(intro b;conv=>whnf)|refine IxM.mk fun y hy=>?_
       refine CE.own (ak0 _ (L ++ upTo q (ak1 x) ++ one q (-1) (-1) (am6 x q y) ++ upTo j (ag4 x q y)) _ _ _ _ _ _ (by assumption) (by (try simp only [List.length_append]);omega)) (av2 _ _ _ _) (fun s'=>_ :: _ :: _ :: s') (an5 _ _ _) ?_
       rintro _ _ ⟨v',s',rfl,rfl,hr'⟩
       repeat' first|refine sk31 ?_|(intro b;conv=>whnf)|refine IxM.mk fun y hy=>?_
       exact ⟨(j+1,v',s'),(aa2 cl3),cl2,⟨by simp only;omega,by simp only;rw [hSF,← List.append_assoc];first|exact hr' | (rw [he] at hr';exact hr')|(rw [hFL];exact hr')⟩,by simp only;omega⟩
      ·have hcb:chkB 6=true:=by rfl
       repeat' first|refine sk31 ?_|(intro b;conv=>whnf)|refine IxM.mk fun y hy=>?_
       refine Ld.yd (ad7 rfl rfl) ?_
       repeat' first|refine sk31 ?_|(intro b;conv=>whnf)|refine IxM.mk fun y hy=>?_
       refine OtE.yd rfl (ae9 (n:=6) rfl rfl rfl hk9 (by omega)) ?_
       repeat' first|refine sk31 ?_|(intro b;conv=>whnf)|refine IxM.mk fun y hy=>?_
       refine CE.own (ak0 _ (L ++ upTo q (ak1 x) ++ one q (-1) (-1) (am6 x q y) ++ upTo j (ag4 x q y)) _ _ _ _ _ _ (by assumption) (by (try simp only [List.length_append]);omega)) (av2 _ _ _ _) (fun s'=>_ :: _ :: _ :: s') (an5 _ _ _) ?_
       rintro _ _ ⟨v',s',rfl,rfl,hr'⟩
       repeat' first|refine sk31 ?_|(intro b;conv=>whnf)|refine IxM.mk fun y hy=>?_
       exact ⟨(j+1,v',s'),(aa2 cl3),cl2,⟨by simp only;omega,by simp only;rw [hSF,← List.append_assoc];first|exact hr' | (rw [he] at hr';exact hr')|(rw [hFL];exact hr')⟩,by simp only;omega⟩
      ·have hcb:chkB 7=true:=by rfl
       repeat' first|refine sk31 ?_|(intro b;conv=>whnf)|refine IxM.mk fun y hy=>?_
       refine Ld.yd (ad7 rfl rfl) ?_
       repeat' first|refine sk31 ?_|(intro b;conv=>whnf)|refine IxM.mk fun y hy=>?_
       refine OtE.yd rfl (ae9 (n:=7) rfl rfl rfl hk9 (by omega)) ?_
       repeat' first|refine sk31 ?_|(intro b;conv=>whnf)|refine IxM.mk fun y hy=>?_
       refine CE.own (ak0 _ (L ++ upTo q (ak1 x) ++ one q (-1) (-1) (am6 x q y) ++ upTo j (ag4 x q y)) _ _ _ _ _ _ (by assumption) (by (try simp only [List.length_append]);omega)) (av2 _ _ _ _) (fun s'=>_ :: _ :: _ :: s') (an5 _ _ _) ?_
       rintro _ _ ⟨v',s',rfl,rfl,hr'⟩
       repeat' first|refine sk31 ?_|(intro b;conv=>whnf)|refine IxM.mk fun y hy=>?_
       exact ⟨(j+1,v',s'),(aa2 cl3),cl2,⟨by simp only;omega,by simp only;rw [hSF,← List.append_assoc];first|exact hr' | (rw [he] at hr';exact hr')|(rw [hFL];exact hr')⟩,by simp only;omega⟩
      ·have hcb:chkB 8=true:=by rfl
       repeat' first|refine sk31 ?_|(intro b;conv=>whnf)|refine IxM.mk fun y hy=>?_
       refine Ld.yd (ad7 rfl rfl) ?_
       repeat' first|refine sk31 ?_|(intro b;conv=>whnf)|refine IxM.mk fun y hy=>?_
       refine OtE.yd rfl (ae9 (n:=8) rfl rfl rfl hk9 (by omega)) ?_
       repeat' first|refine sk31 ?_|(intro b;conv=>whnf)|refine IxM.mk fun y hy=>?_
       refine CE.own (ak0 _ (L ++ upTo q (ak1 x) ++ one q (-1) (-1) (am6 x q y) ++ upTo j (ag4 x q y)) _ _ _ _ _ _ (by assumption) (by (try simp only [List.length_append]);omega)) (av2 _ _ _ _) (fun s'=>_ :: _ :: _ :: s') (an5 _ _ _) ?_
       rintro _ _ ⟨v',s',rfl,rfl,hr'⟩
       repeat' first|refine sk31 ?_|(intro b;conv=>whnf)|refine IxM.mk fun y hy=>?_
       exact ⟨(j+1,v',s'),(aa2 cl3),cl2,⟨by simp only;omega,by simp only;rw [hSF,← List.append_assoc];first|exact hr' | (rw [he] at hr';exact hr')|(rw [hFL];exact hr')⟩,by simp only;omega⟩
     ·have he:ak3 [(decide (aa3 y f.name<(j:Int)),7)]=0:=by rw [aq0,if_neg (by simp;omega)]
      have hFL:aG3 x q y j f=ac3 x q j f:=by unfold aG3;rw [if_neg hfx]
      rcases hk9 with hk9|hk9|hk9|hk9|hk9|hk9|hk9|hk9|hk9
      ·have HC:=bw1 x q j f hk9
       have hcb:chkB 0=true:=by rfl
       repeat' first|refine sk31 ?_|(intro b;conv=>whnf)|refine IxM.mk fun y hy=>?_
       refine Ld.yd (ad7 rfl rfl) ?_
       repeat' first|refine sk31 ?_|(intro b;conv=>whnf)|refine IxM.mk fun y hy=>?_
       refine OtE.yd rfl (ae9 (n:=0) rfl rfl rfl hk9 (by omega)) ?_
       repeat' first|refine sk31 ?_|(intro b;conv=>whnf)|refine IxM.mk fun y hy=>?_
       refine CE.own (ak0 _ (L ++ upTo q (ak1 x) ++ one q (-1) (-1) (am6 x q y) ++ upTo j (ag4 x q y)) _ _ _ _ _ _ (by assumption) (by (try simp only [List.length_append]);omega)) (av2 _ _ _ _) (fun s'=>_ :: _ :: _ :: s') (an5 _ _ _) ?_
       rintro _ _ ⟨v',s',rfl,rfl,hr'⟩
       repeat' first|refine sk31 ?_|(intro b;conv=>whnf)|refine IxM.mk fun y hy=>?_
       exact ⟨(j+1,v',s'),(aa2 cl3),cl2,⟨by simp only;omega,by simp only;rw [hSF,← List.append_assoc];first|exact hr' | (rw [he] at hr';exact hr')|(rw [hFL];exact hr')⟩,by simp only;omega⟩
      ·have HC:=bw0 x q j f hl hf hk9
       have hcb:chkB 1=true:=by rfl
       repeat' first|refine sk31 ?_|(intro b;conv=>whnf)|refine IxM.mk fun y hy=>?_
       refine Ld.yd (ad7 rfl rfl) ?_
       repeat' first|refine sk31 ?_|(intro b;conv=>whnf)|refine IxM.mk fun y hy=>?_
       refine OtE.yd rfl (ae9 (n:=1) rfl rfl rfl hk9 (by omega)) ?_
       repeat' first|refine sk31 ?_|(intro b;conv=>whnf)|refine IxM.mk fun y hy=>?_
       refine CE.own (ak0 _ (L ++ upTo q (ak1 x) ++ one q (-1) (-1) (am6 x q y) ++ upTo j (ag4 x q y)) _ _ _ _ _ _ (by assumption) (by (try simp only [List.length_append]);omega)) (av2 _ _ _ _) (fun s'=>_ :: _ :: _ :: s') (an5 _ _ _) ?_
       rintro _ _ ⟨v',s',rfl,rfl,hr'⟩
       repeat' first|refine sk31 ?_|(intro b;conv=>whnf)|refine IxM.mk fun y hy=>?_
       exact ⟨(j+1,v',s'),(aa2 cl3),cl2,⟨by simp only;omega,by simp only;rw [hSF,← List.append_assoc];first|exact hr' | (rw [he] at hr';exact hr')|(rw [hFL];exact hr')⟩,by simp only;omega⟩
      ·have HC:ac3 x q j f=0:=by unfold ac3;simp [hk9]
       rw [hFL,HC] at hSF
       clear hFL HC
       have hcb:chkB 2=false:=by rfl
       repeat' first|refine sk31 ?_|(intro b;conv=>whnf)|refine IxM.mk fun y hy=>?_
       refine Ld.yd (ad7 rfl rfl) ?_
       repeat' first|refine sk31 ?_|(intro b;conv=>whnf)|refine IxM.mk fun y hy=>?_
       refine OtE.yd rfl (ae9 (n:=2) rfl rfl rfl hk9 (by omega)) ?_
       repeat' first|refine sk31 ?_|(intro b;conv=>whnf)|refine IxM.mk fun y hy=>?_
       refine CE.own (ak0 _ (L ++ upTo q (ak1 x) ++ one q (-1) (-1) (am6 x q y) ++ upTo j (ag4 x q y)) _ _ _ _ _ _ (by assumption) (by (try simp only [List.length_append]);omega)) (av2 _ _ _ _) (fun s'=>_ :: _ :: _ :: s') (an5 _ _ _) ?_
       rintro _ _ ⟨v',s',rfl,rfl,hr'⟩
       repeat' first|refine sk31 ?_|(intro b;conv=>whnf)|refine IxM.mk fun y hy=>?_
       exact ⟨(j+1,v',s'),(aa2 cl3),cl2,⟨by simp only;omega,by simp only;rw [hSF,← List.append_assoc];first|exact hr' | (rw [he] at hr';exact hr')|(rw [hFL];exact hr')⟩,by simp only;omega⟩
      ·have HC:ac3 x q j f=0:=by unfold ac3;simp [hk9]
       rw [hFL,HC] at hSF
       clear hFL HC
       have hcb:chkB 3=false:=by rfl
       repeat' first|refine sk31 ?_|(intro b;conv=>whnf)|refine IxM.mk fun y hy=>?_
       refine Ld.yd (ad7 rfl rfl) ?_
       repeat' first|refine sk31 ?_|(intro b;conv=>whnf)|refine IxM.mk fun y hy=>?_
       refine OtE.yd rfl (ae9 (n:=3) rfl rfl rfl hk9 (by omega)) ?_
       repeat' first|refine sk31 ?_|(intro b;conv=>whnf)|refine IxM.mk fun y hy=>?_
       refine CE.own (ak0 _ (L ++ upTo q (ak1 x) ++ one q (-1) (-1) (am6 x q y) ++ upTo j (ag4 x q y)) _ _ _ _ _ _ (by assumption) (by (try simp only [List.length_append]);omega)) (av2 _ _ _ _) (fun s'=>_ :: _ :: _ :: s') (an5 _ _ _) ?_
       rintro _ _ ⟨v',s',rfl,rfl,hr'⟩
       repeat' first|refine sk31 ?_|(intro b;conv=>whnf)|refine IxM.mk fun y hy=>?_
       exact ⟨(j+1,v',s'),(aa2 cl3),cl2,⟨by simp only;omega,by simp only;rw [hSF,← List.append_assoc];first|exact hr' | (rw [he] at hr';exact hr')|(rw [hFL];exact hr')⟩,by simp only;omega⟩
      ·have HC:=bv9 x q j f hl hf hfa hk9
       have hcb:chkB 4=true:=by rfl
       repeat' first|refine sk31 ?_|(intro b;conv=>whnf)|refine IxM.mk fun y hy=>?_
       refine Ld.yd (ad7 rfl rfl) ?_
       repeat' first|refine sk31 ?_|(intro b;conv=>whnf)|refine IxM.mk fun y hy=>?_
       refine OtE.yd rfl (ae9 (n:=4) rfl rfl rfl hk9 (by omega)) ?_
       repeat' first|refine sk31 ?_|(intro b;conv=>whnf)|refine IxM.mk fun y hy=>?_
       refine CE.own (ak0 _ (L ++ upTo q (ak1 x) ++ one q (-1) (-1) (am6 x q y) ++ upTo j (ag4 x q y)) _ _ _ _ _ _ (by assumption) (by (try simp only [List.length_append]);omega)) (av2 _ _ _ _) (fun s'=>_ :: _ :: _ :: s') (an5 _ _ _) ?_
       rintro _ _ ⟨v',s',rfl,rfl,hr'⟩
       repeat' first|refine sk31 ?_|(intro b;conv=>whnf)|refine IxM.mk fun y hy=>?_
       exact ⟨(j+1,v',s'),(aa2 cl3),cl2,⟨by simp only;omega,by simp only;rw [hSF,← List.append_assoc];first|exact hr' | (rw [he] at hr';exact hr')|(rw [hFL];exact hr')⟩,by simp only;omega⟩
      ·have HC:=bv8 x q j f hll hk9
       have hcb:chkB 5=true:=by rfl
       repeat' first|refine sk31 ?_|(intro b;conv=>whnf)|refine IxM.mk fun y hy=>?_
       refine Ld.yd (ad7 rfl rfl) ?_
       repeat' first|refine sk31 ?_|(intro b;conv=>whnf)|refine IxM.mk fun y hy=>?_
       refine OtE.yd rfl (ae9 (n:=5) rfl rfl rfl hk9 (by omega)) ?_
       repeat' first|refine sk31 ?_|(intro b;conv=>whnf)|refine IxM.mk fun y hy=>?_
       refine CE.own (ak0 _ (L ++ upTo q (ak1 x) ++ one q (-1) (-1) (am6 x q y) ++ upTo j (ag4 x q y)) _ _ _ _ _ _ (by assumption) (by (try simp only [List.length_append]);omega)) (av2 _ _ _ _) (fun s'=>_ :: _ :: _ :: s') (an5 _ _ _) ?_
       rintro _ _ ⟨v',s',rfl,rfl,hr'⟩
       repeat' first|refine sk31 ?_|(intro b;conv=>whnf)|refine IxM.mk fun y hy=>?_
       exact ⟨(j+1,v',s'),(aa2 cl3),cl2,⟨by simp only;omega,by simp only;rw [hSF,← List.append_assoc];first|exact hr' | (rw [he] at hr';exact hr')|(rw [hFL];exact hr')⟩,by simp only;omega⟩
      ·have HC:=bv7 x q j f (by omega) hl hf hk9
       have hcb:chkB 6=true:=by rfl
       repeat' first|refine sk31 ?_|(intro b;conv=>whnf)|refine IxM.mk fun y hy=>?_
       refine Ld.yd (ad7 rfl rfl) ?_
       repeat' first|refine sk31 ?_|(intro b;conv=>whnf)|refine IxM.mk fun y hy=>?_
       refine OtE.yd rfl (ae9 (n:=6) rfl rfl rfl hk9 (by omega)) ?_
       repeat' first|refine sk31 ?_|(intro b;conv=>whnf)|refine IxM.mk fun y hy=>?_
       refine CE.own (ak0 _ (L ++ upTo q (ak1 x) ++ one q (-1) (-1) (am6 x q y) ++ upTo j (ag4 x q y)) _ _ _ _ _ _ (by assumption) (by (try simp only [List.length_append]);omega)) (av2 _ _ _ _) (fun s'=>_ :: _ :: _ :: s') (an5 _ _ _) ?_
       rintro _ _ ⟨v',s',rfl,rfl,hr'⟩
       repeat' first|refine sk31 ?_|(intro b;conv=>whnf)|refine IxM.mk fun y hy=>?_
       exact ⟨(j+1,v',s'),(aa2 cl3),cl2,⟨by simp only;omega,by simp only;rw [hSF,← List.append_assoc];first|exact hr' | (rw [he] at hr';exact hr')|(rw [hFL];exact hr')⟩,by simp only;omega⟩
      ·have HC:=bv6 x q j f hl hf hk9
       have hcb:chkB 7=true:=by rfl
       repeat' first|refine sk31 ?_|(intro b;conv=>whnf)|refine IxM.mk fun y hy=>?_
       refine Ld.yd (ad7 rfl rfl) ?_
       repeat' first|refine sk31 ?_|(intro b;conv=>whnf)|refine IxM.mk fun y hy=>?_
       refine OtE.yd rfl (ae9 (n:=7) rfl rfl rfl hk9 (by omega)) ?_
       repeat' first|refine sk31 ?_|(intro b;conv=>whnf)|refine IxM.mk fun y hy=>?_
       refine CE.own (ak0 _ (L ++ upTo q (ak1 x) ++ one q (-1) (-1) (am6 x q y) ++ upTo j (ag4 x q y)) _ _ _ _ _ _ (by assumption) (by (try simp only [List.length_append]);omega)) (av2 _ _ _ _) (fun s'=>_ :: _ :: _ :: s') (an5 _ _ _) ?_
       rintro _ _ ⟨v',s',rfl,rfl,hr'⟩
       repeat' first|refine sk31 ?_|(intro b;conv=>whnf)|refine IxM.mk fun y hy=>?_
       exact ⟨(j+1,v',s'),(aa2 cl3),cl2,⟨by simp only;omega,by simp only;rw [hSF,← List.append_assoc];first|exact hr' | (rw [he] at hr';exact hr')|(rw [hFL];exact hr')⟩,by simp only;omega⟩
      ·have HC:=bv5 x q j f hl hf hg8 hk9
       have hcb:chkB 8=true:=by rfl
       repeat' first|refine sk31 ?_|(intro b;conv=>whnf)|refine IxM.mk fun y hy=>?_
       refine Ld.yd (ad7 rfl rfl) ?_
       repeat' first|refine sk31 ?_|(intro b;conv=>whnf)|refine IxM.mk fun y hy=>?_
       refine OtE.yd rfl (ae9 (n:=8) rfl rfl rfl hk9 (by omega)) ?_
       repeat' first|refine sk31 ?_|(intro b;conv=>whnf)|refine IxM.mk fun y hy=>?_
       refine CE.own (ak0 _ (L ++ upTo q (ak1 x) ++ one q (-1) (-1) (am6 x q y) ++ upTo j (ag4 x q y)) _ _ _ _ _ _ (by assumption) (by (try simp only [List.length_append]);omega)) (av2 _ _ _ _) (fun s'=>_ :: _ :: _ :: s') (an5 _ _ _) ?_
       rintro _ _ ⟨v',s',rfl,rfl,hr'⟩
       repeat' first|refine sk31 ?_|(intro b;conv=>whnf)|refine IxM.mk fun y hy=>?_
       exact ⟨(j+1,v',s'),(aa2 cl3),cl2,⟨by simp only;omega,by simp only;rw [hSF,← List.append_assoc];first|exact hr' | (rw [he] at hr';exact hr')|(rw [hFL];exact hr')⟩,by simp only;omega⟩
    ·obtain rfl:j=y.fields.length:=by omega
     repeat' first|refine sk31 ?_|(intro b;conv=>whnf)|refine IxM.mk fun y hy=>?_|(with_reducible refine Br.d (fun hc=>?_) (fun hc=>?_))|(with_reducible refine Br.b (fun hc=>?_) (fun hc=>?_))
     exact ⟨(q+1,v,s),(aa2 cl3),cl2,⟨by simp only;omega,by simp only;rw [hSK];simp only [List.append_assoc] at hrow2 ⊢;exact hrow2⟩,by simp only;omega⟩
   ·obtain rfl:q=x.kinds.length:=by omega
    generalize hM:upTo x.kinds.length (ak1 x)=M at *
    refine af0 mixed aa0 (γ:=Nat × Value × aa1) (fun g=>[(108,iD g.1)]) (fun g=>(b4,.cells 189 [.v g.2.1]) :: g.2.2) (fun g=>g.1≤x.rules.length∧RowIs 191 4 ((L ++ M ++ upTo g.1 (aK5 x)).map prbC) g.2.1 g.2.2) (fun g=>x.rules.length - g.1) (0,v,s) (aa2 cl3) cl2 ⟨Nat.zero_le _,by simpa [upTo] using hrow⟩ ?_
    rintro ⟨q,v,s⟩ ⟨hq,hrow2⟩
    simp only at hq hrow2 ⊢
    have hlen3:=ab9 (by0 x) q
    have hS:=ac4 q (aK5 x)
    by_cases hql:q<x.rules.length
    ·obtain ⟨r,hr0⟩:∃ r,x.rules[q]?=some r:=⟨_,List.getElem?_eq_getElem hql⟩
     rw [show aK5 x q=one (-1) (-1) q (au3 x q r) by simp only [aK5,hr0]] at hS
     repeat' first|refine sk31 ?_|(intro b;conv=>whnf)|refine IxM.mk fun y hy=>?_
     refine CE.own (ak0 _ (L ++ M ++ upTo q (aK5 x)) _ _ _ _ _ _ (by assumption) (by (try simp only [List.length_append]);omega)) (bz9 _) (fun s'=>s') bz8 ?_;rintro _ _ ⟨v',s',rfl,rfl,hr'⟩
     repeat' first|refine sk31 ?_|(intro b;conv=>whnf)|refine IxM.mk fun y hy=>?_
     exact ⟨(q+1,v',s'),(aa2 cl3),cl2,⟨by simp only;omega,by simp only;rw [hS,← List.append_assoc];exact hr'⟩,by simp only;omega⟩
    ·obtain rfl:q=x.rules.length:=by omega
     rw [hP]
     repeat' first|refine sk31 ?_|(intro b;conv=>whnf)|refine IxM.mk fun y hy=>?_|(with_reducible refine Br.d (fun hc=>?_) (fun hc=>?_))|(with_reducible refine Br.b (fun hc=>?_) (fun hc=>?_))
     exact Rt.by (Vs.trans (Vs.drop (List.sublist_cons_self _ _)) (Vs.row hrow2 (bz9 _))) rfl
 ·have hP:ah6 x=[(-1,-1,-1,ai3 x)]:=by unfold ah6;rw [if_neg hv]
  rw [hP]
  repeat' first|refine sk31 ?_|(intro b;conv=>whnf)|refine IxM.mk fun y hy=>?_|(with_reducible refine Br.d (fun hc=>?_) (fun hc=>?_))|(with_reducible refine Br.b (fun hc=>?_) (fun hc=>?_))
  exact Rt.same rfl
end
section
open Go Go.RowKit Go.Shelf
section
variable {P:Program} {r:Option Nat} {n:Nat} {df:Nat} {N:Nat} {σ:aa1} {f:Frm} {L:List Oper} {T:TypeId→Option TI} {Q:Fst}
theorem ao2 (hm:P.follows .mixedOrders=true) (hT:∀ t i,T t=some i→tiOf P t=some i) {c:Code} (h:W (am9 P T r n df N c Q f σ)):Lp P r n df N c Q f σ:=⟨fun a hs=>am8 hm hT h.h hs⟩
theorem bB6 {c:Code} {τ:aa1} (hp:σ.Perm τ) (k:Lp P r n df N c Q f τ):Lp P r n df N c Q f σ:=⟨fun a hs=>aJ0 (fun w X fr h=>h.perm hp) (fun x hx=>ah0 hp x hx) (k.run a hs)⟩
theorem af2 {c:Code} {τ:aa1} {i:Nat} {d d':D} (hl:an2 f i=some d) (hd:d ≠ .any) (h:Vs σ d τ d') (k:Lp P r n df N c Q ((i,d') :: f) τ):Lp P r n df N c Q f σ:=by
 refine ⟨fun a hs=>?_⟩
 have hai:a[i]?=some d:=by
  rcases hs.at_ i d hl with h1|h1
  ·exact absurd h1 hd
  ·exact h1
 have hil:=(List.getElem?_eq_some_iff.1 hai).1
 refine aJ0 (b:=a.set i d') (τ:=τ) (fun w X fr hst=>?_) h.sub (k.run (a.set i d') ⟨by rw [List.length_set];exact hs.len,fun j e hj=>?_⟩)
 ·obtain ⟨u,hu,hr⟩:=hst.fr.at_ i d hai
  obtain ⟨g1,g2⟩:=h.run w X u hst.st hr
  refine ⟨⟨by rw [List.length_set];exact hst.fr.size,fun j e hj=>?_⟩,g1,hst.df.keep (Nat.le_refl _) (fun x _ hn ho=>hn (ho.imp id (h.sub x))) (fun _ _ _=>rfl)⟩
  by_cases e1:i=j
  ·subst e1
   rw [List.getElem?_set_self hil] at hj
   cases hj
   exact ⟨u,hu,g2⟩
  ·rw [List.getElem?_set_ne e1] at hj
   obtain ⟨v,k1,k2⟩:=hst.fr.at_ j e hj
   exact ⟨v,k1,aj5 k2 h.sub⟩
 ·simp only [an2] at hj
  cases he:Nat.beq i j with
  | true=>
   rw [he] at hj
   have:=Nat.eq_of_beq_eq_true he
   subst this
   simp only [cond_true,Option.some.injEq] at hj
   subst hj
   exact .inr (List.getElem?_set_self hil)
  | false=>
   rw [he] at hj
   have hne:i≠j:=fun e=>by subst e;simp at he
   rcases hs.at_ j e hj with h1|h1
   ·exact .inl h1
   ·exact .inr (by rw [List.getElem?_set_ne hne];exact h1)
theorem OtE.box {o:Oper} {t:TypeId} {x:Operand} {cs:List D} {K:Frm→aa1→Prop} (ho:o.op = .box t x) (hx:evF f x = .agg cs) (kk:∀ b,W (putK N o.dst (.v (.pointer (some ⟨b,0,none⟩))) f (fun f'=>K f' ((b,.cells t cs) :: σ)))):OtE P r n df L N o f σ K:=by
 refine ⟨fun rest Q a hsp hw hk=>?_⟩
 refine ae8 hw (by rw [ho];rfl) fun w X fr hst=>?_
 have h1:=hsp.le x _ _ _ (hst.fr.eval x)
 rw [hx] at h1
 obtain ⟨vs,hv,hvs⟩:=h1.agg_inv
 have e0:(execOp fr.eval o).run P w = .ok (.value (.pointer (some ⟨w.heap.size,0,none⟩))) (w.alloc (.cells vs.toArray t)):=by
  simp only [execOp,ho,hv]
  rfl
 rw [e0]
 obtain ⟨g1,g2,g3⟩:=hst.st.new (.cells vs.toArray t) (.cells t cs) ⟨vs,rfl,hvs⟩
 obtain ⟨f',hs',h4⟩:=ad4 (kk w.heap.size).h hsp
 exact ⟨_,_,g2,(hst.mv g2 g1).put (.v _) o.dst,hk _ _ _ h4 hs'⟩
/-! ### What lies in a new slice is written no more -/
def Vd (σ τ:aa1) (d d':D):Prop:=∀ (w:World) (X:Nat→Prop) (u:Value),StOK w X σ→Rd w (Own σ X) d u→Rd w (Own τ X) d' u
theorem Vd.same {σ τ:aa1} (hs:∀ b,b∈aa9 τ→b∈aa9 σ) (d:D):Vd σ τ d d:=fun _ _ _ _ h=>aj5 h hs
theorem Vd.vs {σ τ:aa1} {d d':D} (h:Vs σ d τ d'):Vd σ τ d d':=fun w X u hs hr=>(h.run w X u hs hr).2
inductive Vd2 (σ τ:aa1):List D→List D→Prop
 | nil:Vd2 σ τ [] []
 | cons {d d':D} {l l':List D} (h:Vd σ τ d d') (k:Vd2 σ τ l l'):Vd2 σ τ (d :: l) (d' :: l')
inductive Vd3 (σ τ:aa1):List (List D)→List (List D)→Prop
 | nil:Vd3 σ τ [] []
 | cons {d d':List D} {l l':List (List D)} (h:Vd2 σ τ d d') (k:Vd3 σ τ l l'):Vd3 σ τ (d :: l) (d' :: l')
theorem Vd2.len {σ τ:aa1} {l l':List D} (h:Vd2 σ τ l l'):l'.length=l.length:=by induction h with|nil=>rfl|cons _ _ ih=>simp [ih]
theorem Vd3.len {σ τ:aa1} {l l':List (List D)} (h:Vd3 σ τ l l'):l'.length=l.length:=by induction h with|nil=>rfl|cons _ _ ih=>simp [ih]
theorem Vd2.same {σ τ:aa1} (hs:∀ b,b∈aa9 τ→b∈aa9 σ):∀ l:List D,Vd2 σ τ l l
 | []=>.nil
 | d :: l=>.cons (Vd.same hs d) (Vd2.same hs l)
theorem Vd3.same {σ τ:aa1} (hs:∀ b,b∈aa9 τ→b∈aa9 σ):∀ l:List (List D),Vd3 σ τ l l
 | []=>.nil
 | d :: l=>.cons (Vd2.same hs d) (Vd3.same hs l)
theorem Vd2.at_ {σ τ:aa1} {l l':List D} (h:Vd2 σ τ l l'):∀ {j:Nat} {d':D},l'[j]?=some d'→∃ d,l[j]?=some d∧Vd σ τ d d':=by
 induction h with
 | nil=>intro j d' h;simp at h
 | cons h k ih=>
  intro j d' hj
  cases j with
  | zero=>simp at hj;subst hj;exact ⟨_,rfl,h⟩
  | succ j=>simp at hj;obtain ⟨d,h1,h2⟩:=ih hj;exact ⟨d,by simpa using h1,h2⟩
theorem Vd3.at_ {σ τ:aa1} {l l':List (List D)} (h:Vd3 σ τ l l'):∀ {j:Nat} {d':List D},l'[j]?=some d'→∃ d,l[j]?=some d∧Vd2 σ τ d d':=by
 induction h with
 | nil=>intro j d' h;simp at h
 | cons h k ih=>
  intro j d' hj
  cases j with
  | zero=>simp at hj;subst hj;exact ⟨_,rfl,h⟩
  | succ j=>simp at hj;obtain ⟨d,h1,h2⟩:=ih hj;exact ⟨d,by simpa using h1,h2⟩
theorem Vd.sl {σ τ:aa1} (hs:∀ b,b∈aa9 τ→b∈aa9 σ) {k:Nat} {xs xs':List (List D)} (h:Vd3 σ τ xs xs'):Vd σ τ (.sl k xs) (.sl k xs'):=by
 intro w X u hst hr
 obtain ⟨a,cap,f,e1,hcap,hk,hc,hrr⟩:=hr.sl_inv
 rw [e1,← h.len]
 refine .sl k _ a cap f (by rw [h.len];exact hcap) (fun y hy=>?_) (fun i y hy=>?_) (fun i y hy j d hd=>?_)
 ·obtain ⟨i,hi⟩:=List.getElem?_of_mem hy
  obtain ⟨z,h1,h2⟩:=h.at_ hi
  rw [h2.len];exact hk z (List.mem_of_getElem? h1)
 ·obtain ⟨z,h1,h2⟩:=h.at_ hy
  obtain ⟨b,off,q1,q2,q3,q4⟩:=hc i z h1
  exact ⟨b,off,q1,fun ho=>q2 (ho.imp id (hs b)),q3,q4⟩
 ·obtain ⟨z,h1,h2⟩:=h.at_ hy
  obtain ⟨d0,h3,h4⟩:=h2.at_ hd
  exact h4 w X _ hst (hrr i z h1 j d0 h3)
theorem Vd.agg {σ τ:aa1} {l l':List D} (h:Vd2 σ τ l l'):Vd σ τ (.agg l) (.agg l'):=by
 intro w X u hst hr
 obtain ⟨vs,rfl,hv⟩:=hr.agg_inv
 refine .agg _ _ (by rw [h.len];exact hv.len) (fun j d u hd hu=>?_)
 obtain ⟨d0,h1,h2⟩:=h.at_ hd
 exact h2 w X u hst (hv.at_ j d0 u h1 hu)
theorem Vd.tup {σ τ:aa1} {l l':List D} (h:Vd2 σ τ l l'):Vd σ τ (.tup l) (.tup l'):=by
 intro w X u hst hr
 obtain ⟨vs,rfl,hv⟩:=hr.tup_inv
 refine .tup _ _ (by rw [h.len];exact hv.len) (fun j d u hd hu=>?_)
 obtain ⟨d0,h1,h2⟩:=h.at_ hd
 exact h2 w X u hst (hv.at_ j d0 u h1 hu)
theorem Vs.vd {σ τ:aa1} {d d':D} (hp:∃ ρ,σ.Perm (ρ ++ τ)) (h:Vd σ τ d d'):Vs σ d τ d':=by
 obtain ⟨ρ,hp⟩:=hp
 exact ⟨fun w X u hs hr=>⟨(hs.perm hp).sub (List.sublist_append_right _ _),h w X u hs hr⟩,fun b hb=>ah0 hp b (by rw [ab0];exact List.mem_append_right _ hb)⟩
end
end
section
open Go Go.RowKit Go.Shelf
inductive LeR:List (List D)→List (List D)→Prop
 | nil:LeR [] []
 | cons {x y:List D} {xs ys:List (List D)} (h:LeL x y) (t:LeR xs ys):LeR (x :: xs) (y :: ys)
theorem LeL.refl:∀ l:List D,LeL l l
 | []=>.nil
 | d :: l=>.cons (Le.refl d) (LeL.refl l)
theorem LeR.refl:∀ l:List (List D),LeR l l
 | []=>.nil
 | d :: l=>.cons (LeL.refl d) (LeR.refl l)
theorem LeR.append {a b c d:List (List D)} (h:LeR a b) (k:LeR c d):LeR (a ++ c) (b ++ d):=by
 induction h with
 | nil=>exact k
 | cons h _ ih=>exact .cons h ih
theorem LeR.len {a b:List (List D)} (h:LeR a b):b.length=a.length:=by induction h with|nil=>rfl|cons _ _ ih=>simp [ih]
theorem LeL.vd {σ τ:aa1} (hs:∀ b,b∈aa9 τ→b∈aa9 σ) {a b:List D} (h:LeL a b):Vd2 σ τ a b:=by
 induction h with
 | nil=>exact .nil
 | cons h _ ih=>exact .cons (fun w X u _ hr=>h _ _ _ (aj5 hr hs)) ih
theorem LeR.vd {σ τ:aa1} (hs:∀ b,b∈aa9 τ→b∈aa9 σ) {a b:List (List D)} (h:LeR a b):Vd3 σ τ a b:=by
 induction h with
 | nil=>exact .nil
 | cons h _ ih=>exact .cons (h.vd hs) ih
theorem bN7 {k:Nat} {xs ys:List (List D)} (h:LeR xs ys):Le (.sl k xs) (.sl k ys):=by
 intro w O u hr
 obtain ⟨a,cap,f,e1,hcap,hk,hc,hrr⟩:=hr.sl_inv
 have hv:Vd3 [] [] xs ys:=h.vd (fun _ h=>h)
 have at2:∀ {i:Nat} {y:List D},ys[i]?=some y→∃ z,xs[i]?=some z∧LeL z y:=by
  clear hv hrr hc hk hcap e1 hr
  induction h with
  | nil=>intro i y hy;simp at hy
  | cons h _ ih=>
   intro i y hy
   cases i with
   | zero=>simp at hy;subst hy;exact ⟨_,rfl,h⟩
   | succ i=>simp at hy;obtain ⟨z,h1,h2⟩:=ih hy;exact ⟨z,by simpa using h1,h2⟩
 have atL:∀ {z y:List D},LeL z y→z.length=y.length∧∀ {j:Nat} {d':D},y[j]?=some d'→∃ d,z[j]?=some d∧Le d d':=by
  intro z y hl
  induction hl with
  | nil=>exact ⟨rfl,fun h=>by simp at h⟩
  | cons h _ ih=>
   refine ⟨by simp [ih.1],fun {j d'} hj=>?_⟩
   cases j with
   | zero=>simp at hj;subst hj;exact ⟨_,rfl,h⟩
   | succ j=>simp at hj;obtain ⟨d,h1,h2⟩:=ih.2 hj;exact ⟨d,by simpa using h1,h2⟩
 rw [e1,← h.len]
 refine .sl k _ a cap f (by rw [h.len];exact hcap) (fun y hy=>?_) (fun i y hy=>?_) (fun i y hy j d hd=>?_)
 ·obtain ⟨i,hi⟩:=List.getElem?_of_mem hy
  obtain ⟨z,h1,h2⟩:=at2 hi
  rw [← (atL h2).1];exact hk z (List.mem_of_getElem? h1)
 ·obtain ⟨z,h1,h2⟩:=at2 hy
  obtain ⟨b,off,q1,q2,q3,q4⟩:=hc i z h1
  exact ⟨b,off,q1,q2,q3,q4⟩
 ·obtain ⟨z,h1,h2⟩:=at2 hy
  obtain ⟨d0,h3,h4⟩:=(atL h2).2 hd
  exact h4 _ _ _ (hrr i z h1 j d0 h3)
theorem Pk.rowLe {σ τ:aa1} {e:TypeId} {k:Nat} {rs xs:List (List D)} {v:Value} {s:aa1} (h:RowIs e k rs v s) (hl:LeR rs xs) (hp:σ.Perm (s ++ τ)):Pk σ (.v v) (.sl k xs):=
 ⟨fun w X u hs hr=>by have:=hr.val rfl;subst this;exact bN7 hl _ _ _ (aF5 h (hs.perm hp)).stable⟩
theorem Vd.rowLe {σ τ ρ:aa1} {e:TypeId} {k:Nat} {rs xs:List (List D)} {v:Value} {s:aa1} (h:RowIs e k rs v s) (hl:LeR rs xs) (hp:σ.Perm (s ++ ρ)) (hsub:∀ b,b∈aa9 τ→b∈aa9 ρ):Vd σ τ (.v v) (.sl k xs):=
 fun w X u hs hr=>bN7 hl _ _ _ (aj5 ((Vs.row h hp).run w X u hs hr).2 hsub)
structure Sc (σ τ:aa1):Prop where
 run:∀ (w:World) (X:Nat→Prop),StOK w X σ→StOK w X τ
 sub:∀ b,b∈aa9 τ→b∈aa9 σ
theorem Sc.trans {a b c:aa1} (h:Sc a b) (k:Sc b c):Sc a c:=⟨fun w X hs=>k.run w X (h.run w X hs),fun x hx=>h.sub x (k.sub x hx)⟩
theorem Sc.perm {a b:aa1} (h:a.Perm b):Sc a b:=⟨fun _ _ hs=>hs.perm h,fun x hx=>ah0 h x hx⟩
theorem Sc.frz {b:Nat} {t e:TypeId} {cs:List D} {j k:Nat} {xs ys:List (List D)} {v:Value} {s τ:aa1} (hj:cs[j]?=some (.v v)) (h:RowIs e k xs v s) (hl:LeR xs ys):Sc ((b,.cells t cs) :: (s ++ τ)) ((b,.cells t (cs.set j (.sl k ys))) :: τ):=by
 have hsub:∀ x,x∈aa9 ((b,Blk.cells t (cs.set j (.sl k ys))) :: τ)→x∈aa9 ((b,Blk.cells t cs) :: (s ++ τ)):=fun x hx=>by
  simp only [aa9,List.map_cons,List.map_append,List.mem_cons,List.mem_append] at hx ⊢
  rcases hx with h|h
  ·exact .inl h
  ·exact .inr (.inr h)
 refine ⟨fun w X hs=>?_,hsub⟩
 have hO:∀ x,x<w.heap.size→¬ Own ((b,Blk.cells t cs) :: (s ++ τ)) X x→¬ Own ((b,Blk.cells t (cs.set j (.sl k ys))) :: τ) X x:=fun x _ hn ho=>hn (ho.imp id (hsub x))
 have hp:((b,Blk.cells t cs) :: (s ++ τ)).Perm (s ++ ((b,Blk.cells t cs) :: τ)):=List.perm_middle.symm
 have hrow:=aF5 h (hs.perm hp)
 have hrow':Rd w (Own ((b,Blk.cells t (cs.set j (.sl k ys))) :: τ) X) (.sl k ys) v:=bN7 hl _ _ _ (by
  have e:Own ((b,Blk.cells t (cs.set j (.sl k ys))) :: τ) X=Own ((b,Blk.cells t cs) :: τ) X:=rfl
  rw [e];exact hrow)
 refine ⟨?_,fun x kk hm=>?_,hs.xlt,hs.gok.mono (fun x ho=>ho.imp id (hsub x))⟩
 ·have hnd:=hs.nodup
  simp only [aa9,List.map_cons,List.map_append,List.nodup_cons,List.mem_append,List.nodup_append] at hnd ⊢
  exact ⟨fun h=>hnd.1 (.inr h),hnd.2.2.1⟩
 ·rcases List.mem_cons.1 hm with e1|hm
  ·cases e1
   obtain ⟨h1,o,h2,vs,rfl,h3⟩:=hs.at_ b _ List.mem_cons_self
   refine ⟨h1,_,h2,vs,rfl,⟨by rw [List.length_set];exact h3.len,fun i d u hi hu=>?_⟩⟩
   by_cases e2:j=i
   ·subst e2
    rw [List.getElem?_set_self (List.getElem?_eq_some_iff.1 hj).1] at hi
    cases hi
    have:=(h3.at_ j _ u hj hu).val rfl
    rw [this];exact hrow'
   ·rw [List.getElem?_set_ne e2] at hi
    exact aj5 (h3.at_ i d u hi hu) hsub
  ·obtain ⟨h1,o,h2,h3⟩:=hs.at_ x kk (List.mem_cons_of_mem _ (List.mem_append_right _ hm))
   exact ⟨h1,o,h2,Blk.ok_keep (Nat.le_refl _) hO (fun _ _ _=>rfl) h3⟩
section
variable {P:Program} {r:Option Nat} {n:Nat} {df:Nat} {N:Nat} {σ:aa1} {f:Frm} {Q:Fst}
theorem aw4 {c:Code} {τ:aa1} (hp:Sc σ τ) (k:Lp P r n df N c Q f τ):Lp P r n df N c Q f σ:=
 ⟨fun a hs=>aJ0 (fun w X fr h=>⟨h.fr.keep (Nat.le_refl _) (fun x _ hn ho=>hn (ho.imp id (hp.sub x))) (fun _ _ _=>rfl),hp.run w X h.st,h.df.keep (Nat.le_refl _) (fun x _ hn ho=>hn (ho.imp id (hp.sub x))) (fun _ _ _=>rfl)⟩) hp.sub (k.run a hs)⟩
theorem Sc.refl (σ:aa1):Sc σ σ:=⟨fun _ _ h=>h,fun _ h=>h⟩
theorem Sc.drop {τ ρ:aa1} (h:σ.Perm (τ ++ ρ)):Sc σ τ:=⟨fun _ _ hs=>(hs.perm h).sub (List.sublist_append_left _ _),fun x hx=>ah0 h x (by rw [ab0];exact List.mem_append_left _ hx)⟩
theorem Sc.sl {τ:aa1} (h:τ.Sublist σ):Sc σ τ:=⟨fun _ _ hs=>hs.sub h,fun _ hx=>(h.map Prod.fst).subset hx⟩
theorem aI9 {c:Code} {a:List D} {Q1 Q2:Pst} (h:AWP P r n df c Q1 a σ) (k:∀ e a' σ',Q1 e a' σ'→∃ τ,Sc σ' τ∧Q2 e a' τ):AWP P r n df c Q2 a σ:=
 ⟨fun w X fr hs=>wpIn_mono (h.run w X fr hs) fun e fr' w' ⟨a',s',h1,h2,h3⟩=>by
  obtain ⟨τ,q1,q2⟩:=k e a' s' h1
  exact ⟨a',τ,q2,⟨h2.fr.keep (Nat.le_refl _) (fun x _ hn ho=>hn (ho.imp id (q1.sub x))) (fun _ _ _=>rfl),q1.run w' X h2.st,h2.df.keep (Nat.le_refl _) (fun x _ hn ho=>hn (ho.imp id (q1.sub x))) (fun _ _ _=>rfl)⟩,h3.fewer q1.sub⟩⟩
variable {T:TypeId→Option TI} {L:List Oper}
theorem bB7 (hm:P.follows .mixedOrders=true) (hT:∀ t i,T t=some i→tiOf P t=some i) {id:Nat} {O:Array Oper} (hO:O=L.toArray) (hs:List Nat) (fu:Nat) (t:Ord) {γ:Type} (ps:γ→Frm) (S:γ→aa1) (I:γ→Prop)
  (hB:(Nat.beq (hs.length+fu) L.length && bs1 .any L.toArray (loE hs) fu t hs (Array.replicate L.length false) && aw3 (loE hs) t)=true)
  (h:W (exHs P T N L (loE hs) σ hs (fun f1=>aW9 P T r n df N L (fun f' σ'=>∃ g,chkF f' (ar9 (.region id O true) f (ps g))∧Sc σ' (S g)∧I g) t f1 σ) f))
  (kk:∀ g,I g→W (aC6 (ar9 (.region id O true) f (ps g)) fun F=>Q .normal F (S g))):Lp P r n df N (.region id O true) Q f σ:=by
 subst hO
 simp only [Bool.and_eq_true] at hB
 refine ⟨fun a hs'=>?_⟩
 refine aI9 (aG4 (Q:=fun e a' σ'=>e = .normal∧∃ f',Sp N a' f'∧∃ g,chkF f' (ar9 (.region id L.toArray true) f (ps g))∧Sc σ' (S g)∧I g) (loE hs) hs fu t hm (Nat.eq_of_beq_eq_true hB.1.1) hB.1.2 (ax5 (fun a' σ' h'=>?_) (aA4 hT h.h hs'))) ?_
 ·obtain ⟨rfl,f',h1,h2⟩:=h'
  have:=at0 hT hB.2 h2 h1
  exact ap8 (fun a σ h=>⟨rfl,h⟩) this
 ·rintro e a' σ' ⟨rfl,f',h1,g,h2,h4,h3⟩
  exact ⟨S g,h4,_,h1.sub h2,ap9 (kk g h3).h⟩
def cw7 {γ:Type} (F:γ→Frm) (S:γ→aa1) (I:γ→Prop) (Q:Fst):Fst
 | .normal,f',σ'=>∃ g,chkF f' (F g)∧Sc σ' (S g)∧I g
 | e,f',σ'=>Q e f' σ'
theorem at6 (hm:P.follows .mixedOrders=true) (hT:∀ t i,T t=some i→tiOf P t=some i) {c:Code} {γ:Type} (ps:γ→Frm) (S:γ→aa1) (I:γ→Prop)
  (h:W (am9 P T r n df N c (cw7 (fun g=>ar9 c f (ps g)) S I Q) f σ))
  (kk:∀ g,I g→W (aC6 (ar9 c f (ps g)) fun F=>Q .normal F (S g))):Lp P r n df N c Q f σ:=by
 refine ⟨fun a hs=>aI9 (am8 hm hT h.h hs) ?_⟩
 rintro e a' σ' ⟨f',h1,h2⟩
 cases e with
 | normal=>
  obtain ⟨g,h3,h5,h4⟩:=h2
  exact ⟨S g,h5,_,h1.sub h3,ap9 (kk g h4).h⟩
 | _=>exact ⟨σ',Sc.refl _,f',h1,h2⟩
theorem aa5 (hm:P.follows .mixedOrders=true) (hT:∀ t i,T t=some i→tiOf P t=some i) {c:Code} {γ:Type} (ps:γ→Frm) (S:γ→aa1) (I:γ→Prop) (μ:γ→Nat) (g₀:γ)
  (h1:chkF f (ar9 c f (ps g₀))) (h2:Sc σ (S g₀)) (h3:I g₀)
  (h4:∀ g,I g→W (aC6 (ar9 c f (ps g)) fun F=>am9 P T r n df N c (bw7 (fun f' σ'=>∃ g',chkF f' (ar9 c f (ps g'))∧Sc σ' (S g')∧I g'∧μ g' < μ g) Q) F (S g))) :
  Lp P r n df N (.loop c) Q f σ:=by
 refine aw4 h2 ⟨fun a hs=>?_⟩
 refine aX7 (fun m a σ=>∃ g,μ g=m∧I g∧Sp N a (ar9 c f (ps g))∧σ=S g) (μ g₀) ⟨g₀,rfl,h3,hs.sub h1,rfl⟩ ?_
 rintro m a σ ⟨g,rfl,hI,hS,rfl⟩
 refine aI9 (am8 hm hT (ap9 (h4 g hI).h) hS) ?_
 rintro e a' σ' ⟨f',hs',h'⟩
 cases e with
 | normal=>obtain ⟨g',k1,k2,k3,k4⟩:=h';exact ⟨S g',k2,μ g',k4,g',rfl,k3,hs'.sub k1,rfl⟩
 | _=>exact ⟨σ',Sc.refl _,f',hs',h'⟩
end
end
section
open Go Go.RowKit Go.Shelf
theorem bJ6 {cs x:List D} {off m:Nat} {d:D} (h:∀ j,j<x.length→cs[off+j]?=x[j]?) (hm:m<x.length):spl cs off (x.set m d)=cs.set (off+m) d:=by
 have hl:off+x.length≤cs.length:=by
  have:=h (x.length - 1) (by omega)
  rw [List.getElem?_eq_getElem (by omega:x.length - 1<x.length)] at this
  have:=(List.getElem?_eq_some_iff.1 this).1
  omega
 unfold spl
 apply List.ext_getElem?
 intro i
 rw [List.getElem?_set,List.length_set]
 rcases Nat.lt_or_ge i off with h1|h1
 ·rw [List.append_assoc,List.getElem?_append_left (by rw [List.length_take];omega),List.getElem?_take,if_pos h1,if_neg (by omega)]
 ·rcases Nat.lt_or_ge i (off+x.length) with h2|h2
  ·rw [List.append_assoc,List.getElem?_append_right (by rw [List.length_take];omega),List.length_take,Nat.min_eq_left (by omega),List.getElem?_append_left (by rw [List.length_set];omega),List.getElem?_set]
   by_cases e:off+m=i
   ·rw [if_pos e,if_pos (by omega),if_pos (by omega),if_pos (by omega)]
   ·rw [if_neg e,if_neg (by omega),← h (i - off) (by omega),show off+(i - off)=i by omega]
  ·rw [List.getElem?_append_right (by rw [List.length_append,List.length_take,List.length_set];omega),List.length_append,List.length_take,List.length_set,Nat.min_eq_left (by omega),List.getElem?_drop,if_neg (by omega),show off+x.length+(i - (off+x.length))=i by omega]
theorem RowIs.put1 {e:TypeId} {k:Nat} {xs:List (List D)} {b n cap:Nat} {cs:List D} (h:RowIs e k xs (.slice (some ⟨b,0,none⟩) n cap) [(b,.cells e cs)]) {i m:Nat} {x:List D} {d:D} (hx:xs[i]?=some x) (hm:m<k):RowIs e k (xs.set i (x.set m d)) (.slice (some ⟨b,0,none⟩) n cap) [(b,.cells e (cs.set (i*k+m) d))]:=by
 have hil:=(List.getElem?_eq_some_iff.1 hx).1
 have hxk:=h.len x (List.mem_of_getElem? hx)
 obtain ⟨b',cap',cs',e1,e2,h3⟩:=h.get hx
 cases e1
 have e3:cs'=cs:=by
  have:=List.cons.inj e2
  simpa using this.1.symm
 subst e3
 have:=h.put hil (x':=x.set m d) (by rw [List.length_set];exact hxk)
 rw [bJ6 (by rw [hxk];exact h3) (by omega)] at this
 exact this
end
section
open Go Go.Maps Go.MapKept
theorem ah5 (b:Bool) (e:Int):APure Tryz.prog 67 [bD b,iD e] (iD (if b=true then e else 0)):=by
 refine eP7 Tryz.func67 Tryz.ntmps67 fun BB=>?_
 cases b
 ·repeat' first|refine sk2 ?_|(intro b;conv=>whnf)
  refine Rt.pure (congrArg iD ?_);rfl
 ·repeat' first|refine sk2 ?_|(intro b;conv=>whnf)
  refine Rt.pure (congrArg iD ?_);rfl
def ckC (x:Sch) (w:Wd) (L:List Rf) (rm lm:Nat) (v:Value):List D:=[iD x.version,slK x.kinds,slL x.lives,slR x.rules,slW w,slLn L,.v (.map (some rm)),.v (.map (some lm)),.v v]
theorem aq2 (x:Sch) (w:Wd) (L:List Rf) (rm lm c:Nat) (l:List Prb) (v:Value) (s:aa1) (k i f e:Int) (hr:RowIs 135 4 (l.map prbC) v s) (hl:l.length≤100000000) :
  ACall Tryz.prog 66 [.v (.pointer (some ⟨c,0,none⟩)),iD k,iD i,iD f,.sl 1 [[iD e]]] ((c,.cells 145 (ckC x w L rm lm v)) :: s)
   (fun d σ'=>∃ v' s',d = .v (.tuple #[])∧σ'=(c,.cells 145 (ckC x w L rm lm v')) :: s'∧RowIs 135 4 ((l ++ one k i f e).map prbC) v' s'):=by
 obtain ⟨a,cp,rfl⟩:=hr.slice
 refine eC7 Tryz.func66 Tryz.ntmps66 fun BB=>?_
 repeat' first|refine sk2 ?_|(intro b;conv=>whnf)
 refine aa5 mixed aa0 (γ:=Nat × Value × aa1) (fun g=>[(14,iD g.1)]) (fun g=>(c,.cells 145 (ckC x w L rm lm g.2.1)) :: g.2.2) (fun g=>g.1≤1∧RowIs 135 4 ((l ++ (if g.1=0 then [] else one k i f e)).map prbC) g.2.1 g.2.2) (fun g=>1 - g.1) (0,.slice a (l.map prbC).length cp,s) (aa2 cl3) (Sc.refl _) ⟨by simp,by simpa using hr⟩ ?_
 rintro ⟨q,v,s⟩ ⟨hq,hrow⟩
 simp only at hq hrow ⊢
 by_cases h0:q=0
 ·subst h0
  simp only [if_true,List.append_nil] at hrow
  repeat' first|refine sk2 ?_|(intro b;conv=>whnf)|(with_reducible refine Br.d (fun hc=>?_) (fun hc=>?_))|(with_reducible refine Br.b (fun hc=>?_) (fun hc=>?_))
  ·exact ⟨(1,v,s),(aa2 cl3),Sc.refl _,⟨by simp,by
    simp only [show (1:Nat)≠0 by decide,if_false]
    unfold one;rw [if_pos (by omega)];simpa using hrow⟩,by simp only;omega⟩
  ·refine Ap.go rfl rfl rfl rfl hrow (ba7 _ _) rfl (zs:=(l ++ one k i f e).map prbC) (by unfold one;rw [if_neg (by omega)];simp [prbC]) (by simp [one];split <;> simp <;> omega) (by simp [one];split <;> simp <;> omega) (fun s'=>_ :: s') (aL4 _) (fun a' c' s' hr'=>?_)
   repeat' first|refine sk2 ?_|(intro b;conv=>whnf)
   exact ⟨(1,_,s'),(aa2 cl3),Sc.refl _,⟨by simp,by simpa using hr'⟩,by simp only;omega⟩
 ·obtain rfl:q=1:=by omega
  repeat' first|refine sk2 ?_|(intro b;conv=>whnf)
  exact Rt.same ⟨v,s,rfl,rfl,by simpa using hrow⟩
noncomputable def KF (ks:List Int):Value→Option Value
 | .int .i64 n=>if n∈ks then some (.bool true) else none
 | _=>none
theorem cu9:KF []=fun _=>none:=by
 funext v
 unfold KF
 split <;> simp
theorem bI6 (ks:List Int) (n:Int):updF (KF ks) (.int .i64 n) (.bool true)=KF (n :: ks):=by
 funext v
 unfold updF
 split
 ·rename_i h;subst h;simp [KF]
 ·rename_i h
  unfold KF
  split
  ·rename_i m
   have:m≠n:=fun e=>h (by rw [e])
   simp [this]
  ·rfl
theorem bX3 (ks:List Int) (n:Int):((KF ks) (.int .i64 n)).getD (.bool false) = .bool (decide (n∈ks)):=by
 unfold KF
 by_cases h:n∈ks <;> simp [h]
theorem aY0 (w:World):(zeroValue 4).run Tryz.prog w = .ok (.bool false) w:=by kernel_rfl
theorem sk32 {A B:Prop} (k:B) (h:Hd7 B→A:=by intro hk7q;(first|refine sb0 ?_|refine sb1 ?_|((with_reducible refine' Cp.by ?hc ?_);(case hc=>exact ah5 _ _))|((with_reducible refine' CE.pure ?hc ?_);(case hc=>exact ah5 _ _)));exact hk7q.run):A:=h ⟨k⟩
theorem bp3 (n:Int) (d:Fld):APure Tryz.prog 120 [iD n,.ro (fldC d)] (iD (outE n d.lo d.hi)):=by
 refine eP7 Tryz.func120 Tryz.ntmps120 fun BB=>?_
 unfold outE
 by_cases h1:n<d.lo
 ·rw [if_pos (.inl h1)]
  repeat' first|refine sk32 ?_|(intro b;conv=>whnf)
  refine Rt.pure (congrArg iD ?_);rfl
 ·by_cases h2:d.hi<n
  ·rw [if_pos (.inr h2)]
   repeat' first|refine sk32 ?_|(intro b;conv=>whnf)
   refine Rt.pure (congrArg iD ?_);simp [h2]
  ·rw [if_neg (by omega)]
   repeat' first|refine sk32 ?_|(intro b;conv=>whnf)
   refine Rt.pure (congrArg iD ?_);simp [h2]
theorem sb33 {A B:Prop} (k:B) (h:Hd7 B→A:=by intro hk7q;(first|(with_reducible refine Bc.l ?_)|(with_reducible refine Bx.l ?_)|fail|((with_reducible refine Dm.l ?h ?_);(case h=>decide +kernel))|((with_reducible refine Cb.go ?h ?_);(case h=>decide +kernel)));exact hk7q.run):A:=h ⟨k⟩
theorem sk34 {A B:Prop} (k:B) (h:Hd7 B→A:=by intro hk7q;(first|refine sb0 ?_|refine sb33 ?_|((with_reducible refine' Cp.by ?hc ?_);(case hc=>first|exact ah5 _ _|exact HC))|((with_reducible refine' CE.pure ?hc ?_);(case hc=>first|exact ah5 _ _|exact HC)));exact hk7q.run):A:=h ⟨k⟩
theorem sk35 {A B:Prop} (k:B) (h:Hd7 B→A:=by intro hk7q;(first|refine sb0 ?_|refine sb1 ?_|((with_reducible refine' Cp.by ?hc ?_);(case hc=>first|exact ah5 _ _|exact HC))|((with_reducible refine' CE.pure ?hc ?_);(case hc=>first|exact ah5 _ _|exact HC)));exact hk7q.run):A:=h ⟨k⟩
theorem bQ5 {x:Sch} {w:Wd} {k i f:Nat} {kd:Knd} {d:Fld} {l:List (List Int)} {r:List Int} {n:Int} (L:List Rf) (bk rm lm:Nat) (v:Value) (ks:List Int) (hk:x.kinds[k]?=some kd) (hf:kd.fields[f]?=some d) (hl:w[k]?=some l) (hr:l[i]?=some r) (hv:r[f]?=some n) (hn:InR n) (h3:d.kind=0∨d.kind=1∨d.kind=2)
  (b1:x.kinds.length≤1000000) (b2:kd.fields.length≤1000000) (b3:w.length≤1000000) (b4:l.length≤1000000) (b5:r.length≤1000000) :
  ACall Tryz.prog 68 [.ro (ckC x w L rm lm v),iD k,iD i,iD f,.v (.map (some bk))] [(bk,.obj (MapO Tryz.prog 3 (KF ks)))]
   (fun dd σ'=>dd=iD (codeF x w k kd r i f d ks)∧σ'=[(bk,.obj (MapO Tryz.prog 3 (KF (keyF r f d ks))))]):=by
 have hk':x.kinds[((k:Nat):Int).toNat]?=some kd:=hk
 have hf':kd.fields[((f:Nat):Int).toNat]?=some d:=hf
 have hl':w[((k:Nat):Int).toNat]?=some l:=hl
 have hr':l[((i:Nat):Int).toNat]?=some r:=hr
 have hv':r[((f:Nat):Int).toNat]?=some n:=hv
 have q1:=(List.getElem?_eq_some_iff.1 hk).1
 have q2:=(List.getElem?_eq_some_iff.1 hf).1
 have q3:=(List.getElem?_eq_some_iff.1 hl).1
 have q4:=(List.getElem?_eq_some_iff.1 hr).1
 have q5:=(List.getElem?_eq_some_iff.1 hv).1
 have hn1:=hn.lo
 have hn2:=hn.hi
 refine eC7 Tryz.func68 Tryz.ntmps68 fun BB=>?_
 repeat' first|refine sk34 ?_|(intro b;conv=>whnf)
 refine Dr.r ?_
 repeat' first|refine sk34 ?_|(intro b;conv=>whnf)
 refine dr7 ?_
 refine af2 (i:=11) (d:=.v (.pointer (some ⟨b,0,none⟩))) (d':=.ro (kndC kd)) (τ:=[(bk,.obj (MapO Tryz.prog 3 (KF ks)))]) rfl (fun h=>by cases h) (Vs.ptr (tb:=85) (List.Perm.refl _)) ?_
 refine ao2 mixed aa0 ?_
 repeat' first|refine sk35 ?_|(intro b;conv=>whnf)
 unfold codeF keyF
 rw [aa6 hv]
 rcases h3 with h|h|h
 ·rw [if_pos h]
  by_cases hlo:n<d.lo
  ·rw [if_pos hlo,if_neg (by omega)]
   repeat' first|refine sk35 ?_|(intro b;conv=>whnf)
   exact Rt.by (Vs.drop (List.sublist_cons_self _ _)) ⟨rfl,rfl⟩
  ·rw [if_neg hlo,if_pos (And.intro h hlo)]
   repeat' first|refine sk35 ?_|(intro b;conv=>whnf)
   (refine OtE.yd rfl (ar2 (kv:=.int .i64 n) (u:=.bool (decide (n∈ks))) rfl rfl (KeyD.v _) (List.mem_cons_of_mem _ (List.mem_cons_self)) (fun _ h=>h) am0 Tryz.underlying138 aY0 (ax4 (wf64 hn1 hn2)) (bX3 _ _)) ?_)
   repeat' first|refine sk35 ?_|(intro b;conv=>whnf)
   refine OtE.mapUpdate (b:=bk) (F:=KF ks) (k:=3) (e:=4) (kv:=.int .i64 n) (τ:=[(b,.cells 97 (fldC d))]) rfl rfl (KeyD.v _) rfl (List.Perm.swap _ _ _) am0 Tryz.underlying138 (ax4 (wf64 hn1 hn2)) ?_
   rw [bI6]
   repeat' first|refine sk35 ?_|(intro b;conv=>whnf)
   exact Rt.by (Vs.drop (List.Sublist.cons_cons _ (List.nil_sublist _))) ⟨by simp,rfl⟩
 ·rw [if_neg (by omega),if_neg (by omega),if_neg (by omega),if_neg (by omega),if_neg (by omega),if_neg (by omega),if_neg (by omega),if_neg (by omega)]
  repeat' first|refine sk35 ?_|(intro b;conv=>whnf)
  exact Rt.by (Vs.drop (List.sublist_cons_self _ _)) ⟨rfl,rfl⟩
 ·have HC:=bp3 n d
  rw [if_neg (by omega),if_pos (by omega),if_neg (by omega)]
  repeat' first|refine sk35 ?_|(intro b;conv=>whnf)
  refine CE.pk (APk.peek (.cons (Pk.same _) (.cons (Pk.ptr (j:=0) rfl (PkL.refl _)) .nil)) HC rfl) ?_
  repeat' first|refine sk35 ?_|(intro b;conv=>whnf)
  exact Rt.by (Vs.drop (List.sublist_cons_self _ _)) ⟨rfl,rfl⟩
end
section
open Go Go.Maps Go.MapKept
theorem bV5 (n:Int):APure Tryz.prog 102 [iD n] (bD (!numOk n)):=by
 refine eP7 Tryz.func102 Tryz.ntmps102 fun BB=>?_
 repeat' first|refine sk2 ?_|(intro b;conv=>whnf)|(with_reducible refine Br.d (fun hc=>?_) (fun hc=>?_))|(with_reducible refine Br.b (fun hc=>?_) (fun hc=>?_))
 ·refine Rt.pure (congrArg bD ?_);unfold numOk;simp;omega
 ·refine Rt.pure (congrArg bD ?_);unfold numOk;simp;omega
theorem bW2 {f:FuncId} (l:List Int) (p:Int→Bool) (hl:l.length≤1000000) (hp:∀ y∈l,APure Tryz.prog f [iD y] (bD (p y))):APure Tryz.prog 152 [slI l,.v (.func (.func f) #[] #[])] (iD (idx p l)):=by
 refine eP7 Tryz.func152 Tryz.ntmps152 fun BB=>?_
 repeat' first|refine sk5 ?_|(intro b;conv=>whnf)
 refine ae2 mixed aa0 (γ:=Nat) (fun k=>[(8,iD k)]) (fun _=>[]) (fun k=>k≤l.length∧∀ i y,i<k→l[i]?=some y→p y=false) (fun k=>l.length - k) 0 rfl rfl ⟨by omega,by omega⟩ ?_
 rintro k ⟨hk,hno⟩
 by_cases hlt:k<l.length
 ·obtain ⟨y,hy⟩:∃ y,l[(k:Int).toNat]?=some y:=⟨_,List.getElem?_eq_getElem hlt⟩
  repeat' first|refine sk5 ?_|(intro b;conv=>whnf)|(with_reducible refine Br.d (fun hc=>?_) (fun hc=>?_))|(with_reducible refine Br.b (fun hc=>?_) (fun hc=>?_))
  ·refine Rt.pure (congrArg iD ?_)
   exact (ac5 hy ‹_› hno).symm
  ·exact ⟨k+1,rfl,rfl,⟨by omega,fun i z hi hz=>by
    by_cases e:i=k
    ·subst e;rw [show ((i:Int)).toNat=i from rfl,hz] at hy;cases hy;assumption
    ·exact hno i z (by omega) hz⟩,by omega⟩
 ·repeat' first|refine sk5 ?_|(intro b;conv=>whnf)
  refine Rt.pure (congrArg iD ?_)
  exact (ag5 fun i y hy=>hno i y (by have:=(List.getElem?_eq_some_iff.1 hy).1;omega) hy).symm
theorem sk36 {A B:Prop} (k:B) (h:Hd7 B→A:=by intro hk7q;(first|refine sb0 ?_|refine sb1 ?_|((with_reducible refine' Cp.by ?hc ?_);(case hc=>exact bW2 l p hl hp))|((with_reducible refine' CE.pure ?hc ?_);(case hc=>exact bW2 l p hl hp)));exact hk7q.run):A:=h ⟨k⟩
theorem bH8 {f:FuncId} (l:List Int) (p:Int→Bool) (hl:l.length≤1000000) (hp:∀ y∈l,APure Tryz.prog f [iD y] (bD (p y))):APure Tryz.prog 101 [slI l,.v (.func (.func f) #[] #[])] (bD (l.any p)):=by
 refine eP7 Tryz.func101 Tryz.ntmps101 fun BB=>?_
 repeat' first|refine sk36 ?_|(intro b;conv=>whnf)
 refine Rt.pure (congrArg bD ?_)
 exact ai2 p l
theorem sk37 {A B:Prop} (k:B) (h:Hd7 B→A:=by intro hk7q;(first|refine sb0 ?_|refine sb1 ?_|((with_reducible refine' Cp.by ?hc ?_);(case hc=>exact bH8 _ _ (by assumption) (fun y _=>bV5 y)))|((with_reducible refine' CE.pure ?hc ?_);(case hc=>exact bH8 _ _ (by assumption) (fun y _=>bV5 y))));exact hk7q.run):A:=h ⟨k⟩
theorem cp3 (x:Sch) (k:Nat) (kd:Knd) (r:List Int) (hk:x.kinds[k]?=some kd) (h1:x.kinds.length≤1000000) (h2:r.length≤1000000):APure Tryz.prog 100 [slI r,.ro (schC x),.ro [iD k]] (bD (!recOk x k r)):=by
 have hk':x.kinds[((k:Nat):Int).toNat]?=some kd:=hk
 have q1:=(List.getElem?_eq_some_iff.1 hk).1
 have hE:(r.any fun n=>!numOk n)=!r.all numOk:=by rw [List.all_eq_not_any_not];simp
 have hR:recOk x k r=(decide (r.length=kd.fields.length) && r.all numOk):=by unfold recOk cd3;rw [hk]
 refine eP7 Tryz.func100 Tryz.ntmps100 fun BB=>?_
 by_cases hl:r.length=kd.fields.length
 ·repeat' first|refine sk37 ?_|(intro b;conv=>whnf)
  refine Rt.pure (congrArg bD ?_);rw [hR,hE];simp [hl]
 ·repeat' first|refine sk37 ?_|(intro b;conv=>whnf)
  refine Rt.pure (congrArg bD ?_);rw [hR];simp [hl]
theorem cr6 {f:FuncId} {c1 c2:List D} (l:List (List Int)) (p:List Int→Bool) (hl:l.length≤1000000) (hp:∀ y∈l,APure Tryz.prog f [slI y,.ro c1,.ro c2] (bD (p y))):APure Tryz.prog 151 [slW1 l,.clo f [.ro c1,.ro c2]] (iD (idx p l)):=by
 refine eP7 Tryz.func151 Tryz.ntmps151 fun BB=>?_
 repeat' first|refine sk5 ?_|(intro b;conv=>whnf)
 refine ae2 mixed aa0 (γ:=Nat) (fun k=>[(8,iD k)]) (fun _=>[]) (fun k=>k≤l.length∧∀ i y,i<k→l[i]?=some y→p y=false) (fun k=>l.length - k) 0 rfl rfl ⟨by omega,by omega⟩ ?_
 rintro k ⟨hk,hno⟩
 by_cases hlt:k<l.length
 ·obtain ⟨y,hy⟩:∃ y,l[(k:Int).toNat]?=some y:=⟨_,List.getElem?_eq_getElem hlt⟩
  repeat' first|refine sk5 ?_|(intro b;conv=>whnf)|(with_reducible refine Br.d (fun hc=>?_) (fun hc=>?_))|(with_reducible refine Br.b (fun hc=>?_) (fun hc=>?_))
  ·refine Rt.pure (congrArg iD ?_)
   exact (ac5 hy ‹_› hno).symm
  ·exact ⟨k+1,rfl,rfl,⟨by omega,fun i z hi hz=>by
    by_cases e:i=k
    ·subst e;rw [show ((i:Int)).toNat=i from rfl,hz] at hy;cases hy;assumption
    ·exact hno i z (by omega) hz⟩,by omega⟩
 ·repeat' first|refine sk5 ?_|(intro b;conv=>whnf)
  refine Rt.pure (congrArg iD ?_)
  exact (ag5 fun i y hy=>hno i y (by have:=(List.getElem?_eq_some_iff.1 hy).1;omega) hy).symm
theorem sk38 {A B:Prop} (k:B) (h:Hd7 B→A:=by intro hk7q;(first|refine sb0 ?_|refine sb1 ?_|((with_reducible refine' Cp.by ?hc ?_);(case hc=>exact cr6 l p hl hp))|((with_reducible refine' CE.pure ?hc ?_);(case hc=>exact cr6 l p hl hp)));exact hk7q.run):A:=h ⟨k⟩
theorem cu6 {f:FuncId} {c1 c2:List D} (l:List (List Int)) (p:List Int→Bool) (hl:l.length≤1000000) (hp:∀ y∈l,APure Tryz.prog f [slI y,.ro c1,.ro c2] (bD (p y))):APure Tryz.prog 99 [slW1 l,.clo f [.ro c1,.ro c2]] (bD (l.any p)):=by
 refine eP7 Tryz.func99 Tryz.ntmps99 fun BB=>?_
 repeat' first|refine sk38 ?_|(intro b;conv=>whnf)
 refine Rt.pure (congrArg bD ?_)
 exact ai2 p l
/-! ### The life cycles,backward -/
theorem cc7 (l:List Lif):APure Tryz.prog 103 [slL l] (.clo 153 [.ro [slL l]]):=by
 refine eP7 Tryz.func103 Tryz.ntmps103 fun BB=>?_
 repeat' first|refine sk2 ?_|(intro b;conv=>whnf)
 exact Rt.pure rfl
end
section
open Go Go.RowKit Go.Shelf
attribute [local go_sem] Oper.semAt_some
theorem cg5 (n:Nat) (hn:n≤1000) (l:Nat) (O:Nat→Prop) (J Jx:Nat→World→Prop) (W:World) (b0 o0:Nat) (ad:Option Addr) (cap:Nat) (va:Nat→Nat→Value)
  (h0b:¬ O b0∧b0<W.heap.size) (h0:W.cell? ⟨b0,o0,none⟩=some (.slice ad n cap))
  (h1:∀ (k:Nat),k<n→∃ b off,ad=some ⟨b,off,none⟩∧¬ O b∧b<W.heap.size∧∀ j,j<3→W.cell? ⟨b,off+k*3+j,none⟩=some (va k j))
  (hY:∀ (k j:Nat) W1,k+j+1=n→J k W1→YieldAt Fence.wide 7 Tryz.prog l #[.int .i64 (j:Nat),.agg #[va j 0,va j 1,va j 2]] W1 fun e W'=>
    (e = .returned (.bool true)∧J (k+1) W'∧W1.heap.size≤W'.heap.size∧∀ b,b<W.heap.size→¬ O b→W'.heap[b]?=W1.heap[b]?)∨(e = .returned (.bool false)∧Jx (k+1) W'))
  (hJ:J 0 W):CallsIn Fence.wide 8 Tryz.prog 153 #[.func (.yield l) #[] #[],.pointer (some ⟨b0,o0,none⟩)] W fun e W'=>∃ v,e = .returned v∧(J n W'∨∃ k,Jx k W'):=by
 refine callsIn_of_wp Tryz.func153 rfl trivial ?_ rfl
 simp only [Tryz.ntmps153,List.size_toArray,List.length_cons,List.length_nil,Nat.reduceAdd,Nat.reduceSub,Array.replicate_succ,Array.replicate_zero,List.push_toArray,List.append_toArray,List.nil_append,List.cons_append]
 have cellK:∀ (wr:World),(∀ b,b<W.heap.size→¬ O b→wr.heap[b]?=W.heap[b]?)→∀ (b o:Nat) (v:Value),b<W.heap.size→¬ O b→W.cell? ⟨b,o,none⟩=some v→wr.cell? ⟨b,o,none⟩=some v:=
  fun wr h b o v hb hn hc=>(World.cell?_of_block (w:=W) (a:=⟨b,o,none⟩) (h b hb hn)).trans hc
 gi_wp2
 gi_loopw [3] (fun i wr=>∃ k:Nat,((∃ j:Nat,k+j+1=n∧i = .int .i64 j)∨(k=n∧i = .int .i64 (-1)))∧J k wr∧W.heap.size≤wr.heap.size∧∀ b,b<W.heap.size→¬ O b→wr.heap[b]?=W.heap[b]?) (fun i _=>(intOf i+1).toNat)
 case atStart=>
  refine ⟨0,?_,hJ,Nat.le_refl _,fun _ _ _=>rfl⟩
  rcases Nat.eq_zero_or_pos n with e|e
  ·exact .inr ⟨e.symm,by subst e;rfl⟩
  ·exact .inl ⟨n - 1,by omega,by congr 1;omega⟩
 case round=>
  obtain ⟨k,hi,hJs,hzs,hks⟩:=hrel
  rcases hi with ⟨j,hj,rfl⟩|⟨rfl,rfl⟩
  ·obtain ⟨b,off,rfl,hb1,hb2,hb3⟩:=h1 j (by omega)
   have hs0:=cellK wr hks b0 o0 _ h0b.2 h0b.1 h0
   have hc0:wr.cell? ⟨b,off+j*3,none⟩=some (va j 0):=cellK wr hks b (off+j*3+0) _ hb2 hb1 (hb3 0 (by omega))
   have hc1:=cellK wr hks b (off+j*3+1) _ hb2 hb1 (hb3 1 (by omega))
   have hc2:=cellK wr hks b (off+j*3+2) _ hb2 hb1 (hb3 2 (by omega))
   obtain ⟨fn,tmps,assign,body,hy,hR⟩:=hY k j wr hj hJs
   gi_wp2
   refine hR.mono ?_
   rintro e W3 (⟨rfl,hJ3,hz3,hk3⟩|⟨rfl,hJx3⟩)
   ·gi_wp2
    go_roundw
    case rel=>
     refine ⟨k+1,?_,hJ3,Nat.le_trans hzs hz3,fun b hb hn=>(hk3 b hb hn).trans (hks b hb hn)⟩
     rcases Nat.eq_zero_or_pos j with e|e
     ·exact .inr ⟨by omega,by subst e;rfl⟩
     ·exact .inl ⟨j - 1,by omega,by congr 1;omega⟩
    case measure=>simp [intOf]
   ·gi_wp2
    refine bodyPost_ret (results_none rfl _ _ _) rfl ?_
    exact ⟨_,rfl,.inr ⟨_,hJx3⟩⟩
  ·gi_wp2
   go_end0
   exact ⟨_,rfl,.inl hJs⟩
def cu5 (l:List Lif) (j:Nat):List D:=match l[j]? with
 | some x=>[iD j,lifD x]
 | none=>[]
def be1 (l:List Lif):List (List D):=((List.range l.length).reverse).map (cu5 l)
theorem aN8 (l:List Lif):(be1 l).length=l.length:=by simp [be1]
theorem aN9 {l:List Lif} {k:Nat} {x:List D} (h:(be1 l)[k]?=some x):∃ (j:Nat) (y:Lif),k+j+1=l.length∧l[j]?=some y∧x=[iD j,lifD y]:=by
 have hk:=(List.getElem?_eq_some_iff.1 h).1
 rw [aN8] at hk
 unfold be1 at h
 rw [List.getElem?_map,List.getElem?_reverse (by simpa using hk),List.length_range,List.getElem?_range (by omega)] at h
 simp only [Option.map_some,Option.some.injEq] at h
 obtain ⟨y,hy⟩:∃ y,l[l.length - 1 - k]?=some y:=⟨_,List.getElem?_eq_getElem (by omega)⟩
 exact ⟨l.length - 1 - k,y,by omega,hy,by rw [← h];unfold cu5;rw [hy]⟩
theorem bG5 (l:List Lif) (hl:l.length≤1000):ci5 Tryz.prog 153 [.ro [slL l]] (be1 l):=by
 refine ⟨enters_of Tryz.func153 (by kernel_rfl) rfl,fun O W lb hlb=>?_⟩
 cases lb with
 | nil=>have:=hlb.len;simp at this
 | cons u lb=>
  have:lb=[]:=by have:=hlb.len;simpa using this
  subst this
  obtain ⟨b0,o0,va0,rfl,g1,g2,g3,g4⟩:=(hlb.at_ 0 _ u rfl rfl).ro_inv
  obtain ⟨ad,cap,va,e1,hcap,hk1,hc1,hr1⟩:=(g4 0 _ rfl).sl_inv
  have hcell:=g3 0 (by simp)
  rw [e1,List.length_map] at hcell
  refine ⟨((List.range l.length).reverse).map fun j=>[.int .i64 (j:Nat),.agg #[va j 0,va j 1,va j 2]],by simp [be1],fun k x vs hx hv=>?_,fun q J Jx hJs hJxs hY hJ=>?_⟩
  ·obtain ⟨j,y,h1,h2,rfl⟩:=aN9 hx
   have hkl:k<l.length:=by omega
   rw [List.getElem?_map,List.getElem?_reverse (by simpa using hkl),List.length_range,List.getElem?_range (by omega)] at hv
   simp only [Option.map_some,Option.some.injEq] at hv
   have hj:l.length - 1 - k=j:=by omega
   rw [hj] at hv
   subst hv
   have hy:(l.map lifC)[j]?=some (lifC y):=by rw [List.getElem?_map,h2];rfl
   refine .cons (.v _) (.cons (Rd.agg (lifC y) [va j 0,va j 1,va j 2] rfl fun i d u q1 q2=>?_) .nil)
   match i,q1,q2 with
   | 0,q1,q2=>cases q2;exact hr1 j _ hy 0 d q1
   | 1,q1,q2=>cases q2;exact hr1 j _ hy 1 d q1
   | 2,q1,q2=>cases q2;exact hr1 j _ hy 2 d q1
   | i+3,q1,q2=>simp at q2
  ·refine CallsIn.mono (cg5 l.length hl q O J Jx W b0 o0 ad cap va ⟨g1,g2⟩ (by simpa using hcell) (fun k hk=>?_) (fun k j W1 hkj hJ1=>hY k _ W1 ?_ hJ1) hJ) (fun e W' h=>by rw [aN8];simpa using h)
   ·obtain ⟨b,off,ha,q1,q2,q3⟩:=hc1 k (lifC l[k]) (by rw [List.getElem?_map,List.getElem?_eq_getElem hk];rfl)
    exact ⟨b,off,ha,q1,q2,q3⟩
   ·rw [List.getElem?_map,List.getElem?_reverse (by simp;omega),List.length_range,List.getElem?_range (by omega)]
    simp only [Option.map_some,Option.some.injEq]
    rw [show l.length - 1 - k=j by omega]
end
section
open Go Go.RowKit Go.Shelf
section
variable {P:Program} {r:Option Nat} {n:Nat} {df:Nat} {N:Nat} {σ:aa1} {a:List D} {f:Frm} {T:TypeId→Option TI} {L:List Oper} {Q:Fst}
def cw8 (o:Oper):Bool:=match o.op with
 | .buildSlice _ (_+1) _=>true
 | _=>false
def aq5 (P:Program) (T:TypeId→Option TI) (r:Option Nat) (n:Nat) (df:Nat) (N:Nat) (L:List Oper) (k:Nat) (K:Frm→aa1→Prop) (f:Frm) (σ:aa1):Prop:=match L[k]? with
 | none=>False
 | some o=>match cw8 o with
  | false=>az5 P T r n df N L k K f σ
  | true=>exG L (cutF (o.looksAt L.toArray) f) o fun go=>match go with
   | true=>OtE P r n df L N o (cutF (o.looksAt L.toArray) f) σ (fun f' σ'=>match o.dst with
    | none=>K f σ'
    | some i=>match an2 f' i with
     | none=>False
     | some d=>bif Nat.blt i N then K ((i,d) :: f) σ' else False)
   | false=>False
theorem ai8 (hT:∀ t i,T t=some i→tiOf P t=some i) {E:Nat→Bool} {k:Nat} {K:Frm→aa1→Prop} {G:List D→aa1→Prop} (hE:E k=true) (h:aq5 P T r n df N L k K f σ) (hs:Sp N a f)
  (hk:∀ f' σ' a',K f' σ'→Sp N a' f'→G a' σ'):gOp P r n df L.toArray E k G a σ:=by
 unfold aq5 at h
 split at h
 ·exact h.elim
 ·rename_i o ho
  split at h
  ·exact aq1 hT hE h hs hk
  ·have ho':L.toArray[k]?=some o:=by simpa using ho
   unfold gOp
   rw [ho']
   simp only [hE]
   obtain ⟨go,hw,h1⟩:=aR4 h (hs.cut _)
   cases go with
   | false=>exact h1.elim
   | true=>
    refine h1.run [] _ _ (hs.cut _) hw (fun f' σ' a' h' hs'=>bp9 ⟨rfl,by rw [hs'.len,hs.len],?_⟩)
    cases hd:o.dst with
    | none=>
     rw [hd] at h'
     exact ⟨.any,(fun i hi=>by cases hi),hk _ _ _ h' hs⟩
    | some i=>
     rw [hd] at h'
     simp only at h'
     split at h'
     ·exact h'.elim
     ·rename_i d hf'
      obtain ⟨hi,h2⟩:=ae6 h'
      rw [Nat.blt_eq] at hi
      have hia:i<a'.length:=by rw [hs'.len];exact hi
      refine ⟨a'[i],fun j hj _=>by cases hj;exact List.getElem?_eq_getElem hia,hk _ _ _ h2 ?_⟩
      refine ⟨by simp [putD,hs.len],fun j d' hj=>?_⟩
      simp only [an2] at hj
      cases he:Nat.beq i j with
      | true=>
       rw [he] at hj
       simp only [cond_true,Option.some.injEq] at hj
       have:=Nat.eq_of_beq_eq_true he
       subst this hj
       rcases hs'.at_ i _ hf' with h3|h3
       ·exact .inl h3
       ·right
        rw [List.getElem?_eq_getElem hia] at h3
        simp only [Option.some.injEq] at h3
        simp [putD,hs.len,hi,h3]
      | false=>
       rw [he] at hj
       have hne:i≠j:=fun e=>by subst e;simp at he
       rcases hs.at_ j d' hj with h1|h1
       ·exact .inl h1
       ·exact .inr (by simp [putD,List.getElem?_set,hne,h1])
theorem OtE.bsl (hT:∀ t i,T t=some i→tiOf P t=some i) {o:Oper} {t e:TypeId} {ps:Array (Nat × Operand)} {i j:TI} {ag:Bool} {k by_ m:Nat} {out:List D} {K:Frm→aa1→Prop} (ho:o.op = .buildSlice t m ps) (ht:T t=some i) (hs:i.sl=some (e,ag,k,by_)) (he:T e=some j) (hz:j.zero.length=j.size) (hk:j.size=k) (hp:Nat.blt 0 k=true)
  (hm:Nat.ble (m*k) 1000=true) (h:aW8 (fun q=>some (q*k,k)) (aG5 j.zero k m) (ps.toList.map fun p=>(p.1,evF f p.2))=some out) (hl:(out.length == m*k)=true) (h0:m*k≠0)
  (kk:∀ b,W (putK N o.dst (.v (.slice (some ⟨b,0,none⟩) m m)) f (fun f'=>K f' ((b,.cells e out) :: σ)))):OtE P r n df L N o f σ K:=by
 refine ⟨fun rest Q a hsp hw hkk=>?_⟩
 refine ae8 hw (by rw [ho];rfl) fun w X fr hst=>?_
 obtain ⟨dst,op,ty,pos,aft,g⟩:=o
 simp only at ho
 subst ho
 have hη:∀ x,Rd w (Own σ X) (evF f x) (fr.eval x):=fun x=>hsp.le x _ _ _ (hst.fr.eval x)
 have hp':0<k:=by simpa [Nat.blt_eq] using hp
 have hm':m*k≤1000:=by simpa [Nat.ble_eq] using hm
 have hl':out.length=m*k:=by simpa using hl
 obtain ⟨hu,hsz,_⟩:=ai9 (hT t i ht) hs
 have hsz':=(am3 hsz w).2
 obtain ⟨z,g1,g2⟩:=au9 (hT e j he) hz (by omega) w
 have hzl:z.cells.size=k:=by have:=congrArg List.length g2;simpa [hz,hk] using this
 have hzr:RdL w (Own σ X) (aG5 j.zero k m) ((Array.range (m*k)).map (z.cells[· % z.cells.size]!)).toList:=by
  refine ⟨by simp [aG5],fun q d u h1 h2=>?_⟩
  have hq:q<m*k:=by simpa [aG5] using (List.getElem?_eq_some_iff.1 h1).1
  simp only [aG5,List.getElem?_map,List.getElem?_range hq,Option.map_some,Option.some.injEq] at h1
  simp [hq,hzl] at h2
  subst h1 h2
  have hmod:q % k<k:=Nat.mod_lt _ hp'
  have:z.cells[q % k]! = zv (j.zero.getD (q % k) .bool):=by
   have h3:z.cells.toList[q % k]?=(j.zero.map zv)[q % k]?:=by rw [g2]
   have h4:q % k<j.zero.length:=by omega
   simp [h4,hzl,hmod] at h3
   simp [hzl,hmod,h4]
   exact h3
  rw [this]
  exact .v _
 obtain ⟨arr,k1,k2⟩:=aW7 ps.toList fr.eval _ _ out (fun p hm=>hη p.2) hzr h
 have hrun:(Instr.buildSlice t m (ps.map fun p=>(p.1,fr.eval p.2))).run P w = .ok (.slice (some ⟨w.heap.size,0,none⟩) m m) (w.alloc (.cells arr e)):=by
  have h24:¬ m*k > 2 ^ 24:=by omega
  have h0':¬ (m=0∨k=0):=fun h=>h0 (Nat.mul_eq_zero.2 h)
  simp only [Instr.buildSlice,Sem.run_bind,run_underlying hu,hsz',Result.andThen,if_neg h24,if_neg h0',if_neg h0,g1,Sem.run_pure,Array.toList_map,k1,newRow,newObj,Sem.run]
  rfl
 have e0:(execOp fr.eval ⟨dst,.buildSlice t m ps,ty,pos,aft,g⟩).run P w = .ok (.value (.slice (some ⟨w.heap.size,0,none⟩) m m)) (w.alloc (.cells arr e)):=by
  have e:(execOp fr.eval ⟨dst,.buildSlice t m ps,ty,pos,aft,g⟩)=(do pure (Next.value (← Instr.buildSlice t m (ps.map fun p=>(p.1,fr.eval p.2)))):Sem Next):=by
   unfold execOp
   rfl
  rw [e]
  simp only [Sem.run_bind,hrun,Result.andThen,Sem.run_pure]
 rw [e0]
 obtain ⟨q1,q2,q3⟩:=hst.st.new (.cells arr e) (.cells e out) ⟨arr.toList,by rw [Array.toArray_toList],k2⟩
 obtain ⟨f',hs',h4⟩:=ad4 (kk w.heap.size).h hsp
 exact ⟨_,_,q2,(hst.mv q2 q1).put (.v _) dst,hkk _ _ _ h4 hs'⟩
end
end
section
open Go Go.RowKit Go.Shelf
section
variable {P:Program} {r:Option Nat} {n:Nat} {df:Nat} {ops:Array Oper} {Q:Pst} {a:List D} {σ:aa1} {md:Region.Mode}
def inE (l:List Nat) (i:Nat):Bool:=l.any (Nat.beq i)
inductive Or2 where
 | done
 | one (i:Nat) (t:Or2)
 | two (i:Nat) (t:Or2) (j:Nat) (u:Or2)
 | three (i:Nat) (t:Or2) (j:Nat) (u:Or2) (k:Nat) (v:Or2)
 | four (i:Nat) (t:Or2) (j:Nat) (u:Or2) (k:Nat) (v:Or2) (l:Nat) (w:Or2)
 | fst (i:Nat) (t:Or2)
def or2B (md:Region.Mode) (ops:Array Oper) (E:Nat→Bool):Nat→Or2→Array Bool→Bool
 | 0,.done,listed=>(Region.ready md ops listed).isEmpty
 | f+1,.one i t,listed=>decide (Region.ready md ops listed=[i]) && (E i && or2B md ops E f t (listed.setIfInBounds i true))
 | f+1,.two i t j u,listed=>decide (Region.ready md ops listed=[i,j]) && (E i && E j && (or2B md ops E f t (listed.setIfInBounds i true) && or2B md ops E f u (listed.setIfInBounds j true)))
 | f+1,.three i t j u k v,listed=>decide (Region.ready md ops listed=[i,j,k]) && (E i && E j && E k && (or2B md ops E f t (listed.setIfInBounds i true) && (or2B md ops E f u (listed.setIfInBounds j true) && or2B md ops E f v (listed.setIfInBounds k true))))
 | f+1,.four i t j u k v l w,listed=>decide (Region.ready md ops listed=[i,j,k,l]) && (E i && E j && E k && E l && (or2B md ops E f t (listed.setIfInBounds i true) && (or2B md ops E f u (listed.setIfInBounds j true) && (or2B md ops E f v (listed.setIfInBounds k true) && or2B md ops E f w (listed.setIfInBounds l true)))))
 | f+1,.fst i t,listed=>(Region.ready md ops listed).contains i && Region.free md ops listed i && !E i && or2B md ops E f t (listed.setIfInBounds i true)
 | _,_,_=>false
def gOr2 (P:Program) (r:Option Nat) (n:Nat) (df:Nat) (ops:Array Oper) (E:Nat→Bool) (L:List D→aa1→Prop):Or2→List D→aa1→Prop
 | .done,a,σ=>L a σ
 | .one i t,a,σ=>gOp P r n df ops E i (gOr2 P r n df ops E L t) a σ
 | .two i t j u,a,σ=>gOp P r n df ops E i (gOr2 P r n df ops E L t) a σ∧gOp P r n df ops E j (gOr2 P r n df ops E L u) a σ
 | .three i t j u k v,a,σ=>gOp P r n df ops E i (gOr2 P r n df ops E L t) a σ∧gOp P r n df ops E j (gOr2 P r n df ops E L u) a σ∧gOp P r n df ops E k (gOr2 P r n df ops E L v) a σ
 | .four i t j u k v l w,a,σ=>gOp P r n df ops E i (gOr2 P r n df ops E L t) a σ∧gOp P r n df ops E j (gOr2 P r n df ops E L u) a σ∧gOp P r n df ops E k (gOr2 P r n df ops E L v) a σ∧gOp P r n df ops E l (gOr2 P r n df ops E L w) a σ
 | .fst i t,a,σ=>∃ o d,ops[i]?=some o∧YsIn none P ops [] o d a∧gOr2 P r n df ops E L t (putD a o.dst d) σ
theorem ae5 {E:Nat→Bool} {L:List D→aa1→Prop}:∀ (f:Nat) (t:Or2) (listed:Array Bool) (a:List D) (σ:aa1),HeadInv md ops ops.size listed→or2B md ops E f t listed=true→gOr2 P r n df ops E L t a σ→gAny P r n df md ops E L f listed a σ
 | 0,.done,listed,a,σ,_,hB,h=>⟨by simpa [or2B] using hB,h⟩
 | f+1,.one i t,listed,a,σ,inv,hB,h=>by
  simp only [or2B,Bool.and_eq_true,decide_eq_true_eq] at hB
  refine ⟨fun h1=>(by rw [hB.1] at h1;cases h1),fun k hk=>?_⟩
  have hk2:=hk
  rw [hB.1] at hk
  have:k=i:=by simpa using hk
  subst this
  obtain ⟨_,o,ho,_⟩:=mem_ready.1 hk2
  exact ac1 (fun a' σ' h'=>ae5 f t _ a' σ' (inv.set hk2 (Array.getElem?_eq_some_iff.1 ho).1) hB.2.2 h') h
 | f+1,.two i t j u,listed,a,σ,inv,hB,h=>by
  simp only [or2B,Bool.and_eq_true,decide_eq_true_eq] at hB
  refine ⟨fun h1=>(by rw [hB.1] at h1;cases h1),fun k hk=>?_⟩
  have hk2:=hk
  rw [hB.1] at hk
  obtain ⟨_,o,ho,_⟩:=mem_ready.1 hk2
  have inv':=inv.set hk2 (Array.getElem?_eq_some_iff.1 ho).1
  have:k=i∨k=j:=by simpa using hk
  rcases this with rfl|rfl
  ·exact ac1 (fun a' σ' h'=>ae5 f t _ a' σ' inv' hB.2.2.1 h') h.1
  ·exact ac1 (fun a' σ' h'=>ae5 f u _ a' σ' inv' hB.2.2.2 h') h.2
 | f+1,.three i t j u l v,listed,a,σ,inv,hB,h=>by
  simp only [or2B,Bool.and_eq_true,decide_eq_true_eq] at hB
  refine ⟨fun h1=>(by rw [hB.1] at h1;cases h1),fun k hk=>?_⟩
  have hk2:=hk
  rw [hB.1] at hk
  obtain ⟨_,o,ho,_⟩:=mem_ready.1 hk2
  have inv':=inv.set hk2 (Array.getElem?_eq_some_iff.1 ho).1
  have:k=i∨k=j∨k=l:=by simpa using hk
  rcases this with rfl|rfl|rfl
  ·exact ac1 (fun a' σ' h'=>ae5 f t _ a' σ' inv' hB.2.2.1 h') h.1
  ·exact ac1 (fun a' σ' h'=>ae5 f u _ a' σ' inv' hB.2.2.2.1 h') h.2.1
  ·exact ac1 (fun a' σ' h'=>ae5 f v _ a' σ' inv' hB.2.2.2.2 h') h.2.2
 | f+1,.four i t j u l v m w,listed,a,σ,inv,hB,h=>by
  simp only [or2B,Bool.and_eq_true,decide_eq_true_eq] at hB
  refine ⟨fun h1=>(by rw [hB.1] at h1;cases h1),fun k hk=>?_⟩
  have hk2:=hk
  rw [hB.1] at hk
  obtain ⟨_,o,ho,_⟩:=mem_ready.1 hk2
  have inv':=inv.set hk2 (Array.getElem?_eq_some_iff.1 ho).1
  have:k=i∨k=j∨k=l∨k=m:=by simpa using hk
  rcases this with rfl|rfl|rfl|rfl
  ·exact ac1 (fun a' σ' h'=>ae5 f t _ a' σ' inv' hB.2.2.1 h') h.1
  ·exact ac1 (fun a' σ' h'=>ae5 f u _ a' σ' inv' hB.2.2.2.1 h') h.2.1
  ·exact ac1 (fun a' σ' h'=>ae5 f v _ a' σ' inv' hB.2.2.2.2.1 h') h.2.2.1
  ·exact ac1 (fun a' σ' h'=>ae5 f w _ a' σ' inv' hB.2.2.2.2.2 h') h.2.2.2
 | f+1,.fst i t,listed,a,σ,inv,hB,h=>by
  simp only [or2B,Bool.and_eq_true,Bool.not_eq_true'] at hB
  obtain ⟨⟨⟨hr,hf⟩,hE⟩,hB'⟩:=hB
  obtain ⟨o,d,ho,hy,hk⟩:=h
  have hr':i∈Region.ready md ops listed:=by simpa using hr
  have hin:i<ops.size:=(Array.getElem?_eq_some_iff.1 ho).1
  have H:=ae5 f t _ _ _ (inv.set hr' hin) hB' hk
  exact ao6 (S:=fun _=>True) ho hE (fun _ _ _ _ _ _ _=>trivial) f listed a σ inv (Region.free_spec ho hf) hr' trivial (fun s _=>hy.free s) H
 | 0,.one _ _,_,_,_,_,hB,_=>by cases hB
 | 0,.three _ _ _ _ _ _,_,_,_,_,hB,_=>by cases hB
 | 0,.four _ _ _ _ _ _ _ _,_,_,_,_,hB,_=>by cases hB
 | 0,.two _ _ _ _,_,_,_,_,hB,_=>by cases hB
 | 0,.fst _ _,_,_,_,_,hB,_=>by cases hB
 | _+1,.done,_,_,_,_,hB,_=>by cases hB
def bB2 (md:Region.Mode) (ops:Array Oper) (E:Nat→Bool) (f:Nat) (t:Or2):List Nat→Array Bool→Bool
 | [],listed=>or2B md ops E f t listed
 | i :: hs,listed=>(Region.ready md ops listed).contains i && Region.free md ops listed i && !E i && bB2 md ops E f t hs (listed.setIfInBounds i true)
theorem aG2 {E:Nat→Bool} {L:List D→aa1→Prop} {f:Nat} {t:Or2}:∀ (hs:List Nat) (listed:Array Bool) (a:List D) (σ:aa1),HeadInv md ops ops.size listed→bB2 md ops E f t hs listed=true →
  gLex P md ops E (gOr2 P r n df ops E L t) hs a σ→gAny P r n df md ops E L (hs.length+f) listed a σ
 | [],listed,a,σ,inv,hB,h=>by
  rw [show ([]:List Nat).length+f=f by simp]
  exact ae5 f t listed a σ inv hB h
 | i :: hs,listed,a,σ,inv,hB,h=>by
  simp only [bB2,Bool.and_eq_true,Bool.not_eq_true'] at hB
  obtain ⟨⟨⟨hr,hf⟩,hE⟩,hB'⟩:=hB
  obtain ⟨o,d,ho,hy,hk⟩:=h
  have hr':i∈Region.ready md ops listed:=by simpa using hr
  have hin:i<ops.size:=(Array.getElem?_eq_some_iff.1 ho).1
  have H:=aG2 hs _ _ _ (inv.set hr' hin) hB' hk
  rw [show (i :: hs).length+f=(hs.length+f)+1 by simp;omega]
  rcases hy with ⟨hb,hy⟩|hy
  ·exact ao6 (S:=fun s=>s=σ) ho hE (fun ls i1 i2 j hj e=>by rw [bi5 hb ls i1 i2 j hj] at e;cases e) _ listed a σ inv (Region.free_spec ho hf) hr' rfl (fun s e=>by subst e;exact hy) H
  ·exact ao6 (S:=fun _=>True) ho hE (fun _ _ _ _ _ _ _=>trivial) _ listed a σ inv (Region.free_spec ho hf) hr' trivial (fun s _=>hy.free s) H
theorem be2 {id:Nat} {l:List Oper} (E:Nat→Bool) (hs:List Nat) (f:Nat) (t:Or2) (hm:P.follows .mixedOrders=true) (hl:hs.length+f=l.length) (hB:bB2 .any l.toArray E f t hs (Array.replicate l.length false)=true)
  (h:gLex P .any l.toArray E (gOr2 P r n df l.toArray E (fun a σ=>Q .normal a σ) t) hs a σ):AWP P r n df (.region id l.toArray true) Q a σ:=by
 refine ⟨fun w X fr hst=>?_⟩
 have inv0:HeadInv .any l.toArray l.toArray.size (Array.replicate l.length false):=
  ⟨by simp,fun j oj _ hl=>(by rw [getD_replicate_false] at hl;cases hl),fun t ht ht'=>by omega⟩
 refine wpIn_region_any hm ?_
 have hx0:=ay8 w
 have:=al5 (w0:=w) (σ0:=σ) (X:=X) _ _ _ _ fr { w with drawn:=w.drawn+1 } (Mv.of_ex hx0) (hst.ex hx0) (aG2 hs _ a σ inv0 hB h)
 rw [hl] at this
 have e:l.toArray.size=l.length:=by simp
 rw [e]
 exact this
theorem ai5 {E:Nat→Bool} {L L':List D→aa1→Prop} (h:∀ a σ,L a σ→L' a σ):∀ {t:Or2} {a:List D} {σ:aa1},gOr2 P r n df ops E L t a σ→gOr2 P r n df ops E L' t a σ
 | .done,_,_,hh=>h _ _ hh
 | .one _ _,_,_,hh=>ac1 (fun _ _=>ai5 h) hh
 | .two _ _ _ _,_,_,hh=>⟨ac1 (fun _ _=>ai5 h) hh.1,ac1 (fun _ _=>ai5 h) hh.2⟩
 | .three _ _ _ _ _ _,_,_,hh=>⟨ac1 (fun _ _=>ai5 h) hh.1,ac1 (fun _ _=>ai5 h) hh.2.1,ac1 (fun _ _=>ai5 h) hh.2.2⟩
 | .four _ _ _ _ _ _ _ _,_,_,hh=>⟨ac1 (fun _ _=>ai5 h) hh.1,ac1 (fun _ _=>ai5 h) hh.2.1,ac1 (fun _ _=>ai5 h) hh.2.2.1,ac1 (fun _ _=>ai5 h) hh.2.2.2⟩
 | .fst _ _,_,_,hh=>let ⟨o,d,h1,h2,h3⟩:=hh;⟨o,d,h1,h2,ai5 h h3⟩
end
section
variable {P:Program} {r:Option Nat} {n:Nat} {df:Nat} {N:Nat} {σ:aa1} {a:List D} {f:Frm} {T:TypeId→Option TI} {L:List Oper} {Q:Fst}
def cg1 (P:Program) (T:TypeId→Option TI) (N:Nat) (L:List Oper) (i:Nat) (K:Frm→Prop) (f:Frm):Prop:=match L[i]? with
 | none=>False
 | some o=>exG L f o fun go=>match go with
  | true=>bif ah1 o.op then exY P T o f [] (fun d=>putK N o.dst d f K) else False
  | false=>putK N o.dst (.v undef) f K
def aD1 (P:Program) (T:TypeId→Option TI) (r:Option Nat) (n:Nat) (df:Nat) (N:Nat) (L:List Oper) (K:Frm→aa1→Prop):Or2→Frm→aa1→Prop
 | .done,f,σ=>K f σ
 | .one i t,f,σ=>aq5 P T r n df N L i (aD1 P T r n df N L K t) f σ
 | .two i t j u,f,σ=>aq5 P T r n df N L i (aD1 P T r n df N L K t) f σ∧aq5 P T r n df N L j (aD1 P T r n df N L K u) f σ
 | .three i t j u k v,f,σ=>aq5 P T r n df N L i (aD1 P T r n df N L K t) f σ∧aq5 P T r n df N L j (aD1 P T r n df N L K u) f σ∧aq5 P T r n df N L k (aD1 P T r n df N L K v) f σ
 | .four i t j u k v l w,f,σ=>aq5 P T r n df N L i (aD1 P T r n df N L K t) f σ∧aq5 P T r n df N L j (aD1 P T r n df N L K u) f σ∧aq5 P T r n df N L k (aD1 P T r n df N L K v) f σ∧aq5 P T r n df N L l (aD1 P T r n df N L K w) f σ
 | .fst i t,f,σ=>cg1 P T N L i (fun f'=>aD1 P T r n df N L K t f' σ) f
theorem bQ0 (hT:∀ t i,T t=some i→tiOf P t=some i) {i:Nat} {K:Frm→Prop} (h:cg1 P T N L i K f) (hs:Sp N a f):∃ o d,L.toArray[i]?=some o∧YsIn none P L.toArray [] o d a∧∃ f',Sp N (putD a o.dst d) f'∧K f':=by
 unfold cg1 at h
 split at h
 ·exact h.elim
 ·rename_i o ho
  have ho':L.toArray[i]?=some o:=by simpa using ho
  obtain ⟨go,hw,h1⟩:=aR4 (K:=fun go=>match go with
   | true=>bif ah1 o.op then exY P T o f [] (fun d=>putK N o.dst d f K) else False
   | false=>putK N o.dst (.v undef) f K) h hs
  cases go with
  | true=>
   obtain ⟨hn,h2⟩:=ae6 h1
   obtain ⟨d,hy,h3⟩:=aR3 hT h2
   obtain ⟨f',hs',h4⟩:=ad4 h3 hs
   exact ⟨o,d,ho',.inl ⟨hw,hn,.of (hy.le hs.le)⟩,f',hs',h4⟩
  | false=>
   obtain ⟨f',hs',h4⟩:=ad4 h1 hs
   exact ⟨o,_,ho',.inr ⟨hw,rfl⟩,f',hs',h4⟩
def an6 (p:Nat→Bool):Or2→Bool
 | .done=>true
 | .one i t=>p i && an6 p t
 | .two i t j u=>p i && (an6 p t && (p j && an6 p u))
 | .three i t j u k v=>p i && (an6 p t && (p j && (an6 p u && (p k && an6 p v))))
 | .four i t j u k v l w=>p i && (an6 p t && (p j && (an6 p u && (p k && (an6 p v && (p l && an6 p w))))))
 | .fst _ t=>an6 p t
theorem ak9 (hT:∀ t i,T t=some i→tiOf P t=some i) {E:Nat→Bool}:∀ {t:Or2} {K:Frm→aa1→Prop} {f:Frm} {σ:aa1} {a:List D},an6 E t=true→aD1 P T r n df N L K t f σ→Sp N a f→gOr2 P r n df L.toArray E (fun a' σ'=>∃ f',Sp N a' f'∧K f' σ') t a σ
 | .done,K,f,σ,a,hE,h,hs=>⟨f,hs,h⟩
 | .one i t,K,f,σ,a,hE,h,hs=>by
  simp only [an6,Bool.and_eq_true] at hE
  exact ai8 hT hE.1 h hs (fun f' σ' a' h2 hs'=>ak9 hT hE.2 h2 hs')
 | .two i t j u,K,f,σ,a,hE,h,hs=>by
  simp only [an6,Bool.and_eq_true] at hE
  exact ⟨ai8 hT hE.1 h.1 hs (fun f' σ' a' h2 hs'=>ak9 hT hE.2.1 h2 hs'),ai8 hT hE.2.2.1 h.2 hs (fun f' σ' a' h2 hs'=>ak9 hT hE.2.2.2 h2 hs')⟩
 | .three i t j u k v,K,f,σ,a,hE,h,hs=>by
  simp only [an6,Bool.and_eq_true] at hE
  exact ⟨ai8 hT hE.1 h.1 hs (fun f' σ' a' h2 hs'=>ak9 hT hE.2.1 h2 hs'),ai8 hT hE.2.2.1 h.2.1 hs (fun f' σ' a' h2 hs'=>ak9 hT hE.2.2.2.1 h2 hs'),ai8 hT hE.2.2.2.2.1 h.2.2 hs (fun f' σ' a' h2 hs'=>ak9 hT hE.2.2.2.2.2 h2 hs')⟩
 | .four i t j u k v l w,K,f,σ,a,hE,h,hs=>by
  simp only [an6,Bool.and_eq_true] at hE
  exact ⟨ai8 hT hE.1 h.1 hs (fun f' σ' a' h2 hs'=>ak9 hT hE.2.1 h2 hs'),ai8 hT hE.2.2.1 h.2.1 hs (fun f' σ' a' h2 hs'=>ak9 hT hE.2.2.2.1 h2 hs'),ai8 hT hE.2.2.2.2.1 h.2.2.1 hs (fun f' σ' a' h2 hs'=>ak9 hT hE.2.2.2.2.2.1 h2 hs'),ai8 hT hE.2.2.2.2.2.2.1 h.2.2.2 hs (fun f' σ' a' h2 hs'=>ak9 hT hE.2.2.2.2.2.2.2 h2 hs')⟩
 | .fst i t,K,f,σ,a,hE,h,hs=>by
  simp only [an6] at hE
  obtain ⟨o,d,h1,h2,f',h3,h4⟩:=bQ0 (K:=fun f'=>aD1 P T r n df N L K t f' σ) hT h hs
  exact ⟨o,d,h1,h2,ak9 hT hE h4 h3⟩
theorem ah2 (hm:P.follows .mixedOrders=true) (hT:∀ t i,T t=some i→tiOf P t=some i) {id:Nat} {O:Array Oper} (hO:O=L.toArray) (hs:List Nat) (fu:Nat) (E:Nat→Bool) (t:Or2) {γ:Type} (ps:γ→Frm) (S:γ→aa1) (I:γ→Prop)
  (hB:(Nat.beq (hs.length+fu) L.length && bB2 .any L.toArray E fu t hs (Array.replicate L.length false) && an6 E t)=true)
  (h:W (exHs P T N L E σ hs (fun f1=>aD1 P T r n df N L (fun f' σ'=>∃ g,chkF f' (ar9 (.region id O true) f (ps g))∧Sc σ' (S g)∧I g) t f1 σ) f))
  (kk:∀ g,I g→W (aC6 (ar9 (.region id O true) f (ps g)) fun F=>Q .normal F (S g))):Lp P r n df N (.region id O true) Q f σ:=by
 subst hO
 simp only [Bool.and_eq_true] at hB
 refine ⟨fun a hs'=>?_⟩
 refine aI9 (be2 (Q:=fun e a' σ'=>e = .normal∧∃ f',Sp N a' f'∧∃ g,chkF f' (ar9 (.region id L.toArray true) f (ps g))∧Sc σ' (S g)∧I g) E hs fu t hm (Nat.eq_of_beq_eq_true hB.1.1) hB.1.2 (ax5 (fun a' σ' h'=>?_) (aA4 hT h.h hs'))) ?_
 ·obtain ⟨rfl,f',h1,h2⟩:=h'
  have:=ak9 hT hB.2 h2 h1
  exact ai5 (fun a σ h=>⟨rfl,h⟩) this
 ·rintro e a' σ' ⟨rfl,f',h1,g,h2,h4,h3⟩
  exact ⟨S g,h4,_,h1.sub h2,ap9 (kk g h3).h⟩
end
end
end Go.Proofs.YtlcfiilejnnlnaaGreatDoor
